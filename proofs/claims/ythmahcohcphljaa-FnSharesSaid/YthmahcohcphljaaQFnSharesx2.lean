/- Contracts of functions that the law reaches: what each call returns and what it leaves in memory. Made by this session over the print of the kit. -/
import Derived.Test.YthmahcohcphljaaQFnSharesx0
import Derived.Test.YthmahcohcphljaaQFnSharesx1
namespace Go.Proofs.Ythmahcohcphljaa.QFnShares
open Go.RowKit Go.Proofs.YthmahcohcphljaaS.PrintWords Go.Proofs.YthmahcohcphljaaS.PrintLast Go.Proofs.YthmahcohcphljaaS.PrintMore
attribute [local go_sem] max2_int min2_int max_two min_two max_three min_three max_four min_four   -- for this text's walks alone
set_option linter.unusedVariables false
set_option linter.unusedSimpArgs false
def ba2_0 : Array Bool := bs_ 22 0
def ba2_1 : Array Bool := bs_ 22 1
def ba2_2 : Array Bool := bs_ 22 3
def ba2_3 : Array Bool := bs_ 22 7
def ba2_4 : Array Bool := bs_ 22 15
def ba2_5 : Array Bool := bs_ 22 31
def ba2_6 : Array Bool := bs_ 22 63
def ba2_7 : Array Bool := bs_ 22 127
def ba2_8 : Array Bool := bs_ 22 255
def ba2_9 : Array Bool := bs_ 22 511
def ba2_10 : Array Bool := bs_ 22 4607
def ba2_11 : Array Bool := bs_ 22 37375
def ba2_12 : Array Bool := bs_ 22 102911
def ba2_13 : Array Bool := bs_ 22 103423
def ba2_14 : Array Bool := bs_ 22 104447
def ba2_15 : Array Bool := bs_ 22 106495
def ba2_16 : Array Bool := bs_ 22 114687
def ba2_17 : Array Bool := bs_ 22 131071
def ba2_18 : Array Bool := bs_ 22 262143
def ba2_19 : Array Bool := bs_ 22 524287
def ba2_20 : Array Bool := bs_ 22 1048575
def ba2_21 : Array Bool := bs_ 22 2097151
def ba2_22 : Array Bool := bs_ 22 4194303
def ba2_23 : Array Bool := bs_ 13 0
def ba2_24 : Array Bool := bs_ 13 1
def ba2_25 : Array Bool := bs_ 13 3
def ba2_26 : Array Bool := bs_ 13 11
def ba2_27 : Array Bool := bs_ 13 27
def ba2_28 : Array Bool := bs_ 13 283
def ba2_29 : Array Bool := bs_ 13 287
def ba2_30 : Array Bool := bs_ 13 319
def ba2_31 : Array Bool := bs_ 13 383
def ba2_32 : Array Bool := bs_ 13 511
def ba2_33 : Array Bool := bs_ 13 1023
def ba2_34 : Array Bool := bs_ 13 2047
def ba2_35 : Array Bool := bs_ 13 4095
def ba2_36 : Array Bool := bs_ 13 8191
def ba2_37 : Array Bool := bs_ 22 1023
def ba2_38 : Array Bool := bs_ 22 2047
def ba2_39 : Array Bool := bs_ 22 4095
def ba2_40 : Array Bool := bs_ 22 8191
def ba2_41 : Array Bool := bs_ 22 16383
def ba2_42 : Array Bool := bs_ 22 32767
def ba2_43 : Array Bool := bs_ 22 65535

/-! ### spec_Distances: function 33 -/
mutual
def spec_Distances.j0 : Nat → Int → Bool → Int → List (S76) → Option (List Int)
 | 0, _, _, _, _ => none
 | k + 1, x1, x18, x113000, x113001 => if x18 = true then (some ([] : List Int)) else (spec_Distances.l0 k x1 (([] : List Int)) 0 x113000 x113001)
def spec_Distances.l0 : Nat → Int → List Int → Int → Int → List (S76) → Option (List Int)
 | 0, _, _, _, _, _ => none
 | k + 1, x1, x5, x6, x113000, x113001 => if x6 < x113000 then (if x5.length < 17592186044416 then (spec_Distances.l0 k x1 (x5 ++ [1000000]) (wrap64 (x6 + 1)) x113000 x113001) else (none)) else (if 0 ≤ x1 then (if x1 < (x5.length : Int) then (spec_Distances.l1 k (x5.set (x1 : Int).toNat 0) 0 x113000 x113001) else (none)) else (none))
def spec_Distances.l1 : Nat → List Int → Int → Int → List (S76) → Option (List Int)
 | 0, _, _, _, _ => none
 | k + 1, x5, x7, x113000, x113001 => if x7 < x113000 then (spec_Distances.l2 k x5 x7 0 x113000 x113001) else (some x5)
def spec_Distances.l2 : Nat → List Int → Int → Int → Int → List (S76) → Option (List Int)
 | 0, _, _, _, _, _ => none
 | k + 1, x5, x7, x8, x113000, x113001 => if x8 < (x113001.length : Int) then (if 0 ≤ x8 then (if 0 ≤ ((rd_T76 x113001 x8).f0) then (if ((rd_T76 x113001 x8).f0) < (x5.length : Int) then (if (rd x5 ((rd_T76 x113001 x8).f0)) < 1000000 then (if 0 ≤ ((rd_T76 x113001 x8).f1) then (if ((rd_T76 x113001 x8).f1) < (x5.length : Int) then (if (wrap64 ((rd x5 ((rd_T76 x113001 x8).f0)) + ((rd_T76 x113001 x8).f2))) < (rd x5 ((rd_T76 x113001 x8).f1)) then (spec_Distances.l2 k (x5.set (((rd_T76 x113001 x8).f1) : Int).toNat (wrap64 ((rd x5 ((rd_T76 x113001 x8).f0)) + ((rd_T76 x113001 x8).f2)))) x7 (wrap64 (x8 + 1)) x113000 x113001) else (spec_Distances.l2 k x5 x7 (wrap64 (x8 + 1)) x113000 x113001)) else (none)) else (none)) else (spec_Distances.l2 k x5 x7 (wrap64 (x8 + 1)) x113000 x113001)) else (none)) else (none)) else (none)) else (spec_Distances.l1 k x5 (wrap64 (x7 + 1)) x113000 x113001)
end
def spec_Distances.f (k : Nat) (a0_0 : Int) (l0_1 : List (S76)) (a1 : Int) : Option (List Int) := (spec_GraphOk.f k a0_0 l0_1).bind fun t113 => (if t113 = true then ((spec_l03Node.f a0_0 l0_1 a1).bind fun t114 => (spec_Distances.j0 k a1 (!t114) a0_0 l0_1)) else (spec_Distances.j0 k a1 true a0_0 l0_1))
theorem spec_Distances.mono_l : ∀ k, (∀ y0 y1 y2 y3, LeO (spec_Distances.j0 k y0 y1 y2 y3) (spec_Distances.j0 (k + 1) y0 y1 y2 y3)) ∧ (∀ y0 y1 y2 y3 y4, LeO (spec_Distances.l0 k y0 y1 y2 y3 y4) (spec_Distances.l0 (k + 1) y0 y1 y2 y3 y4)) ∧ (∀ y0 y1 y2 y3, LeO (spec_Distances.l1 k y0 y1 y2 y3) (spec_Distances.l1 (k + 1) y0 y1 y2 y3)) ∧ (∀ y0 y1 y2 y3 y4, LeO (spec_Distances.l2 k y0 y1 y2 y3 y4) (spec_Distances.l2 (k + 1) y0 y1 y2 y3 y4))
 | 0 => ⟨fun _ _ _ _ r h => by simp [spec_Distances.j0] at h, fun _ _ _ _ _ r h => by simp [spec_Distances.l0] at h, fun _ _ _ _ r h => by simp [spec_Distances.l1] at h, fun _ _ _ _ _ r h => by simp [spec_Distances.l2] at h⟩
 | k + 1 => by
  obtain ⟨ih0, ih1, ih2, ih3⟩ := spec_Distances.mono_l k
  refine ⟨?_, ?_, ?_, ?_⟩
  ·intro y0 y1 y2 y3
   unfold spec_Distances.j0
   repeat' first | (with_reducible first | exact ih0 _ _ _ _ | exact ih1 _ _ _ _ _ | exact ih2 _ _ _ _ | exact ih3 _ _ _ _ _ | exact spec_GraphOk.mono _ _ _ | exact LeO.refl _ | exact LeO.none _ | refine LeO.ite ?_ ?_ | refine LeO.bind ?_ (fun _ => ?_)) | exact ih0 _ _ _ _ | exact ih1 _ _ _ _ _ | exact ih2 _ _ _ _ | exact ih3 _ _ _ _ _ | exact spec_GraphOk.mono _ _ _ | exact LeO.none _ | refine LeO.ite ?_ ?_ | refine LeO.bind ?_ (fun _ => ?_)
  ·intro y0 y1 y2 y3 y4
   unfold spec_Distances.l0
   repeat' first | (with_reducible first | exact ih0 _ _ _ _ | exact ih1 _ _ _ _ _ | exact ih2 _ _ _ _ | exact ih3 _ _ _ _ _ | exact spec_GraphOk.mono _ _ _ | exact LeO.refl _ | exact LeO.none _ | refine LeO.ite ?_ ?_ | refine LeO.bind ?_ (fun _ => ?_)) | exact ih0 _ _ _ _ | exact ih1 _ _ _ _ _ | exact ih2 _ _ _ _ | exact ih3 _ _ _ _ _ | exact spec_GraphOk.mono _ _ _ | exact LeO.none _ | refine LeO.ite ?_ ?_ | refine LeO.bind ?_ (fun _ => ?_)
  ·intro y0 y1 y2 y3
   unfold spec_Distances.l1
   repeat' first | (with_reducible first | exact ih0 _ _ _ _ | exact ih1 _ _ _ _ _ | exact ih2 _ _ _ _ | exact ih3 _ _ _ _ _ | exact spec_GraphOk.mono _ _ _ | exact LeO.refl _ | exact LeO.none _ | refine LeO.ite ?_ ?_ | refine LeO.bind ?_ (fun _ => ?_)) | exact ih0 _ _ _ _ | exact ih1 _ _ _ _ _ | exact ih2 _ _ _ _ | exact ih3 _ _ _ _ _ | exact spec_GraphOk.mono _ _ _ | exact LeO.none _ | refine LeO.ite ?_ ?_ | refine LeO.bind ?_ (fun _ => ?_)
  ·intro y0 y1 y2 y3 y4
   unfold spec_Distances.l2
   repeat' first | (with_reducible first | exact ih0 _ _ _ _ | exact ih1 _ _ _ _ _ | exact ih2 _ _ _ _ | exact ih3 _ _ _ _ _ | exact spec_GraphOk.mono _ _ _ | exact LeO.refl _ | exact LeO.none _ | refine LeO.ite ?_ ?_ | refine LeO.bind ?_ (fun _ => ?_)) | exact ih0 _ _ _ _ | exact ih1 _ _ _ _ _ | exact ih2 _ _ _ _ | exact ih3 _ _ _ _ _ | exact spec_GraphOk.mono _ _ _ | exact LeO.none _ | refine LeO.ite ?_ ?_ | refine LeO.bind ?_ (fun _ => ?_)
theorem spec_Distances.mono : ∀ a0 a1 a2 k, LeO (spec_Distances.f k a0 a1 a2) (spec_Distances.f (k + 1) a0 a1 a2) := by
 intro a0 a1 a2 k
 obtain ⟨ih0, ih1, ih2, ih3⟩ := spec_Distances.mono_l k
 unfold spec_Distances.f
 repeat' first | (with_reducible first | exact ih0 _ _ _ _ | exact ih1 _ _ _ _ _ | exact ih2 _ _ _ _ | exact ih3 _ _ _ _ _ | exact spec_GraphOk.mono _ _ _ | exact LeO.refl _ | exact LeO.none _ | refine LeO.ite ?_ ?_ | refine LeO.bind ?_ (fun _ => ?_)) | exact ih0 _ _ _ _ | exact ih1 _ _ _ _ _ | exact ih2 _ _ _ _ | exact ih3 _ _ _ _ _ | exact spec_GraphOk.mono _ _ _ | exact LeO.none _ | refine LeO.ite ?_ ?_ | refine LeO.bind ?_ (fun _ => ?_)
def spec_Distances.T16 : Bool × List (List Nat × List Nat) := (true, [([], []), ([], []), ([1], [1]), ([0, 2], [0, 2]), ([3], [3]), ([4], [4]), ([5], [5]), ([6], [6]), ([6], [6]), ([8, 6], [6, 8]), ([7, 9, 6], [6, 7, 9]), ([10, 6], [6, 10]), ([6], [6]), ([12, 6], [6, 12]), ([11, 13, 6], [6, 11, 13]), ([6], [6]), ([6], [6]), ([16, 6], [6, 16]), ([15, 17, 6], [6, 15, 17]), ([18, 6], [6, 18]), ([14, 19, 6], [6, 14, 19]), ([6, 20], [6, 20])])
def spec_Distances.B16 : List Nat := [0, 0, 2, 7, 15, 31, 63, 127, 127, 383, 1023, 2047, 127, 4223, 16383, 127, 127, 65663, 229503, 491647, 1048575, 2097151]
theorem spec_Distances.tab16 : rtab .any (opsOf Try.f33 16) = spec_Distances.T16 := by kernel_rfl
theorem spec_Distances.bits16 : waitsOk spec_Distances.T16.2 spec_Distances.B16 = true := by kernel_rfl
def spec_Distances.T17 : Bool × List (List Nat × List Nat) := (true, [([], []), ([], []), ([1], [1]), ([], []), ([], []), ([4], [4]), ([3, 5], [3, 5]), ([6], [6]), ([], []), ([8], [8]), ([7, 9], [7, 9]), ([0, 2, 0, 1, 2, 3, 4, 5, 6, 7, 8, 9, 10], [0, 2]), ([11, 10, 0, 1, 2, 3, 4, 5, 6, 7, 8, 9, 10], [10, 11])])
def spec_Distances.B17 : List Nat := [0, 0, 2, 0, 0, 16, 56, 120, 0, 256, 1016, 2047, 4095]
theorem spec_Distances.tab17 : rtab .any (opsOf Try.f33 17) = spec_Distances.T17 := by kernel_rfl
theorem spec_Distances.bits17 : waitsOk spec_Distances.T17.2 spec_Distances.B17 = true := by kernel_rfl
set_option maxHeartbeats 8000000 in
set_option maxRecDepth 100000 in
theorem spec_Distances.calls (k : Nat) (a0_0 : Int) (A0_1 : Option Addr) (c0_1 : Nat) (l0_1 : List (S76)) (a1 : Int) (r : List Int) (w : World) (hr0_1 : Kd.C k76 w A0_1 l0_1.length l0_1) (hc0_1 : l0_1.length ≤ c0_1) (h : spec_Distances.f k a0_0 l0_1 a1 = some r) :
  Calls Try.prog 33 #[.agg #[.int .i64 a0_0, .slice A0_1 l0_1.length c0_1], .int .i64 a1] w fun e w' => ∃ v0_ : Value, e = .returned (v0_) ∧ Kd.R (Kd.int .i64) 3 w' w.heap.size (fun _ => True) v0_ r ∧ Below w.heap.size w w' := by
 have hu30 := Try.underlying30
 have hu76 := Try.underlying76
 have HR0_1 := Aside0.mk hr0_1
 have HC0_1 := Aside0.mk hc0_1
 clear hr0_1 hc0_1
 have HB := Aside0.mk (Below.refl w.heap.size w)
 have H : ((spec_GraphOk.f k a0_0 l0_1).bind fun t113 => (if t113 = true then ((spec_l03Node.f a0_0 l0_1 a1).bind fun t114 => (spec_Distances.j0 k a1 (!t114) a0_0 l0_1)) else (spec_Distances.j0 k a1 true a0_0 l0_1))) = some r := h
 clear h
 have HC3 := Aside0.mk H
 clear H
 go_enter Try.func33, Try.ntmps33
 go_upto_region 1 with ((with_reducible refine gate_dst (N := 2) rfl ?_); refine box_event ?hg (N := 2) ?hd (cs := #[.int .i64 a0_0, .slice A0_1 l0_1.length c0_1]) (t := 30) ?hr ?_; (case hd => rfl); (case hg => rfl); (case hr => first | (go_simp; done) | (go_simp; rfl)); intro gb112 hg w4 hbox hb; have BK112 := Aside0.mk hbox; have GW112 := ge_ HB hg; have GE112 := ge_ HB hg; replace HB := at_ HB hb; clear hb hbox hg)
 (try simp only [Act.put, List.setIfInBounds_toArray, List.set_cons_zero, List.set_cons_succ])
 go_cut [18] (fun v18 wc => ∃ (kq : Nat) (x18_2 : Bool), v18 = .bool x18_2 ∧ Aside0 (spec_Distances.j0 kq a1 x18_2 a0_0 l0_1 = some r) ∧ Aside0 (kq ≤ k) ∧ Aside0 (wc.heap[gb112]? = some (.cells #[.int .i64 a0_0, (.slice A0_1 l0_1.length c0_1)] 30 (0, 0))) ∧ Aside0 (Below w.heap.size w wc))
 case first =>
  have H := HC3.out
  clear HC3
  replace H := Option.bind_eq_some_iff.mp H
  obtain ⟨t113, A50, H⟩ := H
  have A5 := Aside0.mk A50
  clear A50
  by_cases c6 : t113 = true
  rotate_left
  ·replace c6 := Bool.eq_false_iff.mpr c6
   subst c6
   rw [if_neg (show ¬ (false = true) by decide)] at H
   have H' := Aside0.mk H
   clear H
   have hcz12_0 := cz_ BK112 0 (.int .i64 a0_0)
   have hcz12_1 := cz_ BK112 1 (.slice A0_1 l0_1.length c0_1)
   have hfz12_0 := fz_ BK112 0
   have hfz12_1 := fz_ BK112 1
   go_wp2_with ((with_reducible refine gate_callee (f := 25) rfl ?_); refine gl_ (some 11) Try.func25 #[.agg #[.int .i64 a0_0, .slice A0_1 l0_1.length c0_1]] ?_; (with_reducible refine (spec_GraphOk.calls k a0_0 _ _ l0_1 false _ ?side1 ?side2 A5.out).mono ?_); (case side1 => exact cb_ HR0_1 HB); (case side2 => exact HC0_1.out); rintro e w13 ⟨rfl, hb⟩; refine ⟨_, rfl, ?_⟩; replace BK112 := ab_ BK112 hb; replace HB := at_ HB hb; (try clear hb); (try clear hb2); (try clear hk); (try clear hi))
   go_meet
   case rel => exact ⟨_, (true), er_, H', ⟨by first | omega | exact Nat.le_refl _⟩, ⟨bx_ BK112⟩, ⟨bw_⟩⟩
  subst c6
  rw [if_pos rfl] at H
  replace H := Option.bind_eq_some_iff.mp H
  obtain ⟨t114, A70, H⟩ := H
  have A7 := Aside0.mk A70
  clear A70
  have H' := Aside0.mk H
  clear H
  have hcz8_0 := cz_ BK112 0 (.int .i64 a0_0)
  have hcz8_1 := cz_ BK112 1 (.slice A0_1 l0_1.length c0_1)
  have hfz8_0 := fz_ BK112 0
  have hfz8_1 := fz_ BK112 1
  go_wp2_with (first | ((with_reducible refine gate_callee (f := 25) rfl ?_); refine gl_ (some 11) Try.func25 #[.agg #[.int .i64 a0_0, .slice A0_1 l0_1.length c0_1]] ?_; (with_reducible refine (spec_GraphOk.calls k a0_0 _ _ l0_1 true _ ?side1 ?side2 A5.out).mono ?_); (case side1 => exact cb_ HR0_1 HB); (case side2 => exact HC0_1.out); rintro e w9 ⟨rfl, hb⟩; refine ⟨_, rfl, ?_⟩; replace BK112 := ab_ BK112 hb; replace HB := at_ HB hb; (try clear hb); (try clear hb2); (try clear hk); (try clear hi); have hcz10_0 := cz_ BK112 0 (.int .i64 a0_0); have hcz10_1 := cz_ BK112 1 (.slice A0_1 l0_1.length c0_1); have hfz10_0 := fz_ BK112 0; have hfz10_1 := fz_ BK112 1) | (go_at_call 45; (with_reducible refine (spec_l03Node.calls a0_0 _ _ l0_1 a1 t114 _ ?side1 ?side2 A7.out).mono ?_); (case side1 => exact cb_ HR0_1 HB); (case side2 => exact HC0_1.out); rintro e w11 ⟨rfl, hb⟩; replace BK112 := ab_ BK112 hb; replace HB := at_ HB hb; (try clear hb); (try clear hb2); (try clear hk); (try clear hi)))
  go_meet
  case rel => exact ⟨_, (!t114), er_, H', ⟨by first | omega | exact Nat.le_refl _⟩, ⟨bx_ BK112⟩, ⟨bw_⟩⟩
 case rest =>
  clear HC3
  try clear c2
  try clear p2
  try clear c3
  try clear c6
  try clear hcz10_0
  try clear hcz10_1
  try clear hcz12_0
  try clear hcz12_1
  try clear hcz8_0
  try clear hcz8_1
  try clear hfz10_0
  try clear hfz10_1
  try clear hfz12_0
  try clear hfz12_1
  try clear hfz8_0
  try clear hfz8_1
  obtain ⟨kq, x18_2, rfl, HA, HJ2, BK112, HB⟩ := hcut
  cases kq with
  | zero => exact absurd HA.out (by simp [spec_Distances.j0])
  | succ kj2 =>
   have H := HA.out
   clear HA
   simp only [spec_Distances.j0] at H
   by_cases c14 : x18_2 = true
   ·subst c14
    rw [if_pos rfl] at H
    obtain rfl := Option.some.inj H
    go_wp2
    go_ret
    exact ⟨_, by first | rfl | (simp [errW_none, errW_some] <;> rfl) | (simp [*, errW_none, errW_some] <;> rfl), by first | exact Kd.R_nil _ _ _ _ _ | exact Kd.N_nil _ _ _ _ _ | exact Kd.V_nil _ _ _ _ _ | exact Kd.Q_nil _ _ _ _ _ | exact Kd.S_nil _ _ _ _ _, bw_⟩
   replace c14 := Bool.eq_false_iff.mpr c14
   subst c14
   rw [if_neg (show ¬ (false = true) by decide)] at H
   obtain ⟨y115, hy115⟩ : ∃ y_ : List Int, y_ = (([] : List Int)) := ⟨_, rfl⟩
   replace H : (spec_Distances.l0 kj2 a1 y115 0 a0_0 l0_1) = some r := by first | (rw [hy115]; with_reducible exact H) | (have H2_ := (Option.bind_some _ _).symm.trans H; rw [hy115]; with_reducible exact H2_) | (have H2_ := (Option.bind_some _ _).symm.trans H; with_reducible exact H2_) | with_reducible exact H | (rw [hy115]; exact H) | exact H
   have Ny115 := Aside0.mk hy115
   clear hy115
   have H' := Aside0.mk H
   clear H
   go_wp2_with ((with_reducible refine gate_dst (N := 19) rfl ?_); refine Kd.R_lit (Kd.int .i64) _ 3 ?hg (N := 19) ?hd (xs := ([] : List Int)) (inner := []) (ok := fun _ => True) (okp := fun _ => True) ?hr ?hp (fun _ hk => hk) trivial (Below.refl _ _) (Nat.le_refl _) (by simp) ?_; (case hd => rfl); (case hg => rfl); (case hr => first | (go_simp; done) | (go_simp; rfl)); (case hp => exact (Reps.none _ _)); intro v116 w15 ho16 hb hg_ hnew_; clear hg_ hnew_; (first | rw [← Ny115.out] at ho16 | (simp only [Int.reduceToNat] at ho16; rw [← Ny115.out] at ho16)); have HO117 := Aside0.mk (Kd.R_lower ho16 (bz_ HB)); replace BK112 := ab_ BK112 hb; replace HB := at_ HB hb; clear hb ho16)
   go_loopg [5, 6] kj2 (fun kq v5 v6 w' => ∃ (x5_2 : List Int) (x6_2 : Int), v6 = .int .i64 x6_2 ∧ Aside0 (spec_Distances.l0 kq a1 x5_2 x6_2 a0_0 l0_1 = some r) ∧ Aside0 (kq ≤ kj2) ∧ Aside0 (Kd.R (Kd.int .i64) 3 w' w.heap.size (fun _ => True) v5 x5_2) ∧ Aside0 (w'.heap[gb112]? = some (.cells #[.int .i64 a0_0, (.slice A0_1 l0_1.length c0_1)] 30 (0, 0))) ∧ Aside0 (Below w.heap.size w w'))
   case atStart => exact ⟨(y115), (0), er_, H', ⟨Nat.le_refl _⟩, ⟨hd_ HO117⟩, ⟨bx_ BK112⟩, ⟨bw_⟩⟩
   case round =>
    clear H'
    try clear c1
    try clear c2
    try clear p2
    try clear c3
    try clear c6
    try clear c14
    try clear hcz10_0
    try clear hcz10_1
    try clear hcz12_0
    try clear hcz12_1
    try clear hcz8_0
    try clear hcz8_1
    try clear hfz10_0
    try clear hfz10_1
    try clear hfz12_0
    try clear hfz12_1
    try clear hfz8_0
    try clear hfz8_1
    try clear p2
    obtain ⟨x5_2, x6_2, rfl, HA, HK2, HO_5, BK112, HB⟩ := hrel
    cases gk with
    | zero => exact absurd HA.out (by simp [spec_Distances.l0])
    | succ k2 =>
     have H := HA.out
     clear HA
     simp only [spec_Distances.l0] at H
     by_cases c17 : x6_2 < a0_0
     ·rw [if_pos c17] at H
      have c17b0 : decide (x6_2 < a0_0) = true := decide_eq_true c17
      clear c17
      by_cases c18 : x5_2.length < 17592186044416
      rotate_left
      ·rw [if_neg c18] at H
       exact absurd H (by simp)
      rw [if_pos c18] at H
      have LMc18 := Aside0.mk c18
      clear c18
      obtain ⟨y118, hy118⟩ : ∃ y_ : List Int, y_ = (x5_2 ++ [1000000]) := ⟨_, rfl⟩
      replace H : (spec_Distances.l0 k2 a1 y118 (wrap64 (x6_2 + 1)) a0_0 l0_1) = some r := by first | (rw [hy118]; with_reducible exact H) | (have H2_ := (Option.bind_some _ _).symm.trans H; rw [hy118]; with_reducible exact H2_) | (have H2_ := (Option.bind_some _ _).symm.trans H; with_reducible exact H2_) | with_reducible exact H | (rw [hy118]; exact H) | exact H
      have Ny118 := Aside0.mk hy118
      clear hy118
      have H' := Aside0.mk H
      clear H
      have hcz19_0 := cz_ BK112 0 (.int .i64 a0_0)
      have hcz19_1 := cz_ BK112 1 (.slice A0_1 l0_1.length c0_1)
      have hfz19_0 := fz_ BK112 0
      have hfz19_1 := fz_ BK112 1
      go_wp2_with ((with_reducible refine gate_builtin (b := .append) (xs := #[.tmp 26, .tmp 27]) rfl ?_); at_builtin; refine Kd.R_append (Kd.int .i64) (w0 := w) w.heap.size rfl (.tmp 26) (.tmp 27) 26 3 (.int .i64 0) 8 rfl Try.underlying26 info3 rfl (by decide) (by omega) u5 x5_2 1000000 [.int .i64 1000000] (fun _ => True) (fun _ => False) rfl rfl ?aP (fun _ hk => hk.elim) ?aF ?aO ?aB ?aS ?aL ?_; (case aP => exact rfl); (case aB => exact (bw_)); (case aF => exact (fun _ _ => trivial)); (case aO => exact (hd_ HO_5)); (case aS => exact (bz_ HB)); (case aL => have := LMc18.out; omega); intro v119 w20 ho hb hg hat; rw [← Ny118.out] at ho; have HO120 := Aside0.mk ho; replace BK112 := Aside0.mk (blk_grown (g := gb112) (o := .cells #[.int .i64 a0_0, .slice A0_1 l0_1.length c0_1] 30 (0, 0)) (bx_ BK112) hg (Kd.R_ne HO_5.out BK112.out (by decide))); replace HB := Aside0.mk (hb); clear HO_5; clear ho hb hg hat)
      go_roundg k2
      case measure => have := HJ2.out; have := HK2.out; omega
      case rel => exact ⟨(y118), (wrap64 (x6_2 + 1)), er_, H', ⟨by have := HJ2.out; have := HK2.out; omega⟩, ⟨hd_ HO120⟩, ⟨bx_ BK112⟩, ⟨bw_⟩⟩
     rw [if_neg c17] at H
     have c17b0 : decide (x6_2 < a0_0) = false := decide_eq_false c17
     clear c17
     obtain ⟨c21b0, H⟩ := iq_ H
     obtain ⟨c22b0, H⟩ := iq_ H
     obtain ⟨y121, hy121⟩ : ∃ y_ : List Int, y_ = (x5_2.set (a1 : Int).toNat 0) := ⟨_, rfl⟩
     replace H : (spec_Distances.l1 k2 y121 0 a0_0 l0_1) = some r := by first | (rw [hy121]; with_reducible exact H) | (have H2_ := (Option.bind_some _ _).symm.trans H; rw [hy121]; with_reducible exact H2_) | (have H2_ := (Option.bind_some _ _).symm.trans H; with_reducible exact H2_) | with_reducible exact H | (rw [hy121]; exact H) | exact H
     have Ny121 := Aside0.mk hy121
     clear hy121
     have H' := Aside0.mk H
     clear H
     have hcz24_0 := cz_ BK112 0 (.int .i64 a0_0)
     have hcz24_1 := cz_ BK112 1 (.slice A0_1 l0_1.length c0_1)
     have hfz24_0 := fz_ BK112 0
     have hfz24_1 := fz_ BK112 1
     have p23 : 0 ≤ (a1 : Int) := oa_
     have q23 : (a1 : Int) < ((x5_2.length : Int) : Int) := oa_
     obtain ⟨go23, co23, eo23, gb23, gl23, cl23, HG23⟩ := Kd.R_form HO_5.out (by omega)
     (first | cases eo23 | (injection eo23 with ea_ en_ ec_; (first | subst ea_ | (injection ea_ with ea_; subst ea_)); subst ec_; clear en_))
     have GB23 := Aside0.mk gb23
     have GG23 := Aside0.mk HG23
     clear gb23 gl23 HG23
     obtain ⟨hx23_0, hf23_0⟩ := Kd.R_celln 0 HO_5.out (a1 : Int) p23 q23
     replace p23 := eq_true p23
     replace q23 := eq_true q23
     have HP25 := Kd.R_putg HO_5.out (a1 : Int) 0
     go_wp2_with ((with_reducible refine gate_store (t := 3) (p := 31) rfl ?_); refine store_event (t := 3) (p := 31) (v := ?vo_w26) (w1 := (wr.setCell ⟨go23, (a1 : Int).toNat, none⟩ (.int .i64 0))) ?hg ?ho ?hn ?hr ?_; (case ho => rfl); (case hg => rfl); (case hn => rfl); (case hr => first | (go_simp; done) | (go_simp; rfl)); intro w26 hw; have hg : wr.grownBy w26 (some go23) := (by rw [hw]; exact HP25.2); have hp_ : Kd.R (Kd.int .i64) 3 w26 w.heap.size (fun _ => True) (.slice (some ⟨go23, 0, none⟩) x5_2.length co23) y121 := (by rw [hw, Ny121.out]; exact HP25.1); clear HP25; replace BK112 := Aside0.mk (blk_grown (g := gb112) (o := .cells #[.int .i64 a0_0, .slice A0_1 l0_1.length c0_1] 30 (0, 0)) (bx_ BK112) hg (Kd.R_ne HO_5.out BK112.out (by decide))); replace HO_5 := Aside0.mk (hp_); replace HB := Aside0.mk ((by rw [hw]; exact below_set (HB.out) GB23.out : Below w.heap.size w w26)); clear hg hw hp_)
     go_loopg [7] k2 (fun kq v7 w' => ∃ (x5_3 : List Int) (x7_3 : Int), v7 = .int .i64 x7_3 ∧ Aside0 (spec_Distances.l1 kq x5_3 x7_3 a0_0 l0_1 = some r) ∧ Aside0 (kq ≤ k2) ∧ Aside0 (Kd.R (Kd.int .i64) 3 w' w.heap.size (fun _ => True) (.slice (some ⟨go23, 0, none⟩) x5_2.length co23) x5_3) ∧ Aside0 (w'.heap[gb112]? = some (.cells #[.int .i64 a0_0, (.slice A0_1 l0_1.length c0_1)] 30 (0, 0))) ∧ Aside0 (Below w.heap.size w w'))
     case atStart => exact ⟨(y121), (0), er_, H', ⟨Nat.le_refl _⟩, ⟨hd_ HO_5⟩, ⟨bx_ BK112⟩, ⟨bw_⟩⟩
     case round =>
      clear H'
      try clear c1
      try clear c2
      try clear p2
      try clear q2
      try clear hx2
      try clear hf2
      try clear c3
      try clear c6
      try clear p6
      try clear c14
      try clear c17
      try clear c17b0
      try clear c18
      try clear c21
      try clear c21b0
      try clear c22
      try clear c22b0
      try clear p23
      try clear q23
      try clear hx23
      try clear hf23
      try clear c25
      try clear hcz10_0
      try clear hcz10_1
      try clear hcz12_0
      try clear hcz12_1
      try clear hcz19_0
      try clear hcz19_1
      try clear hcz24_0
      try clear hcz24_1
      try clear hcz8_0
      try clear hcz8_1
      try clear hfz10_0
      try clear hfz10_1
      try clear hfz12_0
      try clear hfz12_1
      try clear hfz19_0
      try clear hfz19_1
      try clear hfz24_0
      try clear hfz24_1
      try clear hfz8_0
      try clear hfz8_1
      try clear hx23_0
      try clear p2
      try clear p23
      try clear q23
      obtain ⟨x5_3, x7_3, rfl, HA, HK3, HO_5, BK112, HB⟩ := hrel
      have hl5_3 := (Kd.R_reads' HO_5.out).1
      rw [hl5_3] at HO_5
      (try simp only [hl5_3])
      (try simp only [hl5_3] at BK112)
      cases gk with
      | zero => exact absurd HA.out (by simp [spec_Distances.l1])
      | succ k3 =>
       have H := HA.out
       clear HA
       simp only [spec_Distances.l1] at H
       by_cases c27 : x7_3 < a0_0
       rotate_left
       ·rw [if_neg c27] at H
        have c27b0 : decide (x7_3 < a0_0) = false := decide_eq_false c27
        clear c27
        obtain rfl := Option.some.inj H
        have hcz59_0 := cz_ BK112 0 (.int .i64 a0_0)
        have hcz59_1 := cz_ BK112 1 (.slice A0_1 l0_1.length c0_1)
        have hfz59_0 := fz_ BK112 0
        have hfz59_1 := fz_ BK112 1
        go_wp2
        go_ret
        exact ⟨_, by first | rfl | (simp [errW_none, errW_some] <;> rfl) | (simp [*, errW_none, errW_some] <;> rfl), by (with_reducible repeat (first | apply Kd.R_alloc | apply Kd.R_drewN | apply Kd.R_drew)); exact HO_5.out, bw_⟩
       rw [if_pos c27] at H
       have c27b0 : decide (x7_3 < a0_0) = true := decide_eq_true c27
       clear c27
       have H' := Aside0.mk H
       clear H
       have hcz28_0 := cz_ BK112 0 (.int .i64 a0_0)
       have hcz28_1 := cz_ BK112 1 (.slice A0_1 l0_1.length c0_1)
       have hfz28_0 := fz_ BK112 0
       have hfz28_1 := fz_ BK112 1
       go_wp2
       go_loopg [8] k3 (fun kq v8 w' => ∃ (x5_4 : List Int) (x8_4 : Int), v8 = .int .i64 x8_4 ∧ Aside0 (spec_Distances.l2 kq x5_4 x7_3 x8_4 a0_0 l0_1 = some r) ∧ Aside0 (kq ≤ k3) ∧ Aside0 (Kd.R (Kd.int .i64) 3 w' w.heap.size (fun _ => True) (.slice (some ⟨go23, 0, none⟩) x5_3.length co23) x5_4) ∧ Aside0 (w'.heap[gb112]? = some (.cells #[.int .i64 a0_0, (.slice A0_1 l0_1.length c0_1)] 30 (0, 0))) ∧ Aside0 (Below w.heap.size w w'))
       case atStart => exact ⟨(x5_3), (0), er_, H', ⟨Nat.le_refl _⟩, ⟨by (try simp only [hl5_3]); (with_reducible repeat (first | apply Kd.R_alloc | apply Kd.R_drewN | apply Kd.R_drew)); exact HO_5.out⟩, ⟨by (try simp only [hl5_3]); refine bd_ ?_; exact BK112.out⟩, ⟨bw_⟩⟩
       case round =>
        clear H'
        try clear c1
        try clear c2
        try clear p2
        try clear q2
        try clear hx2
        try clear hf2
        try clear c3
        try clear c6
        try clear p6
        try clear c14
        try clear c17
        try clear c17b0
        try clear c18
        try clear c21
        try clear c21b0
        try clear c22
        try clear c22b0
        try clear p23
        try clear q23
        try clear hx23
        try clear hf23
        try clear c25
        try clear c27
        try clear c27b0
        try clear hcz10_0
        try clear hcz10_1
        try clear hcz12_0
        try clear hcz12_1
        try clear hcz19_0
        try clear hcz19_1
        try clear hcz24_0
        try clear hcz24_1
        try clear hcz28_0
        try clear hcz28_1
        try clear hcz8_0
        try clear hcz8_1
        try clear hfz10_0
        try clear hfz10_1
        try clear hfz12_0
        try clear hfz12_1
        try clear hfz19_0
        try clear hfz19_1
        try clear hfz24_0
        try clear hfz24_1
        try clear hfz28_0
        try clear hfz28_1
        try clear hfz8_0
        try clear hfz8_1
        try clear hx23_0
        try clear p2
        try clear p23
        try clear p6
        try clear q2
        try clear q23
        obtain ⟨x5_4, x8_4, rfl, HA, HK4, HO_5, BK112, HB⟩ := hrel
        have hl5_4 := (Kd.R_reads' HO_5.out).1
        rw [hl5_4] at HO_5
        (try simp only [hl5_4])
        (try simp only [hl5_4] at BK112)
        cases gk with
        | zero => exact absurd HA.out (by simp [spec_Distances.l2])
        | succ k4 =>
         have H := HA.out
         clear HA
         simp only [spec_Distances.l2] at H
         by_cases c29 : x8_4 < (l0_1.length : Int)
         rotate_left
         ·rw [if_neg c29] at H
          have c29b0 : decide (x8_4 < (l0_1.length : Int)) = false := decide_eq_false c29
          (try simp only [hl5_3] at c29b0)
          (try simp only [hl5_4] at c29b0)
          clear c29
          have H' := Aside0.mk H
          clear H
          have hcz58_0 := cz_ BK112 0 (.int .i64 a0_0)
          have hcz58_1 := cz_ BK112 1 (.slice A0_1 l0_1.length c0_1)
          have hfz58_0 := fz_ BK112 0
          have hfz58_1 := fz_ BK112 1
          go_wp2
          (try simp only [← hl5_3, ← hl5_4])
          go_roundg k4
          case measure => have := HJ2.out; have := HK2.out; have := HK3.out; have := HK4.out; omega
          case rel => exact ⟨(x5_4), (wrap64 (x7_3 + 1)), er_, H', ⟨by have := HJ2.out; have := HK2.out; have := HK3.out; have := HK4.out; omega⟩, ⟨by (try simp only [hl5_3]); (try simp only [hl5_4]); (with_reducible repeat (first | apply Kd.R_alloc | apply Kd.R_drewN | apply Kd.R_drew)); exact HO_5.out⟩, ⟨by (try simp only [hl5_3]); (try simp only [hl5_4]); refine bd_ ?_; exact BK112.out⟩, ⟨bw_⟩⟩
         rw [if_pos c29] at H
         have c29b0 : decide (x8_4 < (l0_1.length : Int)) = true := decide_eq_true c29
         clear c29
         obtain ⟨c30b0, H⟩ := iq_ H
         obtain ⟨c31b0, H⟩ := iq_ H
         obtain ⟨c32b0, H⟩ := iq_ H
         by_cases c33 : (rd x5_4 ((rd_T76 l0_1 x8_4).f0)) < 1000000
         rotate_left
         ·rw [if_neg c33] at H
          have c33b0 : decide ((rd x5_4 ((rd_T76 l0_1 x8_4).f0)) < 1000000) = false := decide_eq_false c33
          clear c33
          have H' := Aside0.mk H
          clear H
          have hcz52_0 := cz_ BK112 0 (.int .i64 a0_0)
          have hcz52_1 := cz_ BK112 1 (.slice A0_1 l0_1.length c0_1)
          have hfz52_0 := fz_ BK112 0
          have hfz52_1 := fz_ BK112 1
          have p122 : 0 ≤ (x8_4 : Int) := oa_
          have q122 : x8_4 < (l0_1.length : Int) := oa_
          obtain ⟨ad122, e122, hx122_0, hx122_1, hx122_2⟩ := at_T76 HR0_1.out x8_4 p122 q122
          cases e122
          replace hx122_0 := (HB.out.cell (World.block_lt_of_cell? w _ hx122_0)).trans hx122_0
          replace hx122_1 := (HB.out.cell (World.block_lt_of_cell? w _ hx122_1)).trans hx122_1
          replace hx122_2 := (HB.out.cell (World.block_lt_of_cell? w _ hx122_2)).trans hx122_2
          replace p122 := eq_true p122
          replace q122 := eq_true q122
          try go_wp2_with ((with_reducible refine gate_dst (N := 9) rfl ?_); refine box_event ?hg (N := 9) ?hd (cs := #[.int .i64 0, .int .i64 0, .int .i64 0]) (t := 76) ?hr ?_; (case hd => rfl); (case hg => rfl); (case hr => first | (go_simp; done) | (go_simp; rfl)); intro gb123 hg w53 hbox hb; have BK123 := Aside0.mk hbox; have GW123 := ge_ HB hg; have GE123 := ge_ HB hg; have NB112_123 := nl_ BK112 hg; have NB123_112 := ng_ BK112 hg; replace HO_5 := rb_ HO_5 hb; replace HB := at_ HB hb; replace BK112 := ab_ BK112 hb; clear hb hbox hg; have hnb54 := NB123_112.out; have hnc54 := NB112_123.out; have hcz55_0 := cz_ BK123 0 (.int .i64 0); have hcz55_1 := cz_ BK123 1 (.int .i64 0); have hcz55_2 := cz_ BK123 2 (.int .i64 0); have hfz55_0 := fz_ BK123 0; have hfz55_1 := fz_ BK123 1; have hfz55_2 := fz_ BK123 2)
          have n0_ : Aside0 (Kd.R (Kd.int .i64) 3 (((w53.setCell ⟨gb123, 0, none⟩ (.int .i64 ((rd_T76 l0_1 x8_4).f0))).setCell ⟨gb123, 1, none⟩ (.int .i64 ((rd_T76 l0_1 x8_4).f1))).setCell ⟨gb123, 2, none⟩ (.int .i64 ((rd_T76 l0_1 x8_4).f2))) w.heap.size (fun _ => True) (.slice (some ⟨go23, 0, none⟩) x5_4.length co23) x5_4) := ⟨by (with_reducible repeat (first | apply Kd.R_alloc | apply Kd.R_drewN | apply Kd.R_drew)); exact Kd.R_mono (Kd.R_far (p := ⟨gb123, 2, none⟩) (Kd.R_far (p := ⟨gb123, 1, none⟩) (Kd.R_far (p := ⟨gb123, 0, none⟩) (Kd.R_types HO_5.out BK123.out (by decide)) (fun _ hk => hk.2) (.int .i64 ((rd_T76 l0_1 x8_4).f0))) (fun _ hk => hk.2) (.int .i64 ((rd_T76 l0_1 x8_4).f1))) (fun _ hk => hk.2) (.int .i64 ((rd_T76 l0_1 x8_4).f2))) (fun _ hk => trivial)⟩
          have n1_ : Aside0 ((((w53.setCell ⟨gb123, 0, none⟩ (.int .i64 ((rd_T76 l0_1 x8_4).f0))).setCell ⟨gb123, 1, none⟩ (.int .i64 ((rd_T76 l0_1 x8_4).f1))).setCell ⟨gb123, 2, none⟩ (.int .i64 ((rd_T76 l0_1 x8_4).f2))).heap[gb112]? = some (.cells #[.int .i64 a0_0, .slice (some ad122) l0_1.length c0_1] 30 (0, 0))) := ⟨bc_ BK112⟩
          have n2_ : Aside0 ((((w53.setCell ⟨gb123, 0, none⟩ (.int .i64 ((rd_T76 l0_1 x8_4).f0))).setCell ⟨gb123, 1, none⟩ (.int .i64 ((rd_T76 l0_1 x8_4).f1))).setCell ⟨gb123, 2, none⟩ (.int .i64 ((rd_T76 l0_1 x8_4).f2))).heap[gb123]? = some (.cells #[.int .i64 ((rd_T76 l0_1 x8_4).f0), .int .i64 ((rd_T76 l0_1 x8_4).f1), .int .i64 ((rd_T76 l0_1 x8_4).f2)] 76 (0, 0))) := ⟨by refine bd_ ?_; refine blk_put (cs := #[.int .i64 ((rd_T76 l0_1 x8_4).f0), .int .i64 ((rd_T76 l0_1 x8_4).f1), .int .i64 0]) ?_ 2 _ rfl; refine bd_ ?_; refine blk_put (cs := #[.int .i64 ((rd_T76 l0_1 x8_4).f0), .int .i64 0, .int .i64 0]) ?_ 1 _ rfl; refine bd_ ?_; refine blk_put (cs := #[.int .i64 0, .int .i64 0, .int .i64 0]) ?_ 0 _ rfl; refine bd_ ?_; exact BK123.out⟩
          have n3_ : Aside0 (Below w.heap.size w (((w53.setCell ⟨gb123, 0, none⟩ (.int .i64 ((rd_T76 l0_1 x8_4).f0))).setCell ⟨gb123, 1, none⟩ (.int .i64 ((rd_T76 l0_1 x8_4).f1))).setCell ⟨gb123, 2, none⟩ (.int .i64 ((rd_T76 l0_1 x8_4).f2)))) := ⟨bw_⟩
          (try clear HO_5)
          (try clear BK112)
          (try clear BK123)
          (try clear HB)
          generalize (((w53.setCell ⟨gb123, 0, none⟩ (.int .i64 ((rd_T76 l0_1 x8_4).f0))).setCell ⟨gb123, 1, none⟩ (.int .i64 ((rd_T76 l0_1 x8_4).f1))).setCell ⟨gb123, 2, none⟩ (.int .i64 ((rd_T76 l0_1 x8_4).f2))) = w56 at n0_ n1_ n2_ n3_ ⊢
          have HO_5 := n0_
          have BK112 := n1_
          have BK123 := n2_
          have HB := n3_
          clear n0_ n1_ n2_ n3_
          replace HO_5 := Aside0.mk (Kd.R_drew HO_5.out)
          replace BK112 := ad_ BK112
          replace BK123 := ad_ BK123
          replace HB := Aside0.mk (below_drew1 HB.out)
          have p124 : 0 ≤ (((rd_T76 l0_1 x8_4).f0) : Int) := oa_
          have q124 : ((rd_T76 l0_1 x8_4).f0) < (x5_4.length : Int) := oa_
          obtain ⟨ad124, e124, hx124_0⟩ := Kd.at_int (Kd.R_reads' HO_5.out).2.2 ((rd_T76 l0_1 x8_4).f0) p124 q124
          obtain rfl : (⟨go23, 0, none⟩ : Addr) = ad124 := (by injection e124)
          (first | simp only [add_plain] at hx124_0 | simp only [add_at] at hx124_0 | simp only [Addr.add, Nat.zero_add] at hx124_0 | skip)
          replace p124 := eq_true p124
          replace q124 := eq_true q124
          refine start_ (n := 22) (S := fun w' => w'.cell? ⟨gb123, 0, none⟩ = some (.int .i64 ((rd_T76 l0_1 x8_4).f0)) ∧ w'.cell? ⟨gb123, 1, none⟩ = some (.int .i64 ((rd_T76 l0_1 x8_4).f1)) ∧ w'.cell? ⟨gb123, 2, none⟩ = some (.int .i64 ((rd_T76 l0_1 x8_4).f2)) ∧ w'.cell? ⟨go23, (((rd_T76 l0_1 x8_4).f0)).toNat, none⟩ = some (.int .i64 (rd x5_4 ((rd_T76 l0_1 x8_4).f0)))) (ds := []) ba2_0 (by kernel_rfl) rfl rfl ⟨(blk_cell BK123.out 0).trans rfl, (blk_cell BK123.out 1).trans rfl, (blk_cell BK123.out 2).trans rfl, hx124_0⟩ (fun hHeld => ?_); refine with_tabW spec_Distances.tab16 spec_Distances.bits16 (fun HT_ HW_ => ?_)
          generalize w56.drew = w57 at HO_5 BK112 BK123 HB hx124_0 hHeld ⊢
          refine pz_ 0 50 ba2_1 HT_ ?_
          refine pz_ 1 51 ba2_2 HT_ ?_
          refine pt_ 2 52 ba2_3 HT_ HW_ hHeld ?_
          refine pz_ 3 53 ba2_4 HT_ ?_
          refine pt_ 4 54 ba2_5 HT_ HW_ hHeld ?_
          refine pz_ 5 55 ba2_6 HT_ ?_
          refine pz_ 6 56 ba2_7 HT_ ?_
          refine pu_ 7 57 ba2_8 HT_ ?_
          refine pu_ 8 58 ba2_9 HT_ ?_
          refine pu_ 9 59 ba2_37 HT_ ?_
          refine pu_ 10 60 ba2_38 HT_ ?_
          refine pu_ 11 61 ba2_39 HT_ ?_
          refine pu_ 12 62 ba2_40 HT_ ?_
          refine pu_ 13 63 ba2_41 HT_ ?_
          refine pu_ 14 64 ba2_42 HT_ ?_
          refine pu_ 15 65 ba2_43 HT_ ?_
          refine pu_ 16 66 ba2_17 HT_ ?_
          refine pu_ 17 67 ba2_18 HT_ ?_
          refine pu_ 18 68 ba2_19 HT_ ?_
          refine pu_ 19 69 ba2_20 HT_ ?_
          refine pu_ 20 70 ba2_21 HT_ ?_
          refine pz_ 21 71 ba2_22 HT_ ?_
          refine done_ (done_of HT_.out (by kernel_rfl)) ?_
          try go_wp2
          (try simp only [← hl5_4])
          go_roundg k4
          case measure => have := HJ2.out; have := HK2.out; have := HK3.out; have := HK4.out; omega
          case rel => exact ⟨(x5_4), (wrap64 (x8_4 + 1)), er_, H', ⟨by have := HJ2.out; have := HK2.out; have := HK3.out; have := HK4.out; omega⟩, ⟨by (try simp only [hl5_3]); (try simp only [hl5_4]); (with_reducible repeat (first | apply Kd.R_alloc | apply Kd.R_drewN | apply Kd.R_drew)); exact HO_5.out⟩, ⟨by (try simp only [hl5_3]); (try simp only [hl5_4]); refine bd_ ?_; exact BK112.out⟩, ⟨bw_⟩⟩
         rw [if_pos c33] at H
         have c33b0 : decide ((rd x5_4 ((rd_T76 l0_1 x8_4).f0)) < 1000000) = true := decide_eq_true c33
         clear c33
         obtain ⟨c34b0, H⟩ := iq_ H
         obtain ⟨c35b0, H⟩ := iq_ H
         have Hh_ := Aside0.mk H
         clear H
         have hcz38_0 := cz_ BK112 0 (.int .i64 a0_0)
         have hcz38_1 := cz_ BK112 1 (.slice A0_1 l0_1.length c0_1)
         have hfz38_0 := fz_ BK112 0
         have hfz38_1 := fz_ BK112 1
         have p122 : 0 ≤ (x8_4 : Int) := oa_
         have q122 : x8_4 < (l0_1.length : Int) := oa_
         obtain ⟨ad122, e122, hx122_0, hx122_1, hx122_2⟩ := at_T76 HR0_1.out x8_4 p122 q122
         cases e122
         replace hx122_0 := (HB.out.cell (World.block_lt_of_cell? w _ hx122_0)).trans hx122_0
         replace hx122_1 := (HB.out.cell (World.block_lt_of_cell? w _ hx122_1)).trans hx122_1
         replace hx122_2 := (HB.out.cell (World.block_lt_of_cell? w _ hx122_2)).trans hx122_2
         replace p122 := eq_true p122
         replace q122 := eq_true q122
         try go_wp2_with ((with_reducible refine gate_dst (N := 9) rfl ?_); refine box_event ?hg (N := 9) ?hd (cs := #[.int .i64 0, .int .i64 0, .int .i64 0]) (t := 76) ?hr ?_; (case hd => rfl); (case hg => rfl); (case hr => first | (go_simp; done) | (go_simp; rfl)); intro gb123 hg w39 hbox hb; have BK123 := Aside0.mk hbox; have GW123 := ge_ HB hg; have GE123 := ge_ HB hg; have NB112_123 := nl_ BK112 hg; have NB123_112 := ng_ BK112 hg; replace HO_5 := rb_ HO_5 hb; replace HB := at_ HB hb; replace BK112 := ab_ BK112 hb; clear hb hbox hg; have hnb40 := NB123_112.out; have hnc40 := NB112_123.out; have hcz41_0 := cz_ BK123 0 (.int .i64 0); have hcz41_1 := cz_ BK123 1 (.int .i64 0); have hcz41_2 := cz_ BK123 2 (.int .i64 0); have hfz41_0 := fz_ BK123 0; have hfz41_1 := fz_ BK123 1; have hfz41_2 := fz_ BK123 2)
         have n0_ : Aside0 (Kd.R (Kd.int .i64) 3 (((w39.setCell ⟨gb123, 0, none⟩ (.int .i64 ((rd_T76 l0_1 x8_4).f0))).setCell ⟨gb123, 1, none⟩ (.int .i64 ((rd_T76 l0_1 x8_4).f1))).setCell ⟨gb123, 2, none⟩ (.int .i64 ((rd_T76 l0_1 x8_4).f2))) w.heap.size (fun _ => True) (.slice (some ⟨go23, 0, none⟩) x5_4.length co23) x5_4) := ⟨by (with_reducible repeat (first | apply Kd.R_alloc | apply Kd.R_drewN | apply Kd.R_drew)); exact Kd.R_mono (Kd.R_far (p := ⟨gb123, 2, none⟩) (Kd.R_far (p := ⟨gb123, 1, none⟩) (Kd.R_far (p := ⟨gb123, 0, none⟩) (Kd.R_types HO_5.out BK123.out (by decide)) (fun _ hk => hk.2) (.int .i64 ((rd_T76 l0_1 x8_4).f0))) (fun _ hk => hk.2) (.int .i64 ((rd_T76 l0_1 x8_4).f1))) (fun _ hk => hk.2) (.int .i64 ((rd_T76 l0_1 x8_4).f2))) (fun _ hk => trivial)⟩
         have n1_ : Aside0 ((((w39.setCell ⟨gb123, 0, none⟩ (.int .i64 ((rd_T76 l0_1 x8_4).f0))).setCell ⟨gb123, 1, none⟩ (.int .i64 ((rd_T76 l0_1 x8_4).f1))).setCell ⟨gb123, 2, none⟩ (.int .i64 ((rd_T76 l0_1 x8_4).f2))).heap[gb112]? = some (.cells #[.int .i64 a0_0, .slice (some ad122) l0_1.length c0_1] 30 (0, 0))) := ⟨bc_ BK112⟩
         have n2_ : Aside0 ((((w39.setCell ⟨gb123, 0, none⟩ (.int .i64 ((rd_T76 l0_1 x8_4).f0))).setCell ⟨gb123, 1, none⟩ (.int .i64 ((rd_T76 l0_1 x8_4).f1))).setCell ⟨gb123, 2, none⟩ (.int .i64 ((rd_T76 l0_1 x8_4).f2))).heap[gb123]? = some (.cells #[.int .i64 ((rd_T76 l0_1 x8_4).f0), .int .i64 ((rd_T76 l0_1 x8_4).f1), .int .i64 ((rd_T76 l0_1 x8_4).f2)] 76 (0, 0))) := ⟨by refine bd_ ?_; refine blk_put (cs := #[.int .i64 ((rd_T76 l0_1 x8_4).f0), .int .i64 ((rd_T76 l0_1 x8_4).f1), .int .i64 0]) ?_ 2 _ rfl; refine bd_ ?_; refine blk_put (cs := #[.int .i64 ((rd_T76 l0_1 x8_4).f0), .int .i64 0, .int .i64 0]) ?_ 1 _ rfl; refine bd_ ?_; refine blk_put (cs := #[.int .i64 0, .int .i64 0, .int .i64 0]) ?_ 0 _ rfl; refine bd_ ?_; exact BK123.out⟩
         have n3_ : Aside0 (Below w.heap.size w (((w39.setCell ⟨gb123, 0, none⟩ (.int .i64 ((rd_T76 l0_1 x8_4).f0))).setCell ⟨gb123, 1, none⟩ (.int .i64 ((rd_T76 l0_1 x8_4).f1))).setCell ⟨gb123, 2, none⟩ (.int .i64 ((rd_T76 l0_1 x8_4).f2)))) := ⟨bw_⟩
         (try clear HO_5)
         (try clear BK112)
         (try clear BK123)
         (try clear HB)
         generalize (((w39.setCell ⟨gb123, 0, none⟩ (.int .i64 ((rd_T76 l0_1 x8_4).f0))).setCell ⟨gb123, 1, none⟩ (.int .i64 ((rd_T76 l0_1 x8_4).f1))).setCell ⟨gb123, 2, none⟩ (.int .i64 ((rd_T76 l0_1 x8_4).f2))) = w42 at n0_ n1_ n2_ n3_ ⊢
         have HO_5 := n0_
         have BK112 := n1_
         have BK123 := n2_
         have HB := n3_
         clear n0_ n1_ n2_ n3_
         replace HO_5 := Aside0.mk (Kd.R_drew HO_5.out)
         replace BK112 := ad_ BK112
         replace BK123 := ad_ BK123
         replace HB := Aside0.mk (below_drew1 HB.out)
         have p124 : 0 ≤ (((rd_T76 l0_1 x8_4).f0) : Int) := oa_
         have q124 : ((rd_T76 l0_1 x8_4).f0) < (x5_4.length : Int) := oa_
         obtain ⟨ad124, e124, hx124_0⟩ := Kd.at_int (Kd.R_reads' HO_5.out).2.2 ((rd_T76 l0_1 x8_4).f0) p124 q124
         obtain rfl : (⟨go23, 0, none⟩ : Addr) = ad124 := (by injection e124)
         (first | simp only [add_plain] at hx124_0 | simp only [add_at] at hx124_0 | simp only [Addr.add, Nat.zero_add] at hx124_0 | skip)
         replace p124 := eq_true p124
         replace q124 := eq_true q124
         have p125 : 0 ≤ (((rd_T76 l0_1 x8_4).f0) : Int) := oa_
         have q125 : ((rd_T76 l0_1 x8_4).f0) < (x5_4.length : Int) := oa_
         obtain ⟨ad125, e125, hx125_0⟩ := Kd.at_int (Kd.R_reads' HO_5.out).2.2 ((rd_T76 l0_1 x8_4).f0) p125 q125
         obtain rfl : (⟨go23, 0, none⟩ : Addr) = ad125 := (by injection e125)
         (first | simp only [add_plain] at hx125_0 | simp only [add_at] at hx125_0 | simp only [Addr.add, Nat.zero_add] at hx125_0 | skip)
         replace p125 := eq_true p125
         replace q125 := eq_true q125
         have p126 : 0 ≤ (((rd_T76 l0_1 x8_4).f1) : Int) := oa_
         have q126 : ((rd_T76 l0_1 x8_4).f1) < (x5_4.length : Int) := oa_
         obtain ⟨ad126, e126, hx126_0⟩ := Kd.at_int (Kd.R_reads' HO_5.out).2.2 ((rd_T76 l0_1 x8_4).f1) p126 q126
         obtain rfl : (⟨go23, 0, none⟩ : Addr) = ad126 := (by injection e126)
         (first | simp only [add_plain] at hx126_0 | simp only [add_at] at hx126_0 | simp only [Addr.add, Nat.zero_add] at hx126_0 | skip)
         replace p126 := eq_true p126
         replace q126 := eq_true q126
         refine start_ (n := 22) (S := fun w' => w'.cell? ⟨gb123, 0, none⟩ = some (.int .i64 ((rd_T76 l0_1 x8_4).f0)) ∧ w'.cell? ⟨gb123, 1, none⟩ = some (.int .i64 ((rd_T76 l0_1 x8_4).f1)) ∧ w'.cell? ⟨gb123, 2, none⟩ = some (.int .i64 ((rd_T76 l0_1 x8_4).f2)) ∧ w'.cell? ⟨go23, (((rd_T76 l0_1 x8_4).f0)).toNat, none⟩ = some (.int .i64 (rd x5_4 ((rd_T76 l0_1 x8_4).f0))) ∧ w'.cell? ⟨go23, (((rd_T76 l0_1 x8_4).f0)).toNat, none⟩ = some (.int .i64 (rd x5_4 ((rd_T76 l0_1 x8_4).f0))) ∧ w'.cell? ⟨go23, (((rd_T76 l0_1 x8_4).f1)).toNat, none⟩ = some (.int .i64 (rd x5_4 ((rd_T76 l0_1 x8_4).f1)))) (ds := []) ba2_0 (by kernel_rfl) rfl rfl ⟨(blk_cell BK123.out 0).trans rfl, (blk_cell BK123.out 1).trans rfl, (blk_cell BK123.out 2).trans rfl, hx124_0, hx125_0, hx126_0⟩ (fun hHeld => ?_); refine with_tabW spec_Distances.tab16 spec_Distances.bits16 (fun HT_ HW_ => ?_)
         generalize w42.drew = w43 at HO_5 BK112 BK123 HB hx124_0 hx125_0 hx126_0 hHeld ⊢
         have H := Hh_.out
         clear Hh_
         by_cases c36 : (wrap64 ((rd x5_4 ((rd_T76 l0_1 x8_4).f0)) + ((rd_T76 l0_1 x8_4).f2))) < (rd x5_4 ((rd_T76 l0_1 x8_4).f1))
         rotate_left
         ·rw [if_neg c36] at H
          have c36b0 : decide ((wrap64 ((rd x5_4 ((rd_T76 l0_1 x8_4).f0)) + ((rd_T76 l0_1 x8_4).f2))) < (rd x5_4 ((rd_T76 l0_1 x8_4).f1))) = false := decide_eq_false c36
          clear c36
          have H' := Aside0.mk H
          clear H
          refine pz_ 0 50 ba2_1 HT_ ?_
          refine pz_ 1 51 ba2_2 HT_ ?_
          refine pt_ 2 52 ba2_3 HT_ HW_ hHeld ?_
          refine pz_ 3 53 ba2_4 HT_ ?_
          refine pt_ 4 54 ba2_5 HT_ HW_ hHeld ?_
          refine pz_ 5 55 ba2_6 HT_ ?_
          refine pz_ 6 56 ba2_7 HT_ ?_
          refine pz_ 7 57 ba2_8 HT_ ?_
          refine pz_ 8 58 ba2_9 HT_ ?_
          refine pz_ 12 62 ba2_10 HT_ ?_
          refine pz_ 15 65 ba2_11 HT_ ?_
          refine pz_ 16 66 ba2_12 HT_ ?_
          refine pt_ 9 59 ba2_13 HT_ HW_ hHeld ?_
          refine pz_ 10 60 ba2_14 HT_ ?_
          refine pt_ 11 61 ba2_15 HT_ HW_ hHeld ?_
          refine pt_ 13 63 ba2_16 HT_ HW_ hHeld ?_
          refine pz_ 14 64 ba2_17 HT_ ?_
          refine pt_ 17 67 ba2_18 HT_ HW_ hHeld ?_
          refine pz_ 18 68 ba2_19 HT_ ?_
          refine pt_ 19 69 ba2_20 HT_ HW_ hHeld ?_
          refine pz_ 20 70 ba2_21 HT_ ?_
          refine pz_ 21 71 ba2_22 HT_ ?_
          refine done_ (done_of HT_.out (by kernel_rfl)) ?_
          try go_wp2
          (try simp only [← hl5_4])
          go_roundg k4
          case measure => have := HJ2.out; have := HK2.out; have := HK3.out; have := HK4.out; omega
          case rel => exact ⟨(x5_4), (wrap64 (x8_4 + 1)), er_, H', ⟨by have := HJ2.out; have := HK2.out; have := HK3.out; have := HK4.out; omega⟩, ⟨by (try simp only [hl5_3]); (try simp only [hl5_4]); (with_reducible repeat (first | apply Kd.R_alloc | apply Kd.R_drewN | apply Kd.R_drew)); exact HO_5.out⟩, ⟨by (try simp only [hl5_3]); (try simp only [hl5_4]); refine bd_ ?_; exact BK112.out⟩, ⟨bw_⟩⟩
         rw [if_pos c36] at H
         have c36b0 : decide ((wrap64 ((rd x5_4 ((rd_T76 l0_1 x8_4).f0)) + ((rd_T76 l0_1 x8_4).f2))) < (rd x5_4 ((rd_T76 l0_1 x8_4).f1))) = true := decide_eq_true c36
         clear c36
         obtain ⟨y128, hy128⟩ : ∃ y_ : List Int, y_ = (x5_4.set (((rd_T76 l0_1 x8_4).f1) : Int).toNat (wrap64 ((rd x5_4 ((rd_T76 l0_1 x8_4).f0)) + ((rd_T76 l0_1 x8_4).f2)))) := ⟨_, rfl⟩
         replace H : (spec_Distances.l2 k4 y128 x7_3 (wrap64 (x8_4 + 1)) a0_0 l0_1) = some r := by first | (rw [hy128]; with_reducible exact H) | (have H2_ := (Option.bind_some _ _).symm.trans H; rw [hy128]; with_reducible exact H2_) | (have H2_ := (Option.bind_some _ _).symm.trans H; with_reducible exact H2_) | with_reducible exact H | (rw [hy128]; exact H) | exact H
         have Ny128 := Aside0.mk hy128
         clear hy128
         have H' := Aside0.mk H
         clear H
         refine pz_ 0 50 ba2_1 HT_ ?_
         refine pz_ 1 51 ba2_2 HT_ ?_
         refine pt_ 2 52 ba2_3 HT_ HW_ hHeld ?_
         refine pz_ 3 53 ba2_4 HT_ ?_
         refine pt_ 4 54 ba2_5 HT_ HW_ hHeld ?_
         refine pz_ 5 55 ba2_6 HT_ ?_
         refine pz_ 6 56 ba2_7 HT_ ?_
         refine pz_ 7 57 ba2_8 HT_ ?_
         refine pz_ 8 58 ba2_9 HT_ ?_
         refine pz_ 12 62 ba2_10 HT_ ?_
         refine pz_ 15 65 ba2_11 HT_ ?_
         refine pz_ 16 66 ba2_12 HT_ ?_
         refine pt_ 9 59 ba2_13 HT_ HW_ hHeld ?_
         refine pz_ 10 60 ba2_14 HT_ ?_
         refine pt_ 11 61 ba2_15 HT_ HW_ hHeld ?_
         refine pt_ 13 63 ba2_16 HT_ HW_ hHeld ?_
         refine pz_ 14 64 ba2_17 HT_ ?_
         refine pt_ 17 67 ba2_18 HT_ HW_ hHeld ?_
         refine pz_ 18 68 ba2_19 HT_ ?_
         refine pt_ 19 69 ba2_20 HT_ HW_ hHeld ?_
         refine pz_ 20 70 ba2_21 HT_ ?_
         refine pz_ 21 71 ba2_22 HT_ ?_
         refine done_ (done_of HT_.out (by kernel_rfl)) ?_
         try go_wp2
         replace HO_5 := Aside0.mk (Kd.R_drew HO_5.out)
         replace BK112 := ad_ BK112
         replace BK123 := ad_ BK123
         replace HB := Aside0.mk (below_drew1 HB.out)
         have p127 : 0 ≤ (((rd_T76 l0_1 x8_4).f0) : Int) := oa_
         have q127 : ((rd_T76 l0_1 x8_4).f0) < (x5_4.length : Int) := oa_
         obtain ⟨ad127, e127, hx127_0⟩ := Kd.at_int (Kd.R_reads' HO_5.out).2.2 ((rd_T76 l0_1 x8_4).f0) p127 q127
         obtain rfl : (⟨go23, 0, none⟩ : Addr) = ad127 := (by injection e127)
         (first | simp only [add_plain] at hx127_0 | simp only [add_at] at hx127_0 | simp only [Addr.add, Nat.zero_add] at hx127_0 | skip)
         replace p127 := eq_true p127
         replace q127 := eq_true q127
         have p37 : 0 ≤ (((rd_T76 l0_1 x8_4).f1) : Int) := oa_
         have q37 : (((rd_T76 l0_1 x8_4).f1) : Int) < ((x5_4.length : Int) : Int) := oa_
         obtain ⟨hx37_0, hf37_0⟩ := Kd.R_celln 0 HO_5.out (((rd_T76 l0_1 x8_4).f1) : Int) p37 q37
         replace p37 := eq_true p37
         replace q37 := eq_true q37
         have HP45 := Kd.R_putn HO_5.out (((rd_T76 l0_1 x8_4).f1) : Int) (wrap64 ((rd x5_4 ((rd_T76 l0_1 x8_4).f0)) + ((rd_T76 l0_1 x8_4).f2)))
         rw [← Ny128.out] at HP45
         have HQ45 := Aside0.mk HP45
         clear HP45
         refine start_ (n := 13) (S := fun w' => w'.cell? ⟨gb123, 0, none⟩ = some (.int .i64 ((rd_T76 l0_1 x8_4).f0)) ∧ w'.cell? ⟨gb123, 1, none⟩ = some (.int .i64 ((rd_T76 l0_1 x8_4).f1)) ∧ w'.cell? ⟨gb123, 2, none⟩ = some (.int .i64 ((rd_T76 l0_1 x8_4).f2)) ∧ w'.cell? ⟨go23, (((rd_T76 l0_1 x8_4).f0)).toNat, none⟩ = some (.int .i64 (rd x5_4 ((rd_T76 l0_1 x8_4).f0)))) (ds := [12]) ba2_23 (by kernel_rfl) rfl rfl ⟨(blk_cell BK123.out 0).trans rfl, (blk_cell BK123.out 1).trans rfl, (blk_cell BK123.out 2).trans rfl, hx127_0⟩ (fun hHeld => ?_); refine with_tabW spec_Distances.tab17 spec_Distances.bits17 (fun HT_ HW_ => ?_)
         generalize w43.drew = w44 at HO_5 BK112 BK123 HB HQ45 hf37_0 hx127_0 hx37_0 hHeld ⊢
         refine pz_ 0 72 ba2_24 HT_ ?_
         refine pz_ 1 73 ba2_25 HT_ ?_
         refine pz_ 3 75 ba2_26 HT_ ?_
         refine pz_ 4 76 ba2_27 HT_ ?_
         refine pz_ 8 80 ba2_28 HT_ ?_
         refine pt_ 2 74 ba2_29 HT_ HW_ hHeld ?_
         refine pt_ 5 77 ba2_30 HT_ HW_ hHeld ?_
         refine pz_ 6 78 ba2_31 HT_ ?_
         refine pt_ 7 79 ba2_32 HT_ HW_ hHeld ?_
         refine pt_ 9 81 ba2_33 HT_ HW_ hHeld ?_
         refine pz_ 10 82 ba2_34 HT_ ?_
         refine pz_ 11 83 ba2_35 HT_ ?_
         refine last_ (i := 12) (N := none) ba2_36 rfl rfl (one_of HT_.out (by kernel_rfl)) (by decide) (fun K hK => ?_)
         refine skip_ (w1 := ?_) (by rfl) rfl ?_ ?_
         rotate_left; · go_simp; rfl
         refine hK.out _ _ ?_
         clear hK K
         refine done_ (done_of HT_.out (by kernel_rfl)) ?_
         try go_wp2
         (try simp only [← hl5_4])
         go_roundg k4
         case measure => have := HJ2.out; have := HK2.out; have := HK3.out; have := HK4.out; omega
         case rel => exact ⟨(y128), (wrap64 (x8_4 + 1)), er_, H', ⟨by have := HJ2.out; have := HK2.out; have := HK3.out; have := HK4.out; omega⟩, ⟨by (try simp only [hl5_3]); (try simp only [hl5_4]); (with_reducible repeat (first | apply Kd.R_alloc | apply Kd.R_drewN | apply Kd.R_drew)); exact HQ45.out⟩, ⟨by (try simp only [hl5_3]); (try simp only [hl5_4]); refine bd_ ?_; refine blk_far ?_ (by have h_ := Kd.R_ne HO_5.out BK112.out (by decide); intro e_; exact h_ (by rw [e_]; rfl)) _; refine bd_ ?_; exact BK112.out⟩, ⟨by repeat (first | (with_reducible first | exact HB.out | apply below_alloc | apply pw_below_drewN | apply below_drew1 | refine below_set ?_ GB23.out | refine below_set ?_ GE112.out | refine below_set ?_ GE123.out) | exact HB.out)⟩⟩

end Go.Proofs.Ythmahcohcphljaa.QFnShares
