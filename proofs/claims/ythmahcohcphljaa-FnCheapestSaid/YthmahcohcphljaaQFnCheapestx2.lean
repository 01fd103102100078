/- Contracts of functions that the law reaches: what each call returns and what it leaves in memory. Made by this session over the print of the kit. -/
import Derived.Test.YthmahcohcphljaaQFnCheapestx0
import Derived.Test.YthmahcohcphljaaQFnCheapestx1
namespace Go.Proofs.Ythmahcohcphljaa.QFnCheapest
open Go.RowKit Go.Proofs.YthmahcohcphljaaC.PrintWords Go.Proofs.YthmahcohcphljaaC.PrintLast Go.Proofs.YthmahcohcphljaaC.PrintMore
attribute [local go_sem] max2_int min2_int max_two min_two max_three min_three max_four min_four
set_option linter.unusedVariables false
set_option linter.unusedSimpArgs false
def ba2_0 := bs_ 22 0
def ba2_1 := bs_ 22 1
def ba2_2 := bs_ 22 3
def ba2_3 := bs_ 22 7
def ba2_4 := bs_ 22 15
def ba2_5 := bs_ 22 31
def ba2_6 := bs_ 22 63
def ba2_7 := bs_ 22 127
def ba2_8 := bs_ 22 255
def ba2_9 := bs_ 22 511
def ba2_10 := bs_ 22 4607
def ba2_11 := bs_ 22 37375
def ba2_12 := bs_ 22 102911
def ba2_13 := bs_ 22 103423
def ba2_14 := bs_ 22 104447
def ba2_15 := bs_ 22 106495
def ba2_16 := bs_ 22 114687
def ba2_17 := bs_ 22 131071
def ba2_18 := bs_ 22 262143
def ba2_19 := bs_ 22 524287
def ba2_20 := bs_ 22 1048575
def ba2_21 := bs_ 22 2097151
def ba2_22 := bs_ 22 4194303
def ba2_23 := bs_ 13 0
def ba2_24 := bs_ 13 1
def ba2_25 := bs_ 13 3
def ba2_26 := bs_ 13 11
def ba2_27 := bs_ 13 27
def ba2_28 := bs_ 13 283
def ba2_29 := bs_ 13 287
def ba2_30 := bs_ 13 319
def ba2_31 := bs_ 13 383
def ba2_32 := bs_ 13 511
def ba2_33 := bs_ 13 1023
def ba2_34 := bs_ 13 2047
def ba2_35 := bs_ 13 4095
def ba2_36 := bs_ 13 8191
def ba2_37 := bs_ 22 1023
def ba2_38 := bs_ 22 2047
def ba2_39 := bs_ 22 4095
def ba2_40 := bs_ 22 8191
def ba2_41 := bs_ 22 16383
def ba2_42 := bs_ 22 32767
def ba2_43 := bs_ 22 65535
mutual
def spec_Distances.j0 : Nat → Int → Bool → Int → List (S76) → Option (List Int)
 | 0, _, _, _, _ => none
 | k + 1, x1, x18, x115000, x115001 => if x18 = true then (some ([] : List Int)) else (spec_Distances.l0 k x1 (([] : List Int)) 0 x115000 x115001)
def spec_Distances.l0 : Nat → Int → List Int → Int → Int → List (S76) → Option (List Int)
 | 0, _, _, _, _, _ => none
 | k + 1, x1, x5, x6, x115000, x115001 => if x6 < x115000 then (if x5.length < 17592186044416 then (spec_Distances.l0 k x1 (x5 ++ [1000000]) (wrap64 (x6 + 1)) x115000 x115001) else (none)) else (if 0 ≤ x1 then (if x1 < (x5.length : Int) then (spec_Distances.l1 k (x5.set (x1 : Int).toNat 0) 0 x115000 x115001) else (none)) else (none))
def spec_Distances.l1 : Nat → List Int → Int → Int → List (S76) → Option (List Int)
 | 0, _, _, _, _ => none
 | k + 1, x5, x7, x115000, x115001 => if x7 < x115000 then (spec_Distances.l2 k x5 x7 0 x115000 x115001) else (some x5)
def spec_Distances.l2 : Nat → List Int → Int → Int → Int → List (S76) → Option (List Int)
 | 0, _, _, _, _, _ => none
 | k + 1, x5, x7, x8, x115000, x115001 => if x8 < (x115001.length : Int) then (if 0 ≤ x8 then (if 0 ≤ ((rd_T76 x115001 x8).f0) then (if ((rd_T76 x115001 x8).f0) < (x5.length : Int) then (if (rd x5 ((rd_T76 x115001 x8).f0)) < 1000000 then (if 0 ≤ ((rd_T76 x115001 x8).f1) then (if ((rd_T76 x115001 x8).f1) < (x5.length : Int) then (if (wrap64 ((rd x5 ((rd_T76 x115001 x8).f0)) + ((rd_T76 x115001 x8).f2))) < (rd x5 ((rd_T76 x115001 x8).f1)) then (spec_Distances.l2 k (x5.set (((rd_T76 x115001 x8).f1) : Int).toNat (wrap64 ((rd x5 ((rd_T76 x115001 x8).f0)) + ((rd_T76 x115001 x8).f2)))) x7 (wrap64 (x8 + 1)) x115000 x115001) else (spec_Distances.l2 k x5 x7 (wrap64 (x8 + 1)) x115000 x115001)) else (none)) else (none)) else (spec_Distances.l2 k x5 x7 (wrap64 (x8 + 1)) x115000 x115001)) else (none)) else (none)) else (none)) else (spec_Distances.l1 k x5 (wrap64 (x7 + 1)) x115000 x115001)
end
def spec_Distances.f (k : Nat) (a0_0 : Int) (l0_1 : List (S76)) (a1 : Int) : Option (List Int) := (spec_GraphOk.f k a0_0 l0_1).bind fun t115 => (if t115 = true then ((spec_l03Node.f a0_0 l0_1 a1).bind fun t116 => (spec_Distances.j0 k a1 (!t116) a0_0 l0_1)) else (spec_Distances.j0 k a1 true a0_0 l0_1))
def spec_Distances.T16 : Bool × List (List Nat × List Nat) := (true, [([], []), ([], []), ([1], [1]), ([0, 2], [0, 2]), ([3], [3]), ([4], [4]), ([5], [5]), ([6], [6]), ([6], [6]), ([8, 6], [6, 8]), ([7, 9, 6], [6, 7, 9]), ([10, 6], [6, 10]), ([6], [6]), ([12, 6], [6, 12]), ([11, 13, 6], [6, 11, 13]), ([6], [6]), ([6], [6]), ([16, 6], [6, 16]), ([15, 17, 6], [6, 15, 17]), ([18, 6], [6, 18]), ([14, 19, 6], [6, 14, 19]), ([6, 20], [6, 20])])
def spec_Distances.B16 : List Nat := [0, 0, 2, 7, 15, 31, 63, 127, 127, 383, 1023, 2047, 127, 4223, 16383, 127, 127, 65663, 229503, 491647, 1048575, 2097151]
theorem spec_Distances.tab16 : rtab .any (opsOf Try.f33 16) = spec_Distances.T16 := by kernel_rfl
theorem spec_Distances.bits16 : waitsOk spec_Distances.T16.2 spec_Distances.B16 = true := by kernel_rfl
def spec_Distances.T17 : Bool × List (List Nat × List Nat) := (true, [([], []), ([], []), ([1], [1]), ([], []), ([], []), ([4], [4]), ([3, 5], [3, 5]), ([6], [6]), ([], []), ([8], [8]), ([7, 9], [7, 9]), ([0, 2, 0, 1, 2, 3, 4, 5, 6, 7, 8, 9, 10], [0, 2]), ([11, 10, 0, 1, 2, 3, 4, 5, 6, 7, 8, 9, 10], [10, 11])])
def spec_Distances.B17 : List Nat := [0, 0, 2, 0, 0, 16, 56, 120, 0, 256, 1016, 2047, 4095]
theorem spec_Distances.tab17 : rtab .any (opsOf Try.f33 17) = spec_Distances.T17 := by kernel_rfl
theorem spec_Distances.bits17 : waitsOk spec_Distances.T17.2 spec_Distances.B17 = true := by kernel_rfl
set_option maxHeartbeats 8000000 in
set_option maxRecDepth 100000 in
theorem spec_Distances.calls (k : Nat) (a0_0 : Int) (A0_1 : Option Addr) (c0_1 : Nat) (l0_1 : List (S76)) (a1 : Int) (r : List Int) (w : World) (hr0_1 : Kd.C k76 w A0_1 l0_1.length l0_1) (hc0_1 : l0_1.length ≤ c0_1) (h : spec_Distances.f k a0_0 l0_1 a1 = some r) :
  Calls Try.prog 33 #[.agg #[.int .i64 a0_0, .slice A0_1 l0_1.length c0_1], .int .i64 a1] w fun e w' => ∃ v0_ : Value, e = .returned (v0_) ∧ Kd.R (Kd.int .i64) 3 w' w.heap.size (fun _ => True) v0_ r ∧ Below w.heap.size w w' := by
 have hu30 := Try.underlying30
 have hu76 := Try.underlying76
 have HR0_1 := Aside0.mk hr0_1
 have HC0_1 := Aside0.mk hc0_1
 clear hr0_1 hc0_1
 have HB := Aside0.mk (Below.refl w.heap.size w)
 have H : ((spec_GraphOk.f k a0_0 l0_1).bind fun t115 => (if t115 = true then ((spec_l03Node.f a0_0 l0_1 a1).bind fun t116 => (spec_Distances.j0 k a1 (!t116) a0_0 l0_1)) else (spec_Distances.j0 k a1 true a0_0 l0_1))) = some r := h
 clear h
 have HC3 := Aside0.mk H
 clear H
 go_enter Try.func33, Try.ntmps33
 go_upto_region 1 with ((with_reducible refine gate_dst (N := 2) rfl ?_); refine be_ 2 #[.int .i64 a0_0, .slice A0_1 l0_1.length c0_1] 30 ?_; intro gb114 hg w4 BK114 hb; have GW114 := ge_ HB hg; have GE114 := ge_ HB hg; replace HB := at_ HB hb; clear hb hg)
 (try simp only [Act.put, List.setIfInBounds_toArray, List.set_cons_zero, List.set_cons_succ])
 go_cut [18] (fun v18 wc => ∃ (kq : Nat) (x18_2 : Bool), v18 = .bool x18_2 ∧ Aside0 (spec_Distances.j0 kq a1 x18_2 a0_0 l0_1 = some r) ∧ Aside0 (kq ≤ k) ∧ Aside0 (wc.heap[gb114]? = some (.cells #[.int .i64 a0_0, (.slice A0_1 l0_1.length c0_1)] 30 (0, 0))) ∧ Aside0 (Below w.heap.size w wc))
 case first =>
  have H := HC3.out
  clear HC3
  obtain ⟨t115, A5, H⟩ := ob_ H
  by_cases c6 : t115 = true
  rotate_left
  ·replace c6 := Bool.eq_false_iff.mpr c6
   subst c6
   rw [if_neg (show ¬ (false = true) by decide)] at H
   have H' := Aside0.mk H
   clear H
   have hcz12_0 := cz_ BK114 0 (.int .i64 a0_0)
   have hcz12_1 := cz_ BK114 1 (.slice A0_1 l0_1.length c0_1)
   have hfz12_0 := fz_ BK114 0
   have hfz12_1 := fz_ BK114 1
   go_wp2_with ((with_reducible refine gate_callee (f := 25) rfl ?_); refine gl_ (some 11) Try.func25 #[.agg #[.int .i64 a0_0, .slice A0_1 l0_1.length c0_1]] ?_; (with_reducible refine (spec_GraphOk.calls k a0_0 _ _ l0_1 false _ ?side1 ?side2 A5.out).mono ?_); (case side1 => exact cb_ HR0_1 HB); (case side2 => exact HC0_1.out); rintro e w13 ⟨rfl, hb⟩; refine ⟨_, rfl, ?_⟩; replace BK114 := ab_ BK114 hb; replace HB := at_ HB hb; clear hb)
   go_meet
   case rel => exact ⟨_, (true), er_, H', ⟨by first | omega | exact Nat.le_refl _⟩, ⟨bx_ BK114⟩, ⟨bw_⟩⟩
  subst c6
  rw [if_pos rfl] at H
  obtain ⟨t116, A7, H⟩ := ob_ H
  have H' := Aside0.mk H
  clear H
  have hcz8_0 := cz_ BK114 0 (.int .i64 a0_0)
  have hcz8_1 := cz_ BK114 1 (.slice A0_1 l0_1.length c0_1)
  have hfz8_0 := fz_ BK114 0
  have hfz8_1 := fz_ BK114 1
  go_wp2_with (first | ((with_reducible refine gate_callee (f := 25) rfl ?_); refine gl_ (some 11) Try.func25 #[.agg #[.int .i64 a0_0, .slice A0_1 l0_1.length c0_1]] ?_; (with_reducible refine (spec_GraphOk.calls k a0_0 _ _ l0_1 true _ ?side1 ?side2 A5.out).mono ?_); (case side1 => exact cb_ HR0_1 HB); (case side2 => exact HC0_1.out); rintro e w9 ⟨rfl, hb⟩; refine ⟨_, rfl, ?_⟩; replace BK114 := ab_ BK114 hb; replace HB := at_ HB hb; clear hb; have hcz10_0 := cz_ BK114 0 (.int .i64 a0_0); have hcz10_1 := cz_ BK114 1 (.slice A0_1 l0_1.length c0_1); have hfz10_0 := fz_ BK114 0; have hfz10_1 := fz_ BK114 1) | (go_at_call 45; (with_reducible refine (spec_l03Node.calls a0_0 _ _ l0_1 a1 t116 _ ?side1 ?side2 A7.out).mono ?_); (case side1 => exact cb_ HR0_1 HB); (case side2 => exact HC0_1.out); rintro e w11 ⟨rfl, hb⟩; replace BK114 := ab_ BK114 hb; replace HB := at_ HB hb; clear hb))
  go_meet
  case rel => exact ⟨_, (!t116), er_, H', ⟨by first | omega | exact Nat.le_refl _⟩, ⟨bx_ BK114⟩, ⟨bw_⟩⟩
 clear HC3
 obtain ⟨kq, x18_2, rfl, HA, HJ2, BK114, HB⟩ := hcut
 cases kq with
 | zero => exact absurd HA.out (by simp [spec_Distances.j0])
 | succ kj2 =>
  have H := HA.out
  clear HA
  simp only [spec_Distances.j0] at H
  by_cases c14 : x18_2 = true
  ·subst c14
   rw [if_pos rfl] at H
   obtain rfl := Option.some.inj H
   go_wp2
   go_ret
   exact ⟨_, ew_, by first | exact Kd.R_nil _ _ _ _ _ | exact Kd.N_nil _ _ _ _ _ | exact Kd.V_nil _ _ _ _ _ | exact Kd.Q_nil _ _ _ _ _ | exact Kd.S_nil _ _ _ _ _, bw_⟩
  replace c14 := Bool.eq_false_iff.mpr c14
  subst c14
  rw [if_neg (show ¬ (false = true) by decide)] at H
  obtain ⟨y117, hy117⟩ : ∃ y_ : List Int, y_ = (([] : List Int)) := ⟨_, rfl⟩
  replace H : (spec_Distances.l0 kj2 a1 y117 0 a0_0 l0_1) = some r := by first | (rw [hy117]; with_reducible exact H) | (have H2_ := (Option.bind_some _ _).symm.trans H; rw [hy117]; with_reducible exact H2_) | (have H2_ := (Option.bind_some _ _).symm.trans H; with_reducible exact H2_) | with_reducible exact H | (rw [hy117]; exact H) | exact H
  have Ny117 := Aside0.mk hy117
  clear hy117
  have H' := Aside0.mk H
  clear H
  go_wp2_with ((with_reducible refine gate_dst (N := 19) rfl ?_); refine Kd.R_lit (Kd.int .i64) _ 3 ?hg (N := 19) ?hd (xs := ([] : List Int)) (inner := []) (ok := fun _ => True) (okp := fun _ => True) ?hr ?hp (fun _ hk => hk) trivial (Below.refl _ _) (Nat.le_refl _) (by simp) ?_; (case hd => rfl); (case hg => rfl); (case hr => first | (go_simp; done) | (go_simp; rfl)); (case hp => exact (Reps.none _ _)); intro v118 w15 ho16 hb hg_ hnew_; clear hg_ hnew_; (first | rw [← Ny117.out] at ho16 | (simp only [Int.reduceToNat] at ho16; rw [← Ny117.out] at ho16)); have HO119 := Aside0.mk (Kd.R_lower ho16 (bz_ HB)); replace BK114 := ab_ BK114 hb; replace HB := at_ HB hb; clear hb ho16)
  go_loopg [5, 6] kj2 (fun kq v5 v6 w' => ∃ (x5_2 : List Int) (x6_2 : Int), v6 = .int .i64 x6_2 ∧ Aside0 (spec_Distances.l0 kq a1 x5_2 x6_2 a0_0 l0_1 = some r) ∧ Aside0 (kq ≤ kj2) ∧ Aside0 (Kd.R (Kd.int .i64) 3 w' w.heap.size (fun _ => True) v5 x5_2) ∧ Aside0 (w'.heap[gb114]? = some (.cells #[.int .i64 a0_0, (.slice A0_1 l0_1.length c0_1)] 30 (0, 0))) ∧ Aside0 (Below w.heap.size w w'))
  case atStart => exact ⟨(y117), (0), er_, H', ⟨Nat.le_refl _⟩, ⟨hd_ HO119⟩, ⟨bx_ BK114⟩, ⟨bw_⟩⟩
  clear H'
  obtain ⟨x5_2, x6_2, rfl, HA, HK2, HO_5, BK114, HB⟩ := hrel
  cases gk with
  | zero => exact absurd HA.out (by simp [spec_Distances.l0])
  | succ k2 =>
   have H := HA.out
   clear HA
   simp only [spec_Distances.l0] at H
   by_cases c17 : x6_2 < a0_0
   ·rw [if_pos c17] at H
    have c17b0 : decide (x6_2 < a0_0) = true := decide_eq_true c17
    clear c17
    by_cases c18 : x5_2.length < 17592186044416
    rotate_left
    ·rw [if_neg c18] at H
     exact absurd H (by simp)
    rw [if_pos c18] at H
    have LMc18 := Aside0.mk c18
    clear c18
    obtain ⟨y120, hy120⟩ : ∃ y_ : List Int, y_ = (x5_2 ++ [1000000]) := ⟨_, rfl⟩
    replace H : (spec_Distances.l0 k2 a1 y120 (wrap64 (x6_2 + 1)) a0_0 l0_1) = some r := by first | (rw [hy120]; with_reducible exact H) | (have H2_ := (Option.bind_some _ _).symm.trans H; rw [hy120]; with_reducible exact H2_) | (have H2_ := (Option.bind_some _ _).symm.trans H; with_reducible exact H2_) | with_reducible exact H | (rw [hy120]; exact H) | exact H
    have Ny120 := Aside0.mk hy120
    clear hy120
    have H' := Aside0.mk H
    clear H
    have hcz19_0 := cz_ BK114 0 (.int .i64 a0_0)
    have hcz19_1 := cz_ BK114 1 (.slice A0_1 l0_1.length c0_1)
    have hfz19_0 := fz_ BK114 0
    have hfz19_1 := fz_ BK114 1
    go_wp2_with ((with_reducible refine gate_builtin (b := .append) (xs := #[.tmp 26, .tmp 27]) rfl ?_); at_builtin; refine Kd.R_append (Kd.int .i64) (w0 := w) w.heap.size rfl (.tmp 26) (.tmp 27) 26 3 (.int .i64 0) 8 rfl Try.underlying26 info3 rfl (by decide) (by omega) u5 x5_2 1000000 [.int .i64 1000000] (fun _ => True) (fun _ => False) rfl rfl ?aP (fun _ hk => hk.elim) ?aF ?aO ?aB ?aS ?aL ?_; (case aP => exact rfl); (case aB => exact (bw_)); (case aF => exact (fun _ _ => trivial)); (case aO => exact (hd_ HO_5)); (case aS => exact (bz_ HB)); (case aL => have := LMc18.out; omega); intro v121 w20 ho hb hg hat; rw [← Ny120.out] at ho; have HO122 := Aside0.mk ho; replace BK114 := Aside0.mk (blk_grown (g := gb114) (o := .cells #[.int .i64 a0_0, .slice A0_1 l0_1.length c0_1] 30 (0, 0)) (bx_ BK114) hg (Kd.R_ne HO_5.out BK114.out (by decide))); replace HB := Aside0.mk (hb); clear HO_5 ho hb hg hat)
    go_roundg k2
    case measure => have := HJ2.out; have := HK2.out; omega
    case rel => exact ⟨(y120), (wrap64 (x6_2 + 1)), er_, H', ⟨by have := HJ2.out; have := HK2.out; omega⟩, ⟨hd_ HO122⟩, ⟨bx_ BK114⟩, ⟨bw_⟩⟩
   rw [if_neg c17] at H
   have c17b0 : decide (x6_2 < a0_0) = false := decide_eq_false c17
   clear c17
   obtain ⟨c21b0, H⟩ := iq_ H
   obtain ⟨c22b0, H⟩ := iq_ H
   obtain ⟨y123, hy123⟩ : ∃ y_ : List Int, y_ = (x5_2.set (a1 : Int).toNat 0) := ⟨_, rfl⟩
   replace H : (spec_Distances.l1 k2 y123 0 a0_0 l0_1) = some r := by first | (rw [hy123]; with_reducible exact H) | (have H2_ := (Option.bind_some _ _).symm.trans H; rw [hy123]; with_reducible exact H2_) | (have H2_ := (Option.bind_some _ _).symm.trans H; with_reducible exact H2_) | with_reducible exact H | (rw [hy123]; exact H) | exact H
   have Ny123 := Aside0.mk hy123
   clear hy123
   have H' := Aside0.mk H
   clear H
   have hcz24_0 := cz_ BK114 0 (.int .i64 a0_0)
   have hcz24_1 := cz_ BK114 1 (.slice A0_1 l0_1.length c0_1)
   have hfz24_0 := fz_ BK114 0
   have hfz24_1 := fz_ BK114 1
   have p23 : 0 ≤ (a1 : Int) := oa_
   have q23 : (a1 : Int) < ((x5_2.length : Int) : Int) := oa_
   obtain ⟨go23, co23, eo23, gb23, gl23, cl23, HG23⟩ := Kd.R_form HO_5.out (by omega)
   (first | cases eo23 | (injection eo23 with ea_ en_ ec_; (first | subst ea_ | (injection ea_ with ea_; subst ea_)); subst ec_; clear en_))
   have GB23 := Aside0.mk gb23
   have GG23 := Aside0.mk HG23
   clear gb23 gl23 HG23
   obtain ⟨hx23_0, hf23_0⟩ := Kd.R_celln 0 HO_5.out (a1 : Int) p23 q23
   obtain ⟨p23, q23⟩ := et_ p23 q23
   have HP25 := Kd.R_putg HO_5.out (a1 : Int) 0
   go_wp2_with ((with_reducible refine gate_store (t := 3) (p := 31) rfl ?_); refine store_event (t := 3) (p := 31) (v := ?vo_w26) (w1 := (wr.setCell ⟨go23, (a1 : Int).toNat, none⟩ (.int .i64 0))) ?hg ?ho ?hn ?hr ?_; (case ho => rfl); (case hg => rfl); (case hn => rfl); (case hr => first | (go_simp; done) | (go_simp; rfl)); intro w26 hw; have hg : wr.grownBy w26 (some go23) := (by rw [hw]; exact HP25.2); have hp_ : Kd.R (Kd.int .i64) 3 w26 w.heap.size (fun _ => True) (.slice (some ⟨go23, 0, none⟩) x5_2.length co23) y123 := (by rw [hw, Ny123.out]; exact HP25.1); clear HP25; replace BK114 := Aside0.mk (blk_grown (g := gb114) (o := .cells #[.int .i64 a0_0, .slice A0_1 l0_1.length c0_1] 30 (0, 0)) (bx_ BK114) hg (Kd.R_ne HO_5.out BK114.out (by decide))); replace HO_5 := Aside0.mk (hp_); replace HB := Aside0.mk ((by rw [hw]; exact below_set (HB.out) GB23.out : Below w.heap.size w w26)); clear hg hw hp_)
   go_loopg [7] k2 (fun kq v7 w' => ∃ (x5_3 : List Int) (x7_3 : Int), v7 = .int .i64 x7_3 ∧ Aside0 (spec_Distances.l1 kq x5_3 x7_3 a0_0 l0_1 = some r) ∧ Aside0 (kq ≤ k2) ∧ Aside0 (Kd.R (Kd.int .i64) 3 w' w.heap.size (fun _ => True) (.slice (some ⟨go23, 0, none⟩) x5_2.length co23) x5_3) ∧ Aside0 (w'.heap[gb114]? = some (.cells #[.int .i64 a0_0, (.slice A0_1 l0_1.length c0_1)] 30 (0, 0))) ∧ Aside0 (Below w.heap.size w w'))
   case atStart => exact ⟨(y123), (0), er_, H', ⟨Nat.le_refl _⟩, ⟨hd_ HO_5⟩, ⟨bx_ BK114⟩, ⟨bw_⟩⟩
   clear H' c17b0 c21b0 c22b0 p23 q23 hcz24_0 hcz24_1 hfz24_0 hfz24_1 hx23_0
   clear p23 q23
   obtain ⟨x5_3, x7_3, rfl, HA, HK3, HO_5, BK114, HB⟩ := hrel
   have hl5_3 := (Kd.R_reads' HO_5.out).1
   rw [hl5_3] at HO_5
   (try simp only [hl5_3])
   (try simp only [hl5_3] at BK114)
   cases gk with
   | zero => exact absurd HA.out (by simp [spec_Distances.l1])
   | succ k3 =>
    have H := HA.out
    clear HA
    simp only [spec_Distances.l1] at H
    by_cases c27 : x7_3 < a0_0
    rotate_left
    ·rw [if_neg c27] at H
     have c27b0 : decide (x7_3 < a0_0) = false := decide_eq_false c27
     clear c27
     obtain rfl := Option.some.inj H
     have hcz59_0 := cz_ BK114 0 (.int .i64 a0_0)
     have hcz59_1 := cz_ BK114 1 (.slice A0_1 l0_1.length c0_1)
     have hfz59_0 := fz_ BK114 0
     have hfz59_1 := fz_ BK114 1
     go_wp2
     go_ret
     exact ⟨_, ew_, by (with_reducible repeat (first | apply Kd.R_alloc | apply Kd.R_drewN | apply Kd.R_drew)); exact HO_5.out, bw_⟩
    rw [if_pos c27] at H
    have c27b0 : decide (x7_3 < a0_0) = true := decide_eq_true c27
    clear c27
    have H' := Aside0.mk H
    clear H
    have hcz28_0 := cz_ BK114 0 (.int .i64 a0_0)
    have hcz28_1 := cz_ BK114 1 (.slice A0_1 l0_1.length c0_1)
    have hfz28_0 := fz_ BK114 0
    have hfz28_1 := fz_ BK114 1
    go_wp2
    go_loopg [8] k3 (fun kq v8 w' => ∃ (x5_4 : List Int) (x8_4 : Int), v8 = .int .i64 x8_4 ∧ Aside0 (spec_Distances.l2 kq x5_4 x7_3 x8_4 a0_0 l0_1 = some r) ∧ Aside0 (kq ≤ k3) ∧ Aside0 (Kd.R (Kd.int .i64) 3 w' w.heap.size (fun _ => True) (.slice (some ⟨go23, 0, none⟩) x5_3.length co23) x5_4) ∧ Aside0 (w'.heap[gb114]? = some (.cells #[.int .i64 a0_0, (.slice A0_1 l0_1.length c0_1)] 30 (0, 0))) ∧ Aside0 (Below w.heap.size w w'))
    case atStart => exact ⟨(x5_3), (0), er_, H', ⟨Nat.le_refl _⟩, ⟨by (try simp only [hl5_3]); (with_reducible repeat (first | apply Kd.R_alloc | apply Kd.R_drewN | apply Kd.R_drew)); exact HO_5.out⟩, ⟨by (try simp only [hl5_3]); refine bd_ ?_; exact BK114.out⟩, ⟨bw_⟩⟩
    clear H' c27b0 hcz28_0 hcz28_1 hfz28_0 hfz28_1
    obtain ⟨x5_4, x8_4, rfl, HA, HK4, HO_5, BK114, HB⟩ := hrel
    have hl5_4 := (Kd.R_reads' HO_5.out).1
    rw [hl5_4] at HO_5
    (try simp only [hl5_4])
    (try simp only [hl5_4] at BK114)
    cases gk with
    | zero => exact absurd HA.out (by simp [spec_Distances.l2])
    | succ k4 =>
     have H := HA.out
     clear HA
     simp only [spec_Distances.l2] at H
     by_cases c29 : x8_4 < (l0_1.length : Int)
     rotate_left
     ·rw [if_neg c29] at H
      have c29b0 : decide (x8_4 < (l0_1.length : Int)) = false := decide_eq_false c29
      (try simp only [hl5_3] at c29b0)
      (try simp only [hl5_4] at c29b0)
      clear c29
      have H' := Aside0.mk H
      clear H
      have hcz58_0 := cz_ BK114 0 (.int .i64 a0_0)
      have hcz58_1 := cz_ BK114 1 (.slice A0_1 l0_1.length c0_1)
      have hfz58_0 := fz_ BK114 0
      have hfz58_1 := fz_ BK114 1
      go_wp2
      (try simp only [← hl5_3, ← hl5_4])
      go_roundg k4
      case measure => have := HJ2.out; have := HK2.out; have := HK3.out; have := HK4.out; omega
      case rel => exact ⟨(x5_4), (wrap64 (x7_3 + 1)), er_, H', ⟨by have := HJ2.out; have := HK2.out; have := HK3.out; have := HK4.out; omega⟩, ⟨by (try simp only [hl5_3]); (try simp only [hl5_4]); (with_reducible repeat (first | apply Kd.R_alloc | apply Kd.R_drewN | apply Kd.R_drew)); exact HO_5.out⟩, ⟨by (try simp only [hl5_3]); (try simp only [hl5_4]); refine bd_ ?_; exact BK114.out⟩, ⟨bw_⟩⟩
     rw [if_pos c29] at H
     have c29b0 : decide (x8_4 < (l0_1.length : Int)) = true := decide_eq_true c29
     clear c29
     obtain ⟨c30b0, H⟩ := iq_ H
     obtain ⟨c31b0, H⟩ := iq_ H
     obtain ⟨c32b0, H⟩ := iq_ H
     by_cases c33 : (rd x5_4 ((rd_T76 l0_1 x8_4).f0)) < 1000000
     rotate_left
     ·rw [if_neg c33] at H
      have c33b0 : decide ((rd x5_4 ((rd_T76 l0_1 x8_4).f0)) < 1000000) = false := decide_eq_false c33
      clear c33
      have H' := Aside0.mk H
      clear H
      have hcz52_0 := cz_ BK114 0 (.int .i64 a0_0)
      have hcz52_1 := cz_ BK114 1 (.slice A0_1 l0_1.length c0_1)
      have hfz52_0 := fz_ BK114 0
      have hfz52_1 := fz_ BK114 1
      have p124 : 0 ≤ (x8_4 : Int) := oa_
      have q124 : x8_4 < (l0_1.length : Int) := oa_
      obtain ⟨ad124, e124, hx124_0, hx124_1, hx124_2⟩ := at_T76 HR0_1.out x8_4 p124 q124
      cases e124
      replace hx124_0 := hc5_ HB hx124_0
      replace hx124_1 := hc5_ HB hx124_1
      replace hx124_2 := hc5_ HB hx124_2
      obtain ⟨p124, q124⟩ := et_ p124 q124
      try go_wp2_with ((with_reducible refine gate_dst (N := 9) rfl ?_); refine be_ 9 #[.int .i64 0, .int .i64 0, .int .i64 0] 76 ?_; intro gb125 hg w53 BK125 hb; have GW125 := ge_ HB hg; have GE125 := ge_ HB hg; have NB114_125 := nl_ BK114 hg; have NB125_114 := ng_ BK114 hg; replace HO_5 := rb_ HO_5 hb; replace HB := at_ HB hb; replace BK114 := ab_ BK114 hb; clear hb hg; have hnb54 := NB125_114.out; have hnc54 := NB114_125.out; have hcz55_0 := cz_ BK125 0 (.int .i64 0); have hcz55_1 := cz_ BK125 1 (.int .i64 0); have hcz55_2 := cz_ BK125 2 (.int .i64 0); have hfz55_0 := fz_ BK125 0; have hfz55_1 := fz_ BK125 1; have hfz55_2 := fz_ BK125 2)
      generalize hW_ : (((w53.setCell ⟨gb125, 0, none⟩ (.int .i64 ((rd_T76 l0_1 x8_4).f0))).setCell ⟨gb125, 1, none⟩ (.int .i64 ((rd_T76 l0_1 x8_4).f1))).setCell ⟨gb125, 2, none⟩ (.int .i64 ((rd_T76 l0_1 x8_4).f2))) = w56
      have n0_ : Aside0 (Kd.R (Kd.int .i64) 3 w56 w.heap.size (fun _ => True) (.slice (some ⟨go23, 0, none⟩) x5_4.length co23) x5_4) := by subst hW_; exact ⟨hq_ (Kd.R_mono (Kd.R_far (Kd.R_far (Kd.R_far (Kd.R_types HO_5.out BK125.out (by decide)) (fun _ hk => hk.2) _) (fun _ hk => hk.2) _) (fun _ hk => hk.2) _) (fun _ hk => trivial))⟩
      have n1_ : Aside0 (w56.heap[gb114]? = some (.cells #[.int .i64 a0_0, .slice (some ad124) l0_1.length c0_1] 30 (0, 0))) := by subst hW_; exact ⟨bc_ BK114⟩
      have n2_ : Aside0 (w56.heap[gb125]? = some (.cells #[.int .i64 ((rd_T76 l0_1 x8_4).f0), .int .i64 ((rd_T76 l0_1 x8_4).f1), .int .i64 ((rd_T76 l0_1 x8_4).f2)] 76 (0, 0))) := by subst hW_; exact ⟨by refine bd_ ?_; refine blk_put (cs := #[.int .i64 ((rd_T76 l0_1 x8_4).f0), .int .i64 ((rd_T76 l0_1 x8_4).f1), .int .i64 0]) ?_ 2 _ rfl; refine bd_ ?_; refine blk_put (cs := #[.int .i64 ((rd_T76 l0_1 x8_4).f0), .int .i64 0, .int .i64 0]) ?_ 1 _ rfl; refine bd_ ?_; refine blk_put (cs := #[.int .i64 0, .int .i64 0, .int .i64 0]) ?_ 0 _ rfl; refine bd_ ?_; exact BK125.out⟩
      have n3_ : Aside0 (Below w.heap.size w w56) := by subst hW_; exact ⟨bw_⟩
      clear hW_ HO_5 BK114 BK125 HB
      have HO_5 := n0_
      have BK114 := n1_
      have BK125 := n2_
      have HB := n3_
      clear n0_ n1_ n2_ n3_
      replace HO_5 := rw5_ HO_5
      replace BK114 := ad_ BK114
      replace BK125 := ad_ BK125
      replace HB := Aside0.mk (below_drew1 HB.out)
      have p126 : 0 ≤ (((rd_T76 l0_1 x8_4).f0) : Int) := oa_
      have q126 : ((rd_T76 l0_1 x8_4).f0) < (x5_4.length : Int) := oa_
      obtain ⟨ad126, e126, hx126_0⟩ := Kd.at_int (Kd.R_reads' HO_5.out).2.2 ((rd_T76 l0_1 x8_4).f0) p126 q126
      obtain rfl : (⟨go23, 0, none⟩ : Addr) = ad126 := (by injection e126)
      simp only [add_plain] at hx126_0
      obtain ⟨p126, q126⟩ := et_ p126 q126
      refine start_ (n := 22) (S := fun w' => w'.cell? ⟨gb125, 0, none⟩ = some (.int .i64 ((rd_T76 l0_1 x8_4).f0)) ∧ w'.cell? ⟨gb125, 1, none⟩ = some (.int .i64 ((rd_T76 l0_1 x8_4).f1)) ∧ w'.cell? ⟨gb125, 2, none⟩ = some (.int .i64 ((rd_T76 l0_1 x8_4).f2)) ∧ w'.cell? ⟨go23, (((rd_T76 l0_1 x8_4).f0)).toNat, none⟩ = some (.int .i64 (rd x5_4 ((rd_T76 l0_1 x8_4).f0)))) (ds := []) ba2_0 (by kernel_rfl) rfl rfl ⟨bq5_ BK125 0, bq5_ BK125 1, bq5_ BK125 2, hx126_0⟩ (fun hHeld => ?_); refine with_tabW spec_Distances.tab16 spec_Distances.bits16 (fun HT_ HW_ => ?_)
      generalize w56.drew = w57 at HO_5 BK114 BK125 HB hx126_0 hHeld ⊢
      refine pz_ 0 50 ba2_1 HT_ ?_
      refine pz_ 1 51 ba2_2 HT_ ?_
      refine pt_ 2 52 ba2_3 HT_ HW_ hHeld ?_
      refine pz_ 3 53 ba2_4 HT_ ?_
      refine pt_ 4 54 ba2_5 HT_ HW_ hHeld ?_
      refine pz_ 5 55 ba2_6 HT_ ?_
      refine pz_ 6 56 ba2_7 HT_ ?_
      refine pu_ 7 57 ba2_8 HT_ ?_
      refine pu_ 8 58 ba2_9 HT_ ?_
      refine pu_ 9 59 ba2_37 HT_ ?_
      refine pu_ 10 60 ba2_38 HT_ ?_
      refine pu_ 11 61 ba2_39 HT_ ?_
      refine pu_ 12 62 ba2_40 HT_ ?_
      refine pu_ 13 63 ba2_41 HT_ ?_
      refine pu_ 14 64 ba2_42 HT_ ?_
      refine pu_ 15 65 ba2_43 HT_ ?_
      refine pu_ 16 66 ba2_17 HT_ ?_
      refine pu_ 17 67 ba2_18 HT_ ?_
      refine pu_ 18 68 ba2_19 HT_ ?_
      refine pu_ 19 69 ba2_20 HT_ ?_
      refine pu_ 20 70 ba2_21 HT_ ?_
      refine pz_ 21 71 ba2_22 HT_ ?_
      refine done_ (done_of HT_.out (by kernel_rfl)) ?_
      go_wp2
      (try simp only [← hl5_4])
      go_roundg k4
      case measure => have := HJ2.out; have := HK2.out; have := HK3.out; have := HK4.out; omega
      case rel => exact ⟨(x5_4), (wrap64 (x8_4 + 1)), er_, H', ⟨by have := HJ2.out; have := HK2.out; have := HK3.out; have := HK4.out; omega⟩, ⟨by (try simp only [hl5_3]); (try simp only [hl5_4]); (with_reducible repeat (first | apply Kd.R_alloc | apply Kd.R_drewN | apply Kd.R_drew)); exact HO_5.out⟩, ⟨by (try simp only [hl5_3]); (try simp only [hl5_4]); refine bd_ ?_; exact BK114.out⟩, ⟨bw_⟩⟩
     rw [if_pos c33] at H
     have c33b0 : decide ((rd x5_4 ((rd_T76 l0_1 x8_4).f0)) < 1000000) = true := decide_eq_true c33
     clear c33
     obtain ⟨c34b0, H⟩ := iq_ H
     obtain ⟨c35b0, H⟩ := iq_ H
     have Hh_ := Aside0.mk H
     clear H
     have hcz38_0 := cz_ BK114 0 (.int .i64 a0_0)
     have hcz38_1 := cz_ BK114 1 (.slice A0_1 l0_1.length c0_1)
     have hfz38_0 := fz_ BK114 0
     have hfz38_1 := fz_ BK114 1
     have p124 : 0 ≤ (x8_4 : Int) := oa_
     have q124 : x8_4 < (l0_1.length : Int) := oa_
     obtain ⟨ad124, e124, hx124_0, hx124_1, hx124_2⟩ := at_T76 HR0_1.out x8_4 p124 q124
     cases e124
     replace hx124_0 := hc5_ HB hx124_0
     replace hx124_1 := hc5_ HB hx124_1
     replace hx124_2 := hc5_ HB hx124_2
     obtain ⟨p124, q124⟩ := et_ p124 q124
     try go_wp2_with ((with_reducible refine gate_dst (N := 9) rfl ?_); refine be_ 9 #[.int .i64 0, .int .i64 0, .int .i64 0] 76 ?_; intro gb125 hg w39 BK125 hb; have GW125 := ge_ HB hg; have GE125 := ge_ HB hg; have NB114_125 := nl_ BK114 hg; have NB125_114 := ng_ BK114 hg; replace HO_5 := rb_ HO_5 hb; replace HB := at_ HB hb; replace BK114 := ab_ BK114 hb; clear hb hg; have hnb40 := NB125_114.out; have hnc40 := NB114_125.out; have hcz41_0 := cz_ BK125 0 (.int .i64 0); have hcz41_1 := cz_ BK125 1 (.int .i64 0); have hcz41_2 := cz_ BK125 2 (.int .i64 0); have hfz41_0 := fz_ BK125 0; have hfz41_1 := fz_ BK125 1; have hfz41_2 := fz_ BK125 2)
     generalize hW_ : (((w39.setCell ⟨gb125, 0, none⟩ (.int .i64 ((rd_T76 l0_1 x8_4).f0))).setCell ⟨gb125, 1, none⟩ (.int .i64 ((rd_T76 l0_1 x8_4).f1))).setCell ⟨gb125, 2, none⟩ (.int .i64 ((rd_T76 l0_1 x8_4).f2))) = w42
     have n0_ : Aside0 (Kd.R (Kd.int .i64) 3 w42 w.heap.size (fun _ => True) (.slice (some ⟨go23, 0, none⟩) x5_4.length co23) x5_4) := by subst hW_; exact ⟨hq_ (Kd.R_mono (Kd.R_far (Kd.R_far (Kd.R_far (Kd.R_types HO_5.out BK125.out (by decide)) (fun _ hk => hk.2) _) (fun _ hk => hk.2) _) (fun _ hk => hk.2) _) (fun _ hk => trivial))⟩
     have n1_ : Aside0 (w42.heap[gb114]? = some (.cells #[.int .i64 a0_0, .slice (some ad124) l0_1.length c0_1] 30 (0, 0))) := by subst hW_; exact ⟨bc_ BK114⟩
     have n2_ : Aside0 (w42.heap[gb125]? = some (.cells #[.int .i64 ((rd_T76 l0_1 x8_4).f0), .int .i64 ((rd_T76 l0_1 x8_4).f1), .int .i64 ((rd_T76 l0_1 x8_4).f2)] 76 (0, 0))) := by subst hW_; exact ⟨by refine bd_ ?_; refine blk_put (cs := #[.int .i64 ((rd_T76 l0_1 x8_4).f0), .int .i64 ((rd_T76 l0_1 x8_4).f1), .int .i64 0]) ?_ 2 _ rfl; refine bd_ ?_; refine blk_put (cs := #[.int .i64 ((rd_T76 l0_1 x8_4).f0), .int .i64 0, .int .i64 0]) ?_ 1 _ rfl; refine bd_ ?_; refine blk_put (cs := #[.int .i64 0, .int .i64 0, .int .i64 0]) ?_ 0 _ rfl; refine bd_ ?_; exact BK125.out⟩
     have n3_ : Aside0 (Below w.heap.size w w42) := by subst hW_; exact ⟨bw_⟩
     clear hW_ HO_5 BK114 BK125 HB
     have HO_5 := n0_
     have BK114 := n1_
     have BK125 := n2_
     have HB := n3_
     clear n0_ n1_ n2_ n3_
     replace HO_5 := rw5_ HO_5
     replace BK114 := ad_ BK114
     replace BK125 := ad_ BK125
     replace HB := Aside0.mk (below_drew1 HB.out)
     have p126 : 0 ≤ (((rd_T76 l0_1 x8_4).f0) : Int) := oa_
     have q126 : ((rd_T76 l0_1 x8_4).f0) < (x5_4.length : Int) := oa_
     obtain ⟨ad126, e126, hx126_0⟩ := Kd.at_int (Kd.R_reads' HO_5.out).2.2 ((rd_T76 l0_1 x8_4).f0) p126 q126
     obtain rfl : (⟨go23, 0, none⟩ : Addr) = ad126 := (by injection e126)
     simp only [add_plain] at hx126_0
     obtain ⟨p126, q126⟩ := et_ p126 q126
     have p127 : 0 ≤ (((rd_T76 l0_1 x8_4).f0) : Int) := oa_
     have q127 : ((rd_T76 l0_1 x8_4).f0) < (x5_4.length : Int) := oa_
     obtain ⟨ad127, e127, hx127_0⟩ := Kd.at_int (Kd.R_reads' HO_5.out).2.2 ((rd_T76 l0_1 x8_4).f0) p127 q127
     obtain rfl : (⟨go23, 0, none⟩ : Addr) = ad127 := (by injection e127)
     simp only [add_plain] at hx127_0
     obtain ⟨p127, q127⟩ := et_ p127 q127
     have p128 : 0 ≤ (((rd_T76 l0_1 x8_4).f1) : Int) := oa_
     have q128 : ((rd_T76 l0_1 x8_4).f1) < (x5_4.length : Int) := oa_
     obtain ⟨ad128, e128, hx128_0⟩ := Kd.at_int (Kd.R_reads' HO_5.out).2.2 ((rd_T76 l0_1 x8_4).f1) p128 q128
     obtain rfl : (⟨go23, 0, none⟩ : Addr) = ad128 := (by injection e128)
     simp only [add_plain] at hx128_0
     obtain ⟨p128, q128⟩ := et_ p128 q128
     refine start_ (n := 22) (S := fun w' => w'.cell? ⟨gb125, 0, none⟩ = some (.int .i64 ((rd_T76 l0_1 x8_4).f0)) ∧ w'.cell? ⟨gb125, 1, none⟩ = some (.int .i64 ((rd_T76 l0_1 x8_4).f1)) ∧ w'.cell? ⟨gb125, 2, none⟩ = some (.int .i64 ((rd_T76 l0_1 x8_4).f2)) ∧ w'.cell? ⟨go23, (((rd_T76 l0_1 x8_4).f0)).toNat, none⟩ = some (.int .i64 (rd x5_4 ((rd_T76 l0_1 x8_4).f0))) ∧ w'.cell? ⟨go23, (((rd_T76 l0_1 x8_4).f0)).toNat, none⟩ = some (.int .i64 (rd x5_4 ((rd_T76 l0_1 x8_4).f0))) ∧ w'.cell? ⟨go23, (((rd_T76 l0_1 x8_4).f1)).toNat, none⟩ = some (.int .i64 (rd x5_4 ((rd_T76 l0_1 x8_4).f1)))) (ds := []) ba2_0 (by kernel_rfl) rfl rfl ⟨bq5_ BK125 0, bq5_ BK125 1, bq5_ BK125 2, hx126_0, hx127_0, hx128_0⟩ (fun hHeld => ?_); refine with_tabW spec_Distances.tab16 spec_Distances.bits16 (fun HT_ HW_ => ?_)
     generalize w42.drew = w43 at HO_5 BK114 BK125 HB hx126_0 hx127_0 hx128_0 hHeld ⊢
     have H := Hh_.out
     clear Hh_
     by_cases c36 : (wrap64 ((rd x5_4 ((rd_T76 l0_1 x8_4).f0)) + ((rd_T76 l0_1 x8_4).f2))) < (rd x5_4 ((rd_T76 l0_1 x8_4).f1))
     rotate_left
     ·rw [if_neg c36] at H
      have c36b0 : decide ((wrap64 ((rd x5_4 ((rd_T76 l0_1 x8_4).f0)) + ((rd_T76 l0_1 x8_4).f2))) < (rd x5_4 ((rd_T76 l0_1 x8_4).f1))) = false := decide_eq_false c36
      clear c36
      have H' := Aside0.mk H
      clear H
      refine pz_ 0 50 ba2_1 HT_ ?_
      refine pz_ 1 51 ba2_2 HT_ ?_
      refine pt_ 2 52 ba2_3 HT_ HW_ hHeld ?_
      refine pz_ 3 53 ba2_4 HT_ ?_
      refine pt_ 4 54 ba2_5 HT_ HW_ hHeld ?_
      refine pz_ 5 55 ba2_6 HT_ ?_
      refine pz_ 6 56 ba2_7 HT_ ?_
      refine pz_ 7 57 ba2_8 HT_ ?_
      refine pz_ 8 58 ba2_9 HT_ ?_
      refine pz_ 12 62 ba2_10 HT_ ?_
      refine pz_ 15 65 ba2_11 HT_ ?_
      refine pz_ 16 66 ba2_12 HT_ ?_
      refine pt_ 9 59 ba2_13 HT_ HW_ hHeld ?_
      refine pz_ 10 60 ba2_14 HT_ ?_
      refine pt_ 11 61 ba2_15 HT_ HW_ hHeld ?_
      refine pt_ 13 63 ba2_16 HT_ HW_ hHeld ?_
      refine pz_ 14 64 ba2_17 HT_ ?_
      refine pt_ 17 67 ba2_18 HT_ HW_ hHeld ?_
      refine pz_ 18 68 ba2_19 HT_ ?_
      refine pt_ 19 69 ba2_20 HT_ HW_ hHeld ?_
      refine pz_ 20 70 ba2_21 HT_ ?_
      refine pz_ 21 71 ba2_22 HT_ ?_
      refine done_ (done_of HT_.out (by kernel_rfl)) ?_
      go_wp2
      (try simp only [← hl5_4])
      go_roundg k4
      case measure => have := HJ2.out; have := HK2.out; have := HK3.out; have := HK4.out; omega
      case rel => exact ⟨(x5_4), (wrap64 (x8_4 + 1)), er_, H', ⟨by have := HJ2.out; have := HK2.out; have := HK3.out; have := HK4.out; omega⟩, ⟨by (try simp only [hl5_3]); (try simp only [hl5_4]); (with_reducible repeat (first | apply Kd.R_alloc | apply Kd.R_drewN | apply Kd.R_drew)); exact HO_5.out⟩, ⟨by (try simp only [hl5_3]); (try simp only [hl5_4]); refine bd_ ?_; exact BK114.out⟩, ⟨bw_⟩⟩
     rw [if_pos c36] at H
     have c36b0 : decide ((wrap64 ((rd x5_4 ((rd_T76 l0_1 x8_4).f0)) + ((rd_T76 l0_1 x8_4).f2))) < (rd x5_4 ((rd_T76 l0_1 x8_4).f1))) = true := decide_eq_true c36
     clear c36
     obtain ⟨y130, hy130⟩ : ∃ y_ : List Int, y_ = (x5_4.set (((rd_T76 l0_1 x8_4).f1) : Int).toNat (wrap64 ((rd x5_4 ((rd_T76 l0_1 x8_4).f0)) + ((rd_T76 l0_1 x8_4).f2)))) := ⟨_, rfl⟩
     replace H : (spec_Distances.l2 k4 y130 x7_3 (wrap64 (x8_4 + 1)) a0_0 l0_1) = some r := by first | (rw [hy130]; with_reducible exact H) | (have H2_ := (Option.bind_some _ _).symm.trans H; rw [hy130]; with_reducible exact H2_) | (have H2_ := (Option.bind_some _ _).symm.trans H; with_reducible exact H2_) | with_reducible exact H | (rw [hy130]; exact H) | exact H
     have Ny130 := Aside0.mk hy130
     clear hy130
     have H' := Aside0.mk H
     clear H
     refine pz_ 0 50 ba2_1 HT_ ?_
     refine pz_ 1 51 ba2_2 HT_ ?_
     refine pt_ 2 52 ba2_3 HT_ HW_ hHeld ?_
     refine pz_ 3 53 ba2_4 HT_ ?_
     refine pt_ 4 54 ba2_5 HT_ HW_ hHeld ?_
     refine pz_ 5 55 ba2_6 HT_ ?_
     refine pz_ 6 56 ba2_7 HT_ ?_
     refine pz_ 7 57 ba2_8 HT_ ?_
     refine pz_ 8 58 ba2_9 HT_ ?_
     refine pz_ 12 62 ba2_10 HT_ ?_
     refine pz_ 15 65 ba2_11 HT_ ?_
     refine pz_ 16 66 ba2_12 HT_ ?_
     refine pt_ 9 59 ba2_13 HT_ HW_ hHeld ?_
     refine pz_ 10 60 ba2_14 HT_ ?_
     refine pt_ 11 61 ba2_15 HT_ HW_ hHeld ?_
     refine pt_ 13 63 ba2_16 HT_ HW_ hHeld ?_
     refine pz_ 14 64 ba2_17 HT_ ?_
     refine pt_ 17 67 ba2_18 HT_ HW_ hHeld ?_
     refine pz_ 18 68 ba2_19 HT_ ?_
     refine pt_ 19 69 ba2_20 HT_ HW_ hHeld ?_
     refine pz_ 20 70 ba2_21 HT_ ?_
     refine pz_ 21 71 ba2_22 HT_ ?_
     refine done_ (done_of HT_.out (by kernel_rfl)) ?_
     go_wp2
     replace HO_5 := rw5_ HO_5
     replace BK114 := ad_ BK114
     replace BK125 := ad_ BK125
     replace HB := Aside0.mk (below_drew1 HB.out)
     have p129 : 0 ≤ (((rd_T76 l0_1 x8_4).f0) : Int) := oa_
     have q129 : ((rd_T76 l0_1 x8_4).f0) < (x5_4.length : Int) := oa_
     obtain ⟨ad129, e129, hx129_0⟩ := Kd.at_int (Kd.R_reads' HO_5.out).2.2 ((rd_T76 l0_1 x8_4).f0) p129 q129
     obtain rfl : (⟨go23, 0, none⟩ : Addr) = ad129 := (by injection e129)
     simp only [add_plain] at hx129_0
     obtain ⟨p129, q129⟩ := et_ p129 q129
     have p37 : 0 ≤ (((rd_T76 l0_1 x8_4).f1) : Int) := oa_
     have q37 : (((rd_T76 l0_1 x8_4).f1) : Int) < ((x5_4.length : Int) : Int) := oa_
     obtain ⟨hx37_0, hf37_0⟩ := Kd.R_celln 0 HO_5.out (((rd_T76 l0_1 x8_4).f1) : Int) p37 q37
     obtain ⟨p37, q37⟩ := et_ p37 q37
     have HP45 := Kd.R_putn HO_5.out (((rd_T76 l0_1 x8_4).f1) : Int) (wrap64 ((rd x5_4 ((rd_T76 l0_1 x8_4).f0)) + ((rd_T76 l0_1 x8_4).f2)))
     rw [← Ny130.out] at HP45
     have HQ45 := Aside0.mk HP45
     clear HP45
     refine start_ (n := 13) (S := fun w' => w'.cell? ⟨gb125, 0, none⟩ = some (.int .i64 ((rd_T76 l0_1 x8_4).f0)) ∧ w'.cell? ⟨gb125, 1, none⟩ = some (.int .i64 ((rd_T76 l0_1 x8_4).f1)) ∧ w'.cell? ⟨gb125, 2, none⟩ = some (.int .i64 ((rd_T76 l0_1 x8_4).f2)) ∧ w'.cell? ⟨go23, (((rd_T76 l0_1 x8_4).f0)).toNat, none⟩ = some (.int .i64 (rd x5_4 ((rd_T76 l0_1 x8_4).f0)))) (ds := [12]) ba2_23 (by kernel_rfl) rfl rfl ⟨bq5_ BK125 0, bq5_ BK125 1, bq5_ BK125 2, hx129_0⟩ (fun hHeld => ?_); refine with_tabW spec_Distances.tab17 spec_Distances.bits17 (fun HT_ HW_ => ?_)
     generalize w43.drew = w44 at HO_5 BK114 BK125 HB HQ45 hf37_0 hx129_0 hx37_0 hHeld ⊢
     refine pz_ 0 72 ba2_24 HT_ ?_
     refine pz_ 1 73 ba2_25 HT_ ?_
     refine pz_ 3 75 ba2_26 HT_ ?_
     refine pz_ 4 76 ba2_27 HT_ ?_
     refine pz_ 8 80 ba2_28 HT_ ?_
     refine pt_ 2 74 ba2_29 HT_ HW_ hHeld ?_
     refine pt_ 5 77 ba2_30 HT_ HW_ hHeld ?_
     refine pz_ 6 78 ba2_31 HT_ ?_
     refine pt_ 7 79 ba2_32 HT_ HW_ hHeld ?_
     refine pt_ 9 81 ba2_33 HT_ HW_ hHeld ?_
     refine pz_ 10 82 ba2_34 HT_ ?_
     refine pz_ 11 83 ba2_35 HT_ ?_
     refine last_ (i := 12) (N := none) ba2_36 rfl rfl (one_of HT_.out (by kernel_rfl)) (by decide) (fun K hK => ?_)
     refine skip_ (w1 := ?_) (by rfl) rfl ?_ ?_
     rotate_left; · go_simp; rfl
     refine hK.out _ _ ?_
     clear hK K
     refine done_ (done_of HT_.out (by kernel_rfl)) ?_
     go_wp2
     (try simp only [← hl5_4])
     go_roundg k4
     case measure => have := HJ2.out; have := HK2.out; have := HK3.out; have := HK4.out; omega
     case rel => exact ⟨(y130), (wrap64 (x8_4 + 1)), er_, H', ⟨by have := HJ2.out; have := HK2.out; have := HK3.out; have := HK4.out; omega⟩, ⟨by (try simp only [hl5_3]); (try simp only [hl5_4]); (with_reducible repeat (first | apply Kd.R_alloc | apply Kd.R_drewN | apply Kd.R_drew)); exact HQ45.out⟩, ⟨by (try simp only [hl5_3]); (try simp only [hl5_4]); refine bd_ ?_; refine blk_far ?_ (by have h_ := Kd.R_ne HO_5.out BK114.out (by decide); intro e_; exact h_ (by rw [e_]; rfl)) _; refine bd_ ?_; exact BK114.out⟩, ⟨by repeat (first | (with_reducible first | exact HB.out | apply below_alloc | apply pw_below_drewN | apply below_drew1 | refine below_set ?_ GB23.out | refine below_set ?_ GE114.out | refine below_set ?_ GE125.out) | exact HB.out)⟩⟩
end Go.Proofs.Ythmahcohcphljaa.QFnCheapest
