/- Contracts of functions that the law reaches: what each call returns and what it leaves in memory. Made by this session over the print of the kit. -/
import Derived.Test.YthmahcohcphljaaQFnCheapestx0
import Derived.Test.YthmahcohcphljaaQFnCheapestx7
namespace Go.Proofs.Ythmahcohcphljaa.QFnCheapest
open Go.RowKit Go.Proofs.YthmahcohcphljaaC.PrintWords Go.Proofs.YthmahcohcphljaaC.PrintLast Go.Proofs.YthmahcohcphljaaC.PrintMore
attribute [local go_sem] max2_int min2_int max_two min_two max_three min_three max_four min_four
set_option linter.unusedVariables false
set_option linter.unusedSimpArgs false
def ba10_0 := bs_ 13 0
def ba10_1 := bs_ 13 1
def ba10_2 := bs_ 13 5
def ba10_3 := bs_ 13 13
def ba10_4 := bs_ 13 141
def ba10_5 := bs_ 13 143
def ba10_6 := bs_ 13 159
def ba10_7 := bs_ 13 191
def ba10_8 := bs_ 13 511
def ba10_9 := bs_ 13 255
def ba10_10 := bs_ 13 447
def ba10_11 := bs_ 13 1023
def ba10_12 := bs_ 13 2047
def ba10_13 := bs_ 13 4095
def ba10_14 := bs_ 13 8191
def ba10_15 := bs_ 10 0
def ba10_16 := bs_ 10 1
def ba10_17 := bs_ 10 5
def ba10_18 := bs_ 10 7
def ba10_19 := bs_ 10 15
def ba10_20 := bs_ 10 31
def ba10_21 := bs_ 10 63
def ba10_22 := bs_ 10 127
def ba10_23 := bs_ 10 255
def ba10_24 := bs_ 10 511
def ba10_25 := bs_ 10 1023
def ba10_26 := bs_ 12 0
def ba10_27 := bs_ 12 1
def ba10_28 := bs_ 12 5
def ba10_29 := bs_ 12 13
def ba10_30 := bs_ 12 45
def ba10_31 := bs_ 12 47
def ba10_32 := bs_ 12 63
def ba10_33 := bs_ 12 127
def ba10_34 := bs_ 12 255
def ba10_35 := bs_ 12 511
def ba10_36 := bs_ 12 1023
def ba10_37 := bs_ 12 2047
def ba10_38 := bs_ 12 4095
def spec_l03Bend.f (s0_0 : List Int) (s0_1 : Int) (s0_2 : Int) (a1_0 : Int) (l1_1 : List (S76)) : Option (Int × (List (S76)) × Int × Int) := (spec_l01Below.f s0_0 s0_1 s0_2 4).bind fun bt302 => (if bt302.1 = 0 then ((spec_l01PickInt.f s0_0 bt302.2.1 bt302.2.2 (([0, 1, 11, wrap64 (a1_0 - 1)] : List Int))).bind fun bt308 => (some (bt308.1, l1_1, bt308.2.1, bt308.2.2))) else (if bt302.1 = 1 then (if (l1_1.length : Int) > 0 then ((spec_l01Below.f s0_0 bt302.2.1 bt302.2.2 (l1_1.length : Int)).bind fun bt311 => ((spec_l01PickInt.f s0_0 bt311.2.1 bt311.2.2 (([0, 1000, 1001] : List Int))).bind fun bt317 => (if 0 ≤ bt311.1 then (if bt311.1 < (l1_1.length : Int) then (some (a1_0, (l1_1.set (bt311.1 : Int).toNat (⟨(rd_T76 l1_1 bt311.1).f0, (rd_T76 l1_1 bt311.1).f1, bt317.1⟩ : S76)), bt317.2.1, bt317.2.2)) else (none)) else (none)))) else (some (a1_0, l1_1, bt302.2.1, bt302.2.2))) else (if bt302.1 = 2 then (if (l1_1.length : Int) > 0 then (if 0 < (l1_1.length : Int) then (if l1_1.length < 5864062014805 then (some (a1_0, (l1_1 ++ [(⟨(rd_T76 l1_1 0).f0, (rd_T76 l1_1 0).f1, (rd_T76 l1_1 0).f2⟩ : S76)]), bt302.2.1, bt302.2.2)) else (none)) else (none)) else (some (a1_0, l1_1, bt302.2.1, bt302.2.2))) else (if bt302.1 = 3 then (if (l1_1.length : Int) > 0 then ((spec_l01Below.f s0_0 bt302.2.1 bt302.2.2 (l1_1.length : Int)).bind fun bt325 => (if 0 ≤ bt325.1 then (if bt325.1 < (l1_1.length : Int) then (some (a1_0, (l1_1.set (bt325.1 : Int).toNat (⟨(rd_T76 l1_1 bt325.1).f0, (rd_T76 l1_1 bt325.1).f0, (rd_T76 l1_1 bt325.1).f2⟩ : S76)), bt325.2.1, bt325.2.2)) else (none)) else (none))) else (some (a1_0, l1_1, bt302.2.1, bt302.2.2))) else (some (a1_0, l1_1, bt302.2.1, bt302.2.2))))))
def spec_l03Bend.T6 : Bool × List (List Nat × List Nat) := (true, [([], []), ([0], [0]), ([], []), ([], []), ([3], [3]), ([4], [4]), ([2, 5], [2, 5]), ([], []), ([], []), ([7, 8, 6], [7, 8]), ([1, 6, 0, 1, 2, 3, 4, 5, 6, 7, 8, 9], [1, 6]), ([10, 0, 1, 2, 3, 4, 5, 6, 7, 8, 9], [10]), ([11, 9, 9, 0, 1, 2, 3, 4, 5, 6, 7, 8, 9], [9, 11])])
def spec_l03Bend.B6 : List Nat := [0, 1, 0, 0, 8, 24, 60, 0, 0, 508, 1023, 2047, 4095]
theorem spec_l03Bend.tab6 : rtab .any (opsOf Try.f85 6) = spec_l03Bend.T6 := by kernel_rfl
theorem spec_l03Bend.bits6 : waitsOk spec_l03Bend.T6.2 spec_l03Bend.B6 = true := by kernel_rfl
def spec_l03Bend.T9 : Bool × List (List Nat × List Nat) := (true, [([], []), ([0], [0]), ([], []), ([2], [2]), ([3], [3]), ([4], [4]), ([5], [5]), ([1, 6], [1, 6]), ([0, 1, 2, 3, 4, 5, 6, 7], []), ([8, 7, 7, 0, 1, 2, 3, 4, 5, 6, 7], [7, 8])])
def spec_l03Bend.B9 : List Nat := [0, 1, 0, 4, 12, 28, 60, 127, 255, 511]
theorem spec_l03Bend.tab9 : rtab .any (opsOf Try.f85 9) = spec_l03Bend.T9 := by kernel_rfl
theorem spec_l03Bend.bits9 : waitsOk spec_l03Bend.T9.2 spec_l03Bend.B9 = true := by kernel_rfl
def spec_l03Bend.T13 : Bool × List (List Nat × List Nat) := (true, [([], []), ([0], [0]), ([], []), ([], []), ([3], [3]), ([], []), ([4, 5], [4, 5]), ([6], [6]), ([7], [7]), ([1, 2, 0, 1, 2, 3, 4, 5, 6, 7, 8], [1, 2]), ([9, 0, 1, 2, 3, 4, 5, 6, 7, 8], [9]), ([10, 8, 0, 1, 2, 3, 4, 5, 6, 7, 8], [8, 10])])
def spec_l03Bend.B13 : List Nat := [0, 1, 0, 0, 8, 0, 56, 120, 248, 511, 1023, 2047]
theorem spec_l03Bend.tab13 : rtab .any (opsOf Try.f85 13) = spec_l03Bend.T13 := by kernel_rfl
theorem spec_l03Bend.bits13 : waitsOk spec_l03Bend.T13.2 spec_l03Bend.B13 = true := by kernel_rfl
set_option maxHeartbeats 8000000 in
set_option maxRecDepth 100000 in
theorem spec_l03Bend.calls (g : Nat) (s0_0 : List Int) (s0_1 : Int) (s0_2 : Int) (a1_0 : Int) (P1_1_ : Nat → Prop) (u9000_ : Value) (l1_1 : List (S76)) (r1 : Int) (r2 : List (S76)) (r3 : Int) (r4 : Int) (w0 w : World) (hI : IsS115 w0 w g s0_0 s0_1 s0_2) (hB : Below w0.heap.size w0 w) (ho1_1 : Kd.R k76 76 w w0.heap.size P1_1_ u9000_ l1_1) (h : spec_l03Bend.f s0_0 s0_1 s0_2 a1_0 l1_1 = some (r1, r2, r3, r4)) :
  Calls Try.prog 85 #[.pointer (some ⟨g, 0, none⟩), .agg #[.int .i64 a1_0, u9000_]] w fun e w' => ∃ v1_ : Value, e = .returned (.agg #[.int .i64 r1, v1_]) ∧ Kd.R k76 76 w' w0.heap.size (fun k_ => (P1_1_ k_ ∨ w.heap.size ≤ k_)) v1_ r2 ∧ IsS115 w0 w' g s0_0 r3 r4 ∧ Below w0.heap.size w0 w' ∧ Kept w w' (fun k_ => (P1_1_ k_) ∨ k_ = g) := by
 have hu30 := Try.underlying30
 have hu76 := Try.underlying76
 have HO1_1 := Aside0.mk (show Kd.R k76 76 w w0.heap.size (fun k_ => (P1_1_ k_ ∨ w.heap.size ≤ k_)) u9000_ l1_1 from Kd.R_mono ho1_1 (fun k_ hk => (.inl hk)))
 have HI0 := Aside0.mk hI
 have HL := Aside0.mk hB.size
 clear hI
 have HK := Aside0.mk (Kept.refl w (fun k_ => (P1_1_ k_) ∨ k_ = g))
 have HW0 := Aside0.mk hB.size
 have HB := Aside0.mk hB
 clear hB
 have H : ((spec_l01Below.f s0_0 s0_1 s0_2 4).bind fun bt302 => (if bt302.1 = 0 then ((spec_l01PickInt.f s0_0 bt302.2.1 bt302.2.2 (([0, 1, 11, wrap64 (a1_0 - 1)] : List Int))).bind fun bt308 => (some (bt308.1, l1_1, bt308.2.1, bt308.2.2))) else (if bt302.1 = 1 then (if (l1_1.length : Int) > 0 then ((spec_l01Below.f s0_0 bt302.2.1 bt302.2.2 (l1_1.length : Int)).bind fun bt311 => ((spec_l01PickInt.f s0_0 bt311.2.1 bt311.2.2 (([0, 1000, 1001] : List Int))).bind fun bt317 => (if 0 ≤ bt311.1 then (if bt311.1 < (l1_1.length : Int) then (some (a1_0, (l1_1.set (bt311.1 : Int).toNat (⟨(rd_T76 l1_1 bt311.1).f0, (rd_T76 l1_1 bt311.1).f1, bt317.1⟩ : S76)), bt317.2.1, bt317.2.2)) else (none)) else (none)))) else (some (a1_0, l1_1, bt302.2.1, bt302.2.2))) else (if bt302.1 = 2 then (if (l1_1.length : Int) > 0 then (if 0 < (l1_1.length : Int) then (if l1_1.length < 5864062014805 then (some (a1_0, (l1_1 ++ [(⟨(rd_T76 l1_1 0).f0, (rd_T76 l1_1 0).f1, (rd_T76 l1_1 0).f2⟩ : S76)]), bt302.2.1, bt302.2.2)) else (none)) else (none)) else (some (a1_0, l1_1, bt302.2.1, bt302.2.2))) else (if bt302.1 = 3 then (if (l1_1.length : Int) > 0 then ((spec_l01Below.f s0_0 bt302.2.1 bt302.2.2 (l1_1.length : Int)).bind fun bt325 => (if 0 ≤ bt325.1 then (if bt325.1 < (l1_1.length : Int) then (some (a1_0, (l1_1.set (bt325.1 : Int).toNat (⟨(rd_T76 l1_1 bt325.1).f0, (rd_T76 l1_1 bt325.1).f0, (rd_T76 l1_1 bt325.1).f2⟩ : S76)), bt325.2.1, bt325.2.2)) else (none)) else (none))) else (some (a1_0, l1_1, bt302.2.1, bt302.2.2))) else (some (a1_0, l1_1, bt302.2.1, bt302.2.2))))))) = some (r1, r2, r3, r4) := h
 clear h
 obtain ⟨⟨t302, t303, t304⟩, A3, H⟩ := ob_ H
 by_cases c4 : t302 = 0
 ·rw [if_pos c4] at H
  have c4b0 : (t302 == 0) = true := beq_iff_eq.mpr c4
  have c4b1 : (t302 != 0) = false := bne_eq_false_iff_eq.mpr c4
  clear c4
  obtain ⟨y305, hy305⟩ : ∃ y_ : List Int, y_ = (([0, 1, 11, wrap64 (a1_0 - 1)] : List Int)) := ⟨_, rfl⟩
  replace H : ((spec_l01PickInt.f s0_0 t303 t304 y305).bind fun bt308 => (some (bt308.1, l1_1, bt308.2.1, bt308.2.2))) = some (r1, r2, r3, r4) := by first | (rw [hy305]; with_reducible exact H) | (have H2_ := (Option.bind_some _ _).symm.trans H; rw [hy305]; with_reducible exact H2_) | (have H2_ := (Option.bind_some _ _).symm.trans H; with_reducible exact H2_) | with_reducible exact H | (rw [hy305]; exact H) | exact H
  have Ny305 := Aside0.mk hy305
  clear hy305
  obtain ⟨⟨t308, t309, t310⟩, A5, H⟩ := ob_ H
  simp only [Option.some.injEq, Prod.mk.injEq] at H
  obtain ⟨rfl, rfl, rfl, rfl⟩ := H
  obtain ⟨Ao6, co6, eo6⟩ := Kd.R_slice HO1_1.out
  subst eo6
  go_enter Try.func85, Try.ntmps85
  go_wp2_with (first | ((with_reducible refine gate_dst (N := 3) rfl ?_); refine be_ 3 #[.int .i64 a1_0, .slice Ao6 l1_1.length co6] 30 ?_; intro gb300 hg w7 BK300 hb; have GW300 := Aside0.mk ((by rw [hg]; exact (by first | exact HK.out.1 | exact (show Kept w _ (fun k_ => (P1_1_ k_) ∨ k_ = g) from by repeat (first | (with_reducible first | exact HK.out | apply Kept.alloc | apply Kept.drewN | apply Kept.drew | refine Kept.setCell ?_ (.inl (.inr rfl)) _) | exact HK.out)).1) : w.heap.size ≤ gb300)); have GE300 := Aside0.mk ((by rw [hg]; exact (below_size (bw115_)) : w0.heap.size ≤ gb300)); have NB0_300 := Aside0.mk ((by rw [hg]; exact Nat.ne_of_lt (IsS115.lt (show IsS115 w0 _ g s0_0 s0_1 s0_2 from is115_)) : g ≠ gb300)); have NB300_0 := Aside0.mk ((by rw [hg]; exact Nat.ne_of_gt (IsS115.lt (show IsS115 w0 _ g s0_0 s0_1 s0_2 from is115_)) : gb300 ≠ g)); replace HO1_1 := rb_ HO1_1 hb; replace HK := Aside0.mk (Kept.below (S := (fun k_ => (P1_1_ k_) ∨ k_ = g)) (kz_ HK) hb); replace HB := bs115_ hb; replace HI0 := Aside0.mk (IsS115.below is115_ hb); clear hb hg) | ((with_reducible refine gate_dst (N := 4) rfl ?_); refine be_ 4 #[.int .i64 0, .slice none 0 0] 30 ?_; intro gb301 hg w8 BK301 hb; have GW301 := Aside0.mk ((by rw [hg]; exact (by first | exact HK.out.1 | exact (show Kept w _ (fun k_ => (P1_1_ k_) ∨ k_ = g) from by repeat (first | (with_reducible first | exact HK.out | apply Kept.alloc | apply Kept.drewN | apply Kept.drew | refine Kept.setCell ?_ (.inl (.inr rfl)) _ | refine Kept.setCell ?_ (.inr GW300.out) _) | exact HK.out)).1) : w.heap.size ≤ gb301)); have GE301 := Aside0.mk ((by rw [hg]; exact (below_size (bw115_)) : w0.heap.size ≤ gb301)); have NB300_301 := nl_ BK300 hg; have NB301_300 := ng_ BK300 hg; have NB0_301 := Aside0.mk ((by rw [hg]; exact Nat.ne_of_lt (IsS115.lt (show IsS115 w0 _ g s0_0 s0_1 s0_2 from is115_)) : g ≠ gb301)); have NB301_0 := Aside0.mk ((by rw [hg]; exact Nat.ne_of_gt (IsS115.lt (show IsS115 w0 _ g s0_0 s0_1 s0_2 from is115_)) : gb301 ≠ g)); replace HO1_1 := rb_ HO1_1 hb; replace HK := Aside0.mk (Kept.below (S := (fun k_ => (P1_1_ k_) ∨ k_ = g)) (kz_ HK) hb); replace HB := bs115_ hb; replace BK300 := ab_ BK300 hb; replace HI0 := Aside0.mk (IsS115.below is115_ hb); clear hb hg) | ((with_reducible refine gate_callee (f := 68) rfl ?_); refine gl_ (some 7) Try.func68 #[.pointer (some ⟨g, 0, none⟩), .int .i64 4] ?_; (with_reducible refine (spec_l01Below.calls g s0_0 s0_1 s0_2 4 t302 t303 t304 w0 _ ?side1 ?side2 A3.out).mono ?_); (case side1 => exact is115_); (case side2 => exact bw115_); rintro e w9 ⟨rfl, hi, hb, hk⟩; refine ⟨_, rfl, ?_⟩; replace HO1_1 := ak115_ HO1_1 (show IsS115 w0 _ g s0_0 s0_1 s0_2 from is115_) hk; replace BK300 := kb_ BK300 NB300_0 hk; replace BK301 := kb_ BK301 NB301_0 hk; replace HK := Aside0.mk (Kept.of_keep (S := (fun k_ => (P1_1_ k_) ∨ k_ = g)) (kz_ HK) hk (.inl (.inr rfl))); replace HB := Aside0.mk (hb); replace HI0 := Aside0.mk (hi); clear hb hk hi; have hnb10 := NB300_301.out; have hnc10 := NB301_300.out; have hnb11 := NB300_0.out; have hnc11 := NB0_300.out; have hcz12_0 := cz_ BK300 0 (.int .i64 a1_0); have hcz12_1 := cz_ BK300 1 (.slice Ao6 l1_1.length co6); have hfz12_0 := fz_ BK300 0; have hfz12_1 := fz_ BK300 1) | ((with_reducible refine gate_dst (N := 14) rfl ?_); refine Kd.R_lit (Kd.int .i64) _ 3 ?hg (N := 14) ?hd (xs := ([0, 1, 11, wrap64 (a1_0 - 1)] : List Int)) (inner := [.int .i64 0, .int .i64 1, .int .i64 11, .int .i64 (wrap64 (a1_0 - 1))]) (ok := fun _ => True) (okp := fun _ => True) ?hr ?hp (fun _ hk => hk) trivial (Below.refl _ _) (Nat.le_refl _) (by simp) ?_; (case hd => rfl); (case hg => rfl); (case hr => first | (go_simp; done) | (go_simp; rfl)); (case hp => exact (Reps.one (show Kd.M (Kd.int .i64) _ _ _ 0 [.int .i64 0] from rfl) (Reps.one (show Kd.M (Kd.int .i64) _ _ _ 1 [.int .i64 1] from rfl) (Reps.one (show Kd.M (Kd.int .i64) _ _ _ 11 [.int .i64 11] from rfl) (Reps.one (show Kd.M (Kd.int .i64) _ _ _ (wrap64 (a1_0 - 1)) [.int .i64 (wrap64 (a1_0 - 1))] from rfl) (Reps.none _ _)))))); intro v306 w13 ho14 hb hg_ hnew_; clear hg_ hnew_; (first | rw [← Ny305.out] at ho14 | (simp only [Int.reduceToNat] at ho14; rw [← Ny305.out] at ho14)); have HO307 := Aside0.mk (Kd.R_lower (Kd.R_newM (M := fun k_ => (P1_1_ k_ ∨ w.heap.size ≤ k_)) ho14 (by first | exact HK.out.1 | exact (show Kept w _ (fun k_ => (P1_1_ k_) ∨ k_ = g) from by repeat (first | (with_reducible first | exact HK.out | apply Kept.alloc | apply Kept.drewN | apply Kept.drew | refine Kept.setCell ?_ (.inl (.inr rfl)) _ | refine Kept.setCell ?_ (.inr GW300.out) _ | refine Kept.setCell ?_ (.inr GW301.out) _) | exact HK.out)).1) (fun k_ h_ => .inr h_)) (below_size (bw115_))); replace HO1_1 := rb_ HO1_1 hb; replace BK300 := ab_ BK300 hb; replace BK301 := ab_ BK301 hb; replace HK := Aside0.mk (Kept.below (S := (fun k_ => (P1_1_ k_) ∨ k_ = g)) (kz_ HK) hb); replace HB := bs115_ hb; replace HI0 := Aside0.mk (IsS115.below is115_ hb); clear hb ho14; obtain ⟨Ao15, co15, eo15⟩ := Kd.R_slice HO307.out; subst eo15) | ((with_reducible refine gate_callee (f := 67) rfl ?_); refine gl_ (some 15) Try.func67 #[.pointer (some ⟨g, 0, none⟩), .slice Ao15 y305.length co15] ?_; (with_reducible refine (spec_l01PickInt.calls g s0_0 t303 t304 _ _ y305 t308 t309 t310 w0 _ ?side1 ?side2 ?side3 ?side4 ?side5 A5.out).mono ?_); (case side1 => exact is115_); (case side2 => exact bw115_); (case side3 => exact rc_ HO307); (case side4 => exact (Kd.R_reads' HO307.out).2.1); (case side5 => exact far_slice (IsS115.own_ne HI0.out HO307.out (by decide))); rintro e w16 ⟨rfl, hi, hb, hk⟩; refine ⟨_, rfl, ?_⟩; replace HO1_1 := ak115_ HO1_1 (show IsS115 w0 _ g s0_0 t303 t304 from is115_) hk; replace BK300 := kb_ BK300 NB300_0 hk; replace BK301 := kb_ BK301 NB301_0 hk; replace HO307 := ak115_ HO307 (show IsS115 w0 _ g s0_0 t303 t304 from is115_) hk; replace HK := Aside0.mk (Kept.of_keep (S := (fun k_ => (P1_1_ k_) ∨ k_ = g)) (kz_ HK) hk (.inl (.inr rfl))); replace HB := Aside0.mk (hb); replace HI0 := Aside0.mk (hi); clear hb hk hi; have hcz17_0 := cz_ BK300 0 (.int .i64 a1_0); have hcz17_1 := cz_ BK300 1 (.slice Ao6 l1_1.length co6); have hfz17_0 := fz_ BK300 0; have hfz17_1 := fz_ BK300 1; have hnb18 := NB301_0.out; have hnc18 := NB0_301.out; have hcz19_0 := cz_ BK301 0 (.int .i64 0); have hcz19_1 := cz_ BK301 1 (.slice none 0 0); have hfz19_0 := fz_ BK301 0; have hfz19_1 := fz_ BK301 1))
  refine bodyPost_ret (results_cell_row rfl _ _ gb301 30 #[.int .i64 t308, .slice Ao6 l1_1.length co6] (0, 0) _ rfl (by refine bd_ ?_; refine blk_put (cs := #[.int .i64 t308, .slice none 0 0]) ?_ 1 _ rfl; refine bd_ ?_; refine blk_put (cs := #[.int .i64 0, .slice none 0 0]) ?_ 0 _ rfl; refine bd_ ?_; refine blk_far ?_ NB301_300.out _; refine bd_ ?_; exact BK301.out) Try.underlying30 rfl (by kernel_rfl)) rfl ?_
  exact ⟨_, ew_, by (with_reducible repeat (first | apply Kd.R_alloc | apply Kd.R_drewN | apply Kd.R_drew)); exact Kd.R_mono (Kd.R_far (Kd.R_far (Kd.R_far (Kd.R_types (Kd.R_types HO1_1.out BK300.out (by decide)) BK301.out (by decide)) (fun _ hk => hk.1.2) _) (fun _ hk => hk.2) _) (fun _ hk => hk.2) _) (fun _ hk => hk.1.1), is115_, bw115_, kz_ HK⟩
 rw [if_neg c4] at H
 have c4b0 : (t302 == 0) = false := beq_eq_false_iff_ne.mpr c4
 have c4b1 : (t302 != 0) = true := bne_iff_ne.mpr c4
 by_cases c20 : t302 = 1
 ·rw [if_pos c20] at H
  have c20b0 : (t302 == 1) = true := beq_iff_eq.mpr c20
  have c20b1 : (t302 != 1) = false := bne_eq_false_iff_eq.mpr c20
  clear c20
  by_cases c21 : (l1_1.length : Int) > 0
  rotate_left
  ·rw [if_neg c21] at H
   have c21b0 : decide (0 < (l1_1.length : Int)) = false := decide_eq_false c21
   have c21b1 : decide (0 < l1_1.length) = false := decide_eq_false (by omega)
   clear c21
   simp only [Option.some.injEq, Prod.mk.injEq] at H
   obtain ⟨rfl, rfl, rfl, rfl⟩ := H
   obtain ⟨Ao46, co46, eo46⟩ := Kd.R_slice HO1_1.out
   subst eo46
   go_enter Try.func85, Try.ntmps85
   go_wp2_with (first | ((with_reducible refine gate_dst (N := 3) rfl ?_); refine be_ 3 #[.int .i64 a1_0, .slice Ao46 l1_1.length co46] 30 ?_; intro gb300 hg w47 BK300 hb; have GW300 := Aside0.mk ((by rw [hg]; exact (by first | exact HK.out.1 | exact (show Kept w _ (fun k_ => (P1_1_ k_) ∨ k_ = g) from by repeat (first | (with_reducible first | exact HK.out | apply Kept.alloc | apply Kept.drewN | apply Kept.drew | refine Kept.setCell ?_ (.inl (.inr rfl)) _) | exact HK.out)).1) : w.heap.size ≤ gb300)); have GE300 := Aside0.mk ((by rw [hg]; exact (below_size (bw115_)) : w0.heap.size ≤ gb300)); have NB0_300 := Aside0.mk ((by rw [hg]; exact Nat.ne_of_lt (IsS115.lt (show IsS115 w0 _ g s0_0 s0_1 s0_2 from is115_)) : g ≠ gb300)); have NB300_0 := Aside0.mk ((by rw [hg]; exact Nat.ne_of_gt (IsS115.lt (show IsS115 w0 _ g s0_0 s0_1 s0_2 from is115_)) : gb300 ≠ g)); replace HO1_1 := rb_ HO1_1 hb; replace HK := Aside0.mk (Kept.below (S := (fun k_ => (P1_1_ k_) ∨ k_ = g)) (kz_ HK) hb); replace HB := bs115_ hb; replace HI0 := Aside0.mk (IsS115.below is115_ hb); clear hb hg) | ((with_reducible refine gate_dst (N := 4) rfl ?_); refine be_ 4 #[.int .i64 0, .slice none 0 0] 30 ?_; intro gb301 hg w48 BK301 hb; have GW301 := Aside0.mk ((by rw [hg]; exact (by first | exact HK.out.1 | exact (show Kept w _ (fun k_ => (P1_1_ k_) ∨ k_ = g) from by repeat (first | (with_reducible first | exact HK.out | apply Kept.alloc | apply Kept.drewN | apply Kept.drew | refine Kept.setCell ?_ (.inl (.inr rfl)) _ | refine Kept.setCell ?_ (.inr GW300.out) _) | exact HK.out)).1) : w.heap.size ≤ gb301)); have GE301 := Aside0.mk ((by rw [hg]; exact (below_size (bw115_)) : w0.heap.size ≤ gb301)); have NB300_301 := nl_ BK300 hg; have NB301_300 := ng_ BK300 hg; have NB0_301 := Aside0.mk ((by rw [hg]; exact Nat.ne_of_lt (IsS115.lt (show IsS115 w0 _ g s0_0 s0_1 s0_2 from is115_)) : g ≠ gb301)); have NB301_0 := Aside0.mk ((by rw [hg]; exact Nat.ne_of_gt (IsS115.lt (show IsS115 w0 _ g s0_0 s0_1 s0_2 from is115_)) : gb301 ≠ g)); replace HO1_1 := rb_ HO1_1 hb; replace HK := Aside0.mk (Kept.below (S := (fun k_ => (P1_1_ k_) ∨ k_ = g)) (kz_ HK) hb); replace HB := bs115_ hb; replace BK300 := ab_ BK300 hb; replace HI0 := Aside0.mk (IsS115.below is115_ hb); clear hb hg) | ((with_reducible refine gate_callee (f := 68) rfl ?_); refine gl_ (some 7) Try.func68 #[.pointer (some ⟨g, 0, none⟩), .int .i64 4] ?_; (with_reducible refine (spec_l01Below.calls g s0_0 s0_1 s0_2 4 t302 t303 t304 w0 _ ?side1 ?side2 A3.out).mono ?_); (case side1 => exact is115_); (case side2 => exact bw115_); rintro e w49 ⟨rfl, hi, hb, hk⟩; refine ⟨_, rfl, ?_⟩; replace HO1_1 := ak115_ HO1_1 (show IsS115 w0 _ g s0_0 s0_1 s0_2 from is115_) hk; replace BK300 := kb_ BK300 NB300_0 hk; replace BK301 := kb_ BK301 NB301_0 hk; replace HK := Aside0.mk (Kept.of_keep (S := (fun k_ => (P1_1_ k_) ∨ k_ = g)) (kz_ HK) hk (.inl (.inr rfl))); replace HB := Aside0.mk (hb); replace HI0 := Aside0.mk (hi); clear hb hk hi; have hnb50 := NB300_301.out; have hnc50 := NB301_300.out; have hnb51 := NB300_0.out; have hnc51 := NB0_300.out; have hcz52_0 := cz_ BK300 0 (.int .i64 a1_0); have hcz52_1 := cz_ BK300 1 (.slice Ao46 l1_1.length co46); have hfz52_0 := fz_ BK300 0; have hfz52_1 := fz_ BK300 1; have hnb53 := NB301_0.out; have hnc53 := NB0_301.out; have hcz54_0 := cz_ BK301 0 (.int .i64 0); have hcz54_1 := cz_ BK301 1 (.slice none 0 0); have hfz54_0 := fz_ BK301 0; have hfz54_1 := fz_ BK301 1))
   refine bodyPost_ret (results_cell_row rfl _ _ gb301 30 #[.int .i64 a1_0, .slice Ao46 l1_1.length co46] (0, 0) _ rfl (by refine bd_ ?_; refine blk_put (cs := #[.int .i64 a1_0, .slice none 0 0]) ?_ 1 _ rfl; refine bd_ ?_; refine blk_put (cs := #[.int .i64 0, .slice none 0 0]) ?_ 0 _ rfl; refine bd_ ?_; exact BK301.out) Try.underlying30 rfl (by kernel_rfl)) rfl ?_
   exact ⟨_, ew_, by (with_reducible repeat (first | apply Kd.R_alloc | apply Kd.R_drewN | apply Kd.R_drew)); exact Kd.R_mono (Kd.R_far (Kd.R_far (Kd.R_types HO1_1.out BK301.out (by decide)) (fun _ hk => hk.2) _) (fun _ hk => hk.2) _) (fun _ hk => hk.1), is115_, bw115_, kz_ HK⟩
  rw [if_pos c21] at H
  have c21b0 : decide (0 < (l1_1.length : Int)) = true := decide_eq_true c21
  have c21b1 : decide (0 < l1_1.length) = true := decide_eq_true (by omega)
  clear c21
  obtain ⟨⟨t311, t312, t313⟩, A22, H⟩ := ob_ H
  obtain ⟨y314, hy314⟩ : ∃ y_ : List Int, y_ = (([0, 1000, 1001] : List Int)) := ⟨_, rfl⟩
  replace H : ((spec_l01PickInt.f s0_0 t312 t313 y314).bind fun bt317 => (if 0 ≤ t311 then (if t311 < (l1_1.length : Int) then (some (a1_0, (l1_1.set (t311 : Int).toNat (⟨(rd_T76 l1_1 t311).f0, (rd_T76 l1_1 t311).f1, bt317.1⟩ : S76)), bt317.2.1, bt317.2.2)) else (none)) else (none))) = some (r1, r2, r3, r4) := by first | (rw [hy314]; with_reducible exact H) | (have H2_ := (Option.bind_some _ _).symm.trans H; rw [hy314]; with_reducible exact H2_) | (have H2_ := (Option.bind_some _ _).symm.trans H; with_reducible exact H2_) | with_reducible exact H | (rw [hy314]; exact H) | exact H
  have Ny314 := Aside0.mk hy314
  clear hy314
  obtain ⟨⟨t317, t318, t319⟩, A23, H⟩ := ob_ H
  obtain ⟨c24b0, H⟩ := iq_ H
  obtain ⟨c25b0, H⟩ := iq_ H
  obtain ⟨y320, hy320⟩ : ∃ y_ : List (S76), y_ = (l1_1.set (t311 : Int).toNat (⟨(rd_T76 l1_1 t311).f0, (rd_T76 l1_1 t311).f1, t317⟩ : S76)) := ⟨_, rfl⟩
  replace H : (some (a1_0, y320, t318, t319)) = some (r1, r2, r3, r4) := by first | (rw [hy320]; with_reducible exact H) | (have H2_ := (Option.bind_some _ _).symm.trans H; rw [hy320]; with_reducible exact H2_) | (have H2_ := (Option.bind_some _ _).symm.trans H; with_reducible exact H2_) | with_reducible exact H | (rw [hy320]; exact H) | exact H
  have Ny320 := Aside0.mk hy320
  clear hy320
  simp only [Option.some.injEq, Prod.mk.injEq] at H
  obtain ⟨rfl, rfl, rfl, rfl⟩ := H
  obtain ⟨Ao27, co27, eo27⟩ := Kd.R_slice HO1_1.out
  subst eo27
  go_enter Try.func85, Try.ntmps85
  try go_wp2_with (first | ((with_reducible refine gate_dst (N := 3) rfl ?_); refine be_ 3 #[.int .i64 a1_0, .slice Ao27 l1_1.length co27] 30 ?_; intro gb300 hg w28 BK300 hb; have GW300 := Aside0.mk ((by rw [hg]; exact (by first | exact HK.out.1 | exact (show Kept w _ (fun k_ => (P1_1_ k_) ∨ k_ = g) from by repeat (first | (with_reducible first | exact HK.out | apply Kept.alloc | apply Kept.drewN | apply Kept.drew | refine Kept.setCell ?_ (.inl (.inr rfl)) _) | exact HK.out)).1) : w.heap.size ≤ gb300)); have GE300 := Aside0.mk ((by rw [hg]; exact (below_size (bw115_)) : w0.heap.size ≤ gb300)); have NB0_300 := Aside0.mk ((by rw [hg]; exact Nat.ne_of_lt (IsS115.lt (show IsS115 w0 _ g s0_0 s0_1 s0_2 from is115_)) : g ≠ gb300)); have NB300_0 := Aside0.mk ((by rw [hg]; exact Nat.ne_of_gt (IsS115.lt (show IsS115 w0 _ g s0_0 s0_1 s0_2 from is115_)) : gb300 ≠ g)); replace HO1_1 := rb_ HO1_1 hb; replace HK := Aside0.mk (Kept.below (S := (fun k_ => (P1_1_ k_) ∨ k_ = g)) (kz_ HK) hb); replace HB := bs115_ hb; replace HI0 := Aside0.mk (IsS115.below is115_ hb); clear hb hg) | ((with_reducible refine gate_dst (N := 4) rfl ?_); refine be_ 4 #[.int .i64 0, .slice none 0 0] 30 ?_; intro gb301 hg w29 BK301 hb; have GW301 := Aside0.mk ((by rw [hg]; exact (by first | exact HK.out.1 | exact (show Kept w _ (fun k_ => (P1_1_ k_) ∨ k_ = g) from by repeat (first | (with_reducible first | exact HK.out | apply Kept.alloc | apply Kept.drewN | apply Kept.drew | refine Kept.setCell ?_ (.inl (.inr rfl)) _ | refine Kept.setCell ?_ (.inr GW300.out) _) | exact HK.out)).1) : w.heap.size ≤ gb301)); have GE301 := Aside0.mk ((by rw [hg]; exact (below_size (bw115_)) : w0.heap.size ≤ gb301)); have NB300_301 := nl_ BK300 hg; have NB301_300 := ng_ BK300 hg; have NB0_301 := Aside0.mk ((by rw [hg]; exact Nat.ne_of_lt (IsS115.lt (show IsS115 w0 _ g s0_0 s0_1 s0_2 from is115_)) : g ≠ gb301)); have NB301_0 := Aside0.mk ((by rw [hg]; exact Nat.ne_of_gt (IsS115.lt (show IsS115 w0 _ g s0_0 s0_1 s0_2 from is115_)) : gb301 ≠ g)); replace HO1_1 := rb_ HO1_1 hb; replace HK := Aside0.mk (Kept.below (S := (fun k_ => (P1_1_ k_) ∨ k_ = g)) (kz_ HK) hb); replace HB := bs115_ hb; replace BK300 := ab_ BK300 hb; replace HI0 := Aside0.mk (IsS115.below is115_ hb); clear hb hg) | ((with_reducible refine gate_callee (f := 68) rfl ?_); refine gl_ (some 7) Try.func68 #[.pointer (some ⟨g, 0, none⟩), .int .i64 4] ?_; (with_reducible refine (spec_l01Below.calls g s0_0 s0_1 s0_2 4 t302 t303 t304 w0 _ ?side1 ?side2 A3.out).mono ?_); (case side1 => exact is115_); (case side2 => exact bw115_); rintro e w30 ⟨rfl, hi, hb, hk⟩; refine ⟨_, rfl, ?_⟩; replace HO1_1 := ak115_ HO1_1 (show IsS115 w0 _ g s0_0 s0_1 s0_2 from is115_) hk; replace BK300 := kb_ BK300 NB300_0 hk; replace BK301 := kb_ BK301 NB301_0 hk; replace HK := Aside0.mk (Kept.of_keep (S := (fun k_ => (P1_1_ k_) ∨ k_ = g)) (kz_ HK) hk (.inl (.inr rfl))); replace HB := Aside0.mk (hb); replace HI0 := Aside0.mk (hi); clear hb hk hi; have hnb31 := NB300_301.out; have hnc31 := NB301_300.out; have hnb32 := NB300_0.out; have hnc32 := NB0_300.out; have hcz33_0 := cz_ BK300 0 (.int .i64 a1_0); have hcz33_1 := cz_ BK300 1 (.slice Ao27 l1_1.length co27); have hfz33_0 := fz_ BK300 0; have hfz33_1 := fz_ BK300 1))
  replace HO1_1 := rw5_ HO1_1
  replace BK300 := ad_ BK300
  replace BK301 := ad_ BK301
  replace HI0 := Aside0.mk (IsS115.drew HI0.out)
  replace HK := Aside0.mk (Kept.drew HK.out)
  replace HB := Aside0.mk (below_drew1 HB.out)
  refine start_ (n := 13) (S := fun w' => w'.cell? ⟨gb300, 0, none⟩ = some (.int .i64 a1_0) ∧ w'.cell? ⟨gb300, 1, none⟩ = some (.slice Ao27 l1_1.length co27)) (ds := [12]) ba10_0 (by kernel_rfl) rfl rfl ⟨bq5_ BK300 0, bq5_ BK300 1⟩ (fun hHeld => ?_); refine with_tabW spec_l03Bend.tab6 spec_l03Bend.bits6 (fun HT_ HW_ => ?_)
  generalize w30.drew = w34 at HO1_1 BK300 BK301 HI0 HK HB hHeld ⊢
  refine pz_ 0 23 ba10_1 HT_ ?_
  refine pz_ 2 25 ba10_2 HT_ ?_
  refine pz_ 3 26 ba10_3 HT_ ?_
  refine pz_ 7 30 ba10_4 HT_ ?_
  refine pt_ 1 24 ba10_5 HT_ HW_ hHeld ?_
  refine pt_ 4 27 ba10_6 HT_ HW_ hHeld ?_
  refine pz_ 5 28 ba10_7 HT_ ?_
  refine join_ (σ := Value) 4 ba10_8 (fun s_ => [(29, .int .i64 t311), (31, s_)]) (fun s_ w' => (w'.cell? ⟨gb300, 0, none⟩ = some (.int .i64 a1_0) ∧ w'.cell? ⟨gb300, 1, none⟩ = some (.slice Ao27 l1_1.length co27)) ∧ (Kd.R k76 76 w' w0.heap.size (fun k_ => (P1_1_ k_ ∨ w.heap.size ≤ k_)) (.slice Ao27 l1_1.length co27) l1_1) ∧ (Kd.R (Kd.int .i64) 3 w' w0.heap.size (fun k_ => (P1_1_ k_ ∨ w.heap.size ≤ k_)) s_ y314) ∧ (w'.heap[gb300]? = some (.cells #[.int .i64 a1_0, .slice Ao27 l1_1.length co27] 30 (0, 0))) ∧ (w'.heap[gb301]? = some (.cells #[.int .i64 0, .slice none 0 0] 30 (0, 0))) ∧ (IsS115 w0 w' g s0_0 t312 t313) ∧ (Kept w w' (fun k_ => (P1_1_ k_) ∨ k_ = g)) ∧ (Below w0.heap.size w0 w')) ?_ ?_
  rotate_left
  ·intro hCont
   refine two_ (i := 6) (j := 8) (Ni := some 29) (Nj := some 31) ba10_9 ba10_10 rfl rfl rfl rfl (two_of HT_.out (by kernel_rfl)) (by decide) (by decide) (fun K hK => ?_) (fun K hK => ?_)
   ·skip
    refine gz_ Try.func68 #[.pointer (some ⟨g, 0, none⟩), .int .i64 (l1_1.length : Int)] ?_
    with_reducible refine (spec_l01Below.calls g s0_0 t303 t304 (l1_1.length : Int) t311 t312 t313 w0 _ ?side1 ?side2 A22.out).mono ?_
    (case side1 => exact is115_)
    (case side2 => exact bw115_)
    rintro e w35 ⟨rfl, hi, hb, hk⟩
    refine ⟨_, rfl, ?_⟩
    replace HO1_1 := ak115_ HO1_1 (show IsS115 w0 _ g s0_0 t303 t304 from is115_) hk
    replace BK300 := kb_ BK300 NB300_0 hk
    replace BK301 := kb_ BK301 NB301_0 hk
    replace HK := Aside0.mk (Kept.of_keep (S := (fun k_ => (P1_1_ k_) ∨ k_ = g)) (kz_ HK) hk (.inl (.inr rfl)))
    replace HB := Aside0.mk (hb)
    replace HI0 := Aside0.mk (hi)
    clear hb hk hi
    refine hK.out _ _ ⟨bq5_ BK300 0, bq5_ BK300 1⟩ (fun hHeld => ?_)
    clear hK K
    refine nz_ 29 ?_
    refine on_ 8 (some 31) ba10_8 HT_ (fun K hK => ?_)
    refine Kd.R_lit_step (Kd.int .i64) _ 3 ?hg (N := 31) ?hd (xs := ([0, 1000, 1001] : List Int)) (inner := [.int .i64 0, .int .i64 1000, .int .i64 1001]) (ok := fun _ => True) (okp := fun _ => True) ?hr ?hp (fun _ hk => hk) trivial (Below.refl _ _) (Nat.le_refl _) (by simp) ?_; (case hd => rfl); (case hg => rfl); (case hr => first | (go_simp; done) | (go_simp; rfl)); (case hp => exact (Reps.one (show Kd.M (Kd.int .i64) _ _ _ 0 [.int .i64 0] from rfl) (Reps.one (show Kd.M (Kd.int .i64) _ _ _ 1000 [.int .i64 1000] from rfl) (Reps.one (show Kd.M (Kd.int .i64) _ _ _ 1001 [.int .i64 1001] from rfl) (Reps.none _ _)))))
    intro v315 w36 ho37 hb hg_ hnew_
    clear hg_ hnew_
    (first | rw [← Ny314.out] at ho37 | (simp only [Int.reduceToNat] at ho37; rw [← Ny314.out] at ho37))
    have HO316 := Aside0.mk (Kd.R_lower (Kd.R_newM (M := fun k_ => (P1_1_ k_ ∨ w.heap.size ≤ k_)) ho37 (by first | exact HK.out.1 | exact (show Kept w _ (fun k_ => (P1_1_ k_) ∨ k_ = g) from by repeat (first | (with_reducible first | exact HK.out | apply Kept.alloc | apply Kept.drewN | apply Kept.drew | refine Kept.setCell ?_ (.inl (.inr rfl)) _ | refine Kept.setCell ?_ (.inr GW300.out) _ | refine Kept.setCell ?_ (.inr GW301.out) _) | exact HK.out)).1) (fun k_ h_ => .inr h_)) (below_size (bw115_)))
    replace HO1_1 := rb_ HO1_1 hb
    replace BK300 := ab_ BK300 hb
    replace BK301 := ab_ BK301 hb
    replace HK := Aside0.mk (Kept.below (S := (fun k_ => (P1_1_ k_) ∨ k_ = g)) (kz_ HK) hb)
    replace HB := bs115_ hb
    replace HI0 := Aside0.mk (IsS115.below is115_ hb)
    clear hb ho37
    refine hK.out _ _ ⟨bq5_ BK300 0, bq5_ BK300 1⟩ (fun hHeld => ?_)
    clear hK K
    refine nz_ 31 ?_
    exact norm_ (by simp only [putAll, Act.put, List.setIfInBounds_toArray, List.set_cons_zero, List.set_cons_succ]) (hCont (v315) _ ⟨hHeld, (hd_ HO1_1), (hq_ (Kd.R_mono HO316.out (fun _ hk => hk.1))), (bx_ BK300), (bx_ BK301), (is115_), (kz_ HK), (bw115_)⟩)
   ·skip
    refine Kd.R_lit_step (Kd.int .i64) _ 3 ?hg (N := 31) ?hd (xs := ([0, 1000, 1001] : List Int)) (inner := [.int .i64 0, .int .i64 1000, .int .i64 1001]) (ok := fun _ => True) (okp := fun _ => True) ?hr ?hp (fun _ hk => hk) trivial (Below.refl _ _) (Nat.le_refl _) (by simp) ?_; (case hd => rfl); (case hg => rfl); (case hr => first | (go_simp; done) | (go_simp; rfl)); (case hp => exact (Reps.one (show Kd.M (Kd.int .i64) _ _ _ 0 [.int .i64 0] from rfl) (Reps.one (show Kd.M (Kd.int .i64) _ _ _ 1000 [.int .i64 1000] from rfl) (Reps.one (show Kd.M (Kd.int .i64) _ _ _ 1001 [.int .i64 1001] from rfl) (Reps.none _ _)))))
    intro v315 w35 ho36 hb hg_ hnew_
    clear hg_ hnew_
    (first | rw [← Ny314.out] at ho36 | (simp only [Int.reduceToNat] at ho36; rw [← Ny314.out] at ho36))
    have HO316 := Aside0.mk (Kd.R_lower (Kd.R_newM (M := fun k_ => (P1_1_ k_ ∨ w.heap.size ≤ k_)) ho36 (by first | exact HK.out.1 | exact (show Kept w _ (fun k_ => (P1_1_ k_) ∨ k_ = g) from by repeat (first | (with_reducible first | exact HK.out | apply Kept.alloc | apply Kept.drewN | apply Kept.drew | refine Kept.setCell ?_ (.inl (.inr rfl)) _ | refine Kept.setCell ?_ (.inr GW300.out) _ | refine Kept.setCell ?_ (.inr GW301.out) _) | exact HK.out)).1) (fun k_ h_ => .inr h_)) (below_size (bw115_)))
    replace HO1_1 := rb_ HO1_1 hb
    replace BK300 := ab_ BK300 hb
    replace BK301 := ab_ BK301 hb
    replace HK := Aside0.mk (Kept.below (S := (fun k_ => (P1_1_ k_) ∨ k_ = g)) (kz_ HK) hb)
    replace HB := bs115_ hb
    replace HI0 := Aside0.mk (IsS115.below is115_ hb)
    clear hb ho36
    refine hK.out _ _ ⟨bq5_ BK300 0, bq5_ BK300 1⟩ (fun hHeld => ?_)
    clear hK K
    refine nz_ 31 ?_
    refine on_ 6 (some 29) ba10_8 HT_ (fun K hK => ?_)
    refine gz_ Try.func68 #[.pointer (some ⟨g, 0, none⟩), .int .i64 (l1_1.length : Int)] ?_
    with_reducible refine (spec_l01Below.calls g s0_0 t303 t304 (l1_1.length : Int) t311 t312 t313 w0 _ ?side1 ?side2 A22.out).mono ?_
    (case side1 => exact is115_)
    (case side2 => exact bw115_)
    rintro e w37 ⟨rfl, hi, hb, hk⟩
    refine ⟨_, rfl, ?_⟩
    replace HO1_1 := ak115_ HO1_1 (show IsS115 w0 _ g s0_0 t303 t304 from is115_) hk
    replace BK300 := kb_ BK300 NB300_0 hk
    replace BK301 := kb_ BK301 NB301_0 hk
    replace HO316 := ak115_ HO316 (show IsS115 w0 _ g s0_0 t303 t304 from is115_) hk
    replace HK := Aside0.mk (Kept.of_keep (S := (fun k_ => (P1_1_ k_) ∨ k_ = g)) (kz_ HK) hk (.inl (.inr rfl)))
    replace HB := Aside0.mk (hb)
    replace HI0 := Aside0.mk (hi)
    clear hb hk hi
    refine hK.out _ _ ⟨bq5_ BK300 0, bq5_ BK300 1⟩ (fun hHeld => ?_)
    clear hK K
    refine nz_ 29 ?_
    exact norm_ (by simp only [putAll, Act.put, List.setIfInBounds_toArray, List.set_cons_zero, List.set_cons_succ]) (hCont (v315) _ ⟨hHeld, (hd_ HO1_1), (hq_ (Kd.R_mono HO316.out (fun _ hk => hk.1))), (bx_ BK300), (bx_ BK301), (is115_), (kz_ HK), (bw115_)⟩)
  rintro v315 w38 ⟨hS_, h0_, h1_, h2_, h3_, h4_, h5_, h6_⟩
  have HO316 : Aside0 (Kd.R (Kd.int .i64) 3 w38 w0.heap.size (fun k_ => (P1_1_ k_ ∨ w.heap.size ≤ k_)) v315 y314) := ⟨h1_⟩
  replace HO1_1 : Aside0 (Kd.R k76 76 w38 w0.heap.size (fun k_ => (P1_1_ k_ ∨ w.heap.size ≤ k_)) (.slice Ao27 l1_1.length co27) l1_1) := ⟨h0_⟩
  replace BK300 : Aside0 (w38.heap[gb300]? = some (.cells #[.int .i64 a1_0, .slice Ao27 l1_1.length co27] 30 (0, 0))) := ⟨h2_⟩
  replace BK301 : Aside0 (w38.heap[gb301]? = some (.cells #[.int .i64 0, .slice none 0 0] 30 (0, 0))) := ⟨h3_⟩
  replace HI0 : Aside0 (IsS115 w0 w38 g s0_0 t312 t313) := ⟨h4_⟩
  replace HK : Aside0 (Kept w w38 (fun k_ => (P1_1_ k_) ∨ k_ = g)) := ⟨h5_⟩
  replace HB : Aside0 (Below w0.heap.size w0 w38) := ⟨h6_⟩
  clear h0_ h1_ h2_ h3_ h4_ h5_ h6_
  have hHeld : w38.cell? ⟨gb300, 0, none⟩ = some (.int .i64 a1_0) ∧ w38.cell? ⟨gb300, 1, none⟩ = some (.slice Ao27 l1_1.length co27) := hS_
  obtain ⟨Ao39, co39, eo39⟩ := Kd.R_slice HO316.out
  subst eo39
  refine norm_ (a' := ?_) ?_ ?_
  rotate_left; · simp only [putAll, Act.put, List.setIfInBounds_toArray, List.set_cons_zero, List.set_cons_succ]; rfl
  refine on_ 9 (some 32) ba10_11 HT_ (fun K hK => ?_)
  refine gz_ Try.func67 #[.pointer (some ⟨g, 0, none⟩), .slice Ao39 y314.length co39] ?_
  with_reducible refine (spec_l01PickInt.calls g s0_0 t312 t313 _ _ y314 t317 t318 t319 w0 _ ?side1 ?side2 ?side3 ?side4 ?side5 A23.out).mono ?_
  (case side1 => exact is115_)
  (case side2 => exact bw115_)
  (case side3 => exact rc_ HO316)
  (case side4 => exact (Kd.R_reads' HO316.out).2.1)
  (case side5 => exact far_slice (IsS115.own_ne HI0.out HO316.out (by decide)))
  rintro e w40 ⟨rfl, hi, hb, hk⟩
  refine ⟨_, rfl, ?_⟩
  replace HO1_1 := ak115_ HO1_1 (show IsS115 w0 _ g s0_0 t312 t313 from is115_) hk
  replace BK300 := kb_ BK300 NB300_0 hk
  replace BK301 := kb_ BK301 NB301_0 hk
  replace HO316 := ak115_ HO316 (show IsS115 w0 _ g s0_0 t312 t313 from is115_) hk
  replace HK := Aside0.mk (Kept.of_keep (S := (fun k_ => (P1_1_ k_) ∨ k_ = g)) (kz_ HK) hk (.inl (.inr rfl)))
  replace HB := Aside0.mk (hb)
  replace HI0 := Aside0.mk (hi)
  clear hb hk hi
  have p26 : 0 ≤ (t311 : Int) := oa_
  have q26 : (t311 : Int) < ((l1_1.length : Int) : Int) := oa_
  obtain ⟨go26, co26, eo26, gb26, gl26, cl26, HG26⟩ := Kd.R_form HO1_1.out (by omega)
  (first | cases eo26 | (injection eo26 with ea_ en_ ec_; (first | subst ea_ | (injection ea_ with ea_; subst ea_)); subst ec_; clear en_))
  have GB26 := Aside0.mk gb26
  have GG26 := Aside0.mk HG26
  clear gb26 gl26 HG26
  have HMgo26 := Aside0.mk (show (P1_1_ go26 ∨ w.heap.size ≤ go26) from (HO1_1.out.1 _ rfl))
  obtain ⟨ce26, hcl26, hM26, hcc26, hfr26⟩ := Kd.R_elem HO1_1.out z76 (t311 : Int) p26 q26
  obtain rfl := k76_openM hM26
  have hx26_0 : World.cell? _ ⟨go26, (t311 : Int).toNat * 3, none⟩ = some (.int .i64 ((rd_T76 l1_1 t311).f0)) := hcc26 0 _ rfl
  have hx26_1 : World.cell? _ ⟨go26, (t311 : Int).toNat * 3 + 1, none⟩ = some (.int .i64 ((rd_T76 l1_1 t311).f1)) := hcc26 1 _ rfl
  have hx26_2 : World.cell? _ ⟨go26, (t311 : Int).toNat * 3 + 2, none⟩ = some (.int .i64 ((rd_T76 l1_1 t311).f2)) := hcc26 2 _ rfl
  have hf26_0 : World.frozen? _ ⟨go26, (t311 : Int).toNat * 3, none⟩ = false := hfr26 0
  have hf26_1 : World.frozen? _ ⟨go26, (t311 : Int).toNat * 3 + 1, none⟩ = false := hfr26 1
  have hf26_2 : World.frozen? _ ⟨go26, (t311 : Int).toNat * 3 + 2, none⟩ = false := hfr26 2
  clear hcl26 hcc26 hfr26 hM26
  obtain ⟨p26, q26⟩ := et_ p26 q26
  have HN0_go26 := Aside0.mk (show g ≠ go26 from by have h_ := IsS115.own_ne HI0.out HO1_1.out (by decide); intro e_; exact h_ (by rw [e_]; rfl))
  obtain ⟨ce41, hcl41, hM41, hcc41, hfr41⟩ := Kd.R_elem HO1_1.out z76 (t311 : Int) oa_ (by have h_ : (t311 : Int) < ((l1_1.length : Int) : Int) := oa_; first | exact h_ | (have e_ := (Kd.R_reads' HO1_1.out).1; omega) | simpa using h_)
  obtain rfl := k76_openM hM41
  have HP41 := (Kd.R_seg HO1_1.out (t311 : Int) oa_ (by have h_ : (t311 : Int) < ((l1_1.length : Int) : Int) := oa_; first | exact h_ | (have e_ := (Kd.R_reads' HO1_1.out).1; omega) | simpa using h_) (seg := [.int .i64 t317]) (j := 2) hcl41 hcc41 (show 3 ≤ 3 from by decide) (x' := (⟨(rd_T76 l1_1 t311).f0, (rd_T76 l1_1 t311).f1, t317⟩ : S76)) (k76_mkM _ _ _ (⟨(rd_T76 l1_1 t311).f0, (rd_T76 l1_1 t311).f1, t317⟩ : S76) ) (fun _ hk => hk)).1
  rw [← Ny320.out] at HP41
  have HQ41 := Aside0.mk HP41
  clear hcl41 hcc41 hfr41 hM41 HP41
  refine hK.out _ _ ⟨bq5_ BK300 0, bq5_ BK300 1⟩ (fun hHeld => ?_)
  clear hK K
  refine nz_ 32 ?_
  refine pz_ 10 33 ba10_12 HT_ ?_
  refine pz_ 11 34 ba10_13 HT_ ?_
  refine last_ (i := 12) (N := none) ba10_14 rfl rfl (one_of HT_.out (by kernel_rfl)) (by decide) (fun K hK => ?_)
  refine skip_ (w1 := ?_) (by rfl) rfl ?_ ?_
  rotate_left; · go_simp; rfl
  refine hK.out _ _ ?_
  clear hK K
  refine done_ (done_of HT_.out (by kernel_rfl)) ?_
  generalize hW_ : (w40.setCell ⟨go26, (t311 : Int).toNat * 3 + 2, none⟩ (.int .i64 t317)) = w42
  have n0_ : Aside0 (Kd.R k76 76 w42 w0.heap.size (fun k_ => (P1_1_ k_ ∨ w.heap.size ≤ k_)) (.slice (some ⟨go26, 0, none⟩) l1_1.length co27) y320) := by subst hW_; exact ⟨hq_ (HQ41.out)⟩
  have n1_ : Aside0 (Kd.R (Kd.int .i64) 3 w42 w0.heap.size (fun k_ => (P1_1_ k_ ∨ w.heap.size ≤ k_)) (.slice Ao39 y314.length co39) y314) := by subst hW_; exact ⟨hq_ (Kd.R_mono (Kd.R_far (p := ⟨go26, (t311 : Int).toNat * 3 + 2, none⟩) (Kd.R_types HO316.out GG26.out (by decide)) (fun _ hk => hk.2) (.int .i64 t317)) (fun _ hk => hk.1))⟩
  have n2_ : Aside0 (w42.heap[gb300]? = some (.cells #[.int .i64 a1_0, .slice (some ⟨go26, 0, none⟩) l1_1.length co27] 30 (0, 0))) := by subst hW_; exact ⟨by refine bd_ ?_; refine blk_far ?_ (by have h_ := Kd.R_ne HO1_1.out BK300.out (by decide); intro e_; exact h_ (by rw [e_]; rfl)) _; refine bd_ ?_; exact BK300.out⟩
  have n3_ : Aside0 (w42.heap[gb301]? = some (.cells #[.int .i64 0, .slice none 0 0] 30 (0, 0))) := by subst hW_; exact ⟨by refine bd_ ?_; refine blk_far ?_ (by have h_ := Kd.R_ne HO1_1.out BK301.out (by decide); intro e_; exact h_ (by rw [e_]; rfl)) _; refine bd_ ?_; exact BK301.out⟩
  have n4_ : Aside0 (IsS115 w0 w42 g s0_0 t318 t319) := by subst hW_; exact ⟨by repeat (first | (with_reducible first | exact HI0.out | apply IsS115.alloc | apply IsS115.drewN | apply IsS115.drew | apply IsS115.set_1 | apply IsS115.set_2 | refine IsS115.far ?_ HN0_go26.out _ | refine IsS115.far ?_ NB0_300.out _ | refine IsS115.far ?_ NB0_301.out _) | exact HI0.out)⟩
  have n5_ : Aside0 (Kept w w42 (fun k_ => (P1_1_ k_) ∨ k_ = g)) := by subst hW_; exact ⟨by repeat (first | (with_reducible first | exact HK.out | apply Kept.alloc | apply Kept.drewN | apply Kept.drew | refine Kept.setCell ?_ (Or.imp_left Or.inl HMgo26.out) _ | refine Kept.setCell ?_ (.inl (.inr rfl)) _ | refine Kept.setCell ?_ (.inr GW300.out) _ | refine Kept.setCell ?_ (.inr GW301.out) _) | exact HK.out)⟩
  have n6_ : Aside0 (Below w0.heap.size w0 w42) := by subst hW_; exact ⟨by repeat (first | (with_reducible first | exact HB.out | apply below_alloc | apply pw_below_drewN | apply below_drew1 | refine below_set ?_ GB26.out | refine below_set ?_ (IsS115.ge HI0.out) | refine below_set ?_ GE300.out | refine below_set ?_ GE301.out) | exact HB.out)⟩
  clear hW_ HO1_1 HO316 BK300 BK301 HI0 HK HB
  have HO1_1 := n0_
  have HO316 := n1_
  have BK300 := n2_
  have BK301 := n3_
  have HI0 := n4_
  have HK := n5_
  have HB := n6_
  clear n0_ n1_ n2_ n3_ n4_ n5_ n6_
  have hcz43_0 := cz_ BK300 0 (.int .i64 a1_0)
  have hcz43_1 := cz_ BK300 1 (.slice (some ⟨go26, 0, none⟩) l1_1.length co27)
  have hfz43_0 := fz_ BK300 0
  have hfz43_1 := fz_ BK300 1
  have hnb44 := NB301_0.out
  have hnc44 := NB0_301.out
  have hcz45_0 := cz_ BK301 0 (.int .i64 0)
  have hcz45_1 := cz_ BK301 1 (.slice none 0 0)
  have hfz45_0 := fz_ BK301 0
  have hfz45_1 := fz_ BK301 1
  go_wp2
  refine bodyPost_ret (results_cell_row rfl _ _ gb301 30 #[.int .i64 a1_0, .slice (some ⟨go26, 0, none⟩) l1_1.length co27] (0, 0) _ rfl (by refine bd_ ?_; refine blk_put (cs := #[.int .i64 a1_0, .slice none 0 0]) ?_ 1 _ rfl; refine bd_ ?_; refine blk_put (cs := #[.int .i64 0, .slice none 0 0]) ?_ 0 _ rfl; refine bd_ ?_; exact BK301.out) Try.underlying30 rfl (by kernel_rfl)) rfl ?_
  exact ⟨_, ew_, by (with_reducible repeat (first | apply Kd.R_alloc | apply Kd.R_drewN | apply Kd.R_drew)); exact Kd.R_mono (Kd.R_far (Kd.R_far (Kd.R_types HO1_1.out BK301.out (by decide)) (fun _ hk => hk.2) _) (fun _ hk => hk.2) _) (fun _ hk => hk.1), is115_, bw115_, kz_ HK⟩
 rw [if_neg c20] at H
 have c20b0 : (t302 == 1) = false := beq_eq_false_iff_ne.mpr c20
 have c20b1 : (t302 != 1) = true := bne_iff_ne.mpr c20
 by_cases c55 : t302 = 2
 ·rw [if_pos c55] at H
  have c55b0 : (t302 == 2) = true := beq_iff_eq.mpr c55
  have c55b1 : (t302 != 2) = false := bne_eq_false_iff_eq.mpr c55
  clear c55
  by_cases c56 : (l1_1.length : Int) > 0
  rotate_left
  ·rw [if_neg c56] at H
   have c56b0 : decide (0 < (l1_1.length : Int)) = false := decide_eq_false c56
   have c56b1 : decide (0 < l1_1.length) = false := decide_eq_false (by omega)
   clear c56
   simp only [Option.some.injEq, Prod.mk.injEq] at H
   obtain ⟨rfl, rfl, rfl, rfl⟩ := H
   obtain ⟨Ao73, co73, eo73⟩ := Kd.R_slice HO1_1.out
   subst eo73
   go_enter Try.func85, Try.ntmps85
   go_wp2_with (first | ((with_reducible refine gate_dst (N := 3) rfl ?_); refine be_ 3 #[.int .i64 a1_0, .slice Ao73 l1_1.length co73] 30 ?_; intro gb300 hg w74 BK300 hb; have GW300 := Aside0.mk ((by rw [hg]; exact (by first | exact HK.out.1 | exact (show Kept w _ (fun k_ => (P1_1_ k_) ∨ k_ = g) from by repeat (first | (with_reducible first | exact HK.out | apply Kept.alloc | apply Kept.drewN | apply Kept.drew | refine Kept.setCell ?_ (.inl (.inr rfl)) _) | exact HK.out)).1) : w.heap.size ≤ gb300)); have GE300 := Aside0.mk ((by rw [hg]; exact (below_size (bw115_)) : w0.heap.size ≤ gb300)); have NB0_300 := Aside0.mk ((by rw [hg]; exact Nat.ne_of_lt (IsS115.lt (show IsS115 w0 _ g s0_0 s0_1 s0_2 from is115_)) : g ≠ gb300)); have NB300_0 := Aside0.mk ((by rw [hg]; exact Nat.ne_of_gt (IsS115.lt (show IsS115 w0 _ g s0_0 s0_1 s0_2 from is115_)) : gb300 ≠ g)); replace HO1_1 := rb_ HO1_1 hb; replace HK := Aside0.mk (Kept.below (S := (fun k_ => (P1_1_ k_) ∨ k_ = g)) (kz_ HK) hb); replace HB := bs115_ hb; replace HI0 := Aside0.mk (IsS115.below is115_ hb); clear hb hg) | ((with_reducible refine gate_dst (N := 4) rfl ?_); refine be_ 4 #[.int .i64 0, .slice none 0 0] 30 ?_; intro gb301 hg w75 BK301 hb; have GW301 := Aside0.mk ((by rw [hg]; exact (by first | exact HK.out.1 | exact (show Kept w _ (fun k_ => (P1_1_ k_) ∨ k_ = g) from by repeat (first | (with_reducible first | exact HK.out | apply Kept.alloc | apply Kept.drewN | apply Kept.drew | refine Kept.setCell ?_ (.inl (.inr rfl)) _ | refine Kept.setCell ?_ (.inr GW300.out) _) | exact HK.out)).1) : w.heap.size ≤ gb301)); have GE301 := Aside0.mk ((by rw [hg]; exact (below_size (bw115_)) : w0.heap.size ≤ gb301)); have NB300_301 := nl_ BK300 hg; have NB301_300 := ng_ BK300 hg; have NB0_301 := Aside0.mk ((by rw [hg]; exact Nat.ne_of_lt (IsS115.lt (show IsS115 w0 _ g s0_0 s0_1 s0_2 from is115_)) : g ≠ gb301)); have NB301_0 := Aside0.mk ((by rw [hg]; exact Nat.ne_of_gt (IsS115.lt (show IsS115 w0 _ g s0_0 s0_1 s0_2 from is115_)) : gb301 ≠ g)); replace HO1_1 := rb_ HO1_1 hb; replace HK := Aside0.mk (Kept.below (S := (fun k_ => (P1_1_ k_) ∨ k_ = g)) (kz_ HK) hb); replace HB := bs115_ hb; replace BK300 := ab_ BK300 hb; replace HI0 := Aside0.mk (IsS115.below is115_ hb); clear hb hg) | ((with_reducible refine gate_callee (f := 68) rfl ?_); refine gl_ (some 7) Try.func68 #[.pointer (some ⟨g, 0, none⟩), .int .i64 4] ?_; (with_reducible refine (spec_l01Below.calls g s0_0 s0_1 s0_2 4 t302 t303 t304 w0 _ ?side1 ?side2 A3.out).mono ?_); (case side1 => exact is115_); (case side2 => exact bw115_); rintro e w76 ⟨rfl, hi, hb, hk⟩; refine ⟨_, rfl, ?_⟩; replace HO1_1 := ak115_ HO1_1 (show IsS115 w0 _ g s0_0 s0_1 s0_2 from is115_) hk; replace BK300 := kb_ BK300 NB300_0 hk; replace BK301 := kb_ BK301 NB301_0 hk; replace HK := Aside0.mk (Kept.of_keep (S := (fun k_ => (P1_1_ k_) ∨ k_ = g)) (kz_ HK) hk (.inl (.inr rfl))); replace HB := Aside0.mk (hb); replace HI0 := Aside0.mk (hi); clear hb hk hi; have hnb77 := NB300_301.out; have hnc77 := NB301_300.out; have hnb78 := NB300_0.out; have hnc78 := NB0_300.out; have hcz79_0 := cz_ BK300 0 (.int .i64 a1_0); have hcz79_1 := cz_ BK300 1 (.slice Ao73 l1_1.length co73); have hfz79_0 := fz_ BK300 0; have hfz79_1 := fz_ BK300 1; have hnb80 := NB301_0.out; have hnc80 := NB0_301.out; have hcz81_0 := cz_ BK301 0 (.int .i64 0); have hcz81_1 := cz_ BK301 1 (.slice none 0 0); have hfz81_0 := fz_ BK301 0; have hfz81_1 := fz_ BK301 1))
   refine bodyPost_ret (results_cell_row rfl _ _ gb301 30 #[.int .i64 a1_0, .slice Ao73 l1_1.length co73] (0, 0) _ rfl (by refine bd_ ?_; refine blk_put (cs := #[.int .i64 a1_0, .slice none 0 0]) ?_ 1 _ rfl; refine bd_ ?_; refine blk_put (cs := #[.int .i64 0, .slice none 0 0]) ?_ 0 _ rfl; refine bd_ ?_; exact BK301.out) Try.underlying30 rfl (by kernel_rfl)) rfl ?_
   exact ⟨_, ew_, by (with_reducible repeat (first | apply Kd.R_alloc | apply Kd.R_drewN | apply Kd.R_drew)); exact Kd.R_mono (Kd.R_far (Kd.R_far (Kd.R_types HO1_1.out BK301.out (by decide)) (fun _ hk => hk.2) _) (fun _ hk => hk.2) _) (fun _ hk => hk.1), is115_, bw115_, kz_ HK⟩
  rw [if_pos c56] at H
  have c56b0 : decide (0 < (l1_1.length : Int)) = true := decide_eq_true c56
  have c56b1 : decide (0 < l1_1.length) = true := decide_eq_true (by omega)
  clear c56
  by_cases c57 : 0 < (l1_1.length : Int)
  rotate_left
  ·rw [if_neg c57] at H
   exact absurd H (by simp)
  rw [if_pos c57] at H
  have c57b0 : decide (0 < (l1_1.length : Int)) = true := decide_eq_true c57
  have c57b1 : decide (0 < l1_1.length) = true := decide_eq_true (by omega)
  clear c57
  by_cases c58 : l1_1.length < 5864062014805
  rotate_left
  ·rw [if_neg c58] at H
   exact absurd H (by simp)
  rw [if_pos c58] at H
  have LMc58 := Aside0.mk c58
  clear c58
  obtain ⟨y322, hy322⟩ : ∃ y_ : List (S76), y_ = (l1_1 ++ [(⟨(rd_T76 l1_1 0).f0, (rd_T76 l1_1 0).f1, (rd_T76 l1_1 0).f2⟩ : S76)]) := ⟨_, rfl⟩
  replace H : (some (a1_0, y322, t303, t304)) = some (r1, r2, r3, r4) := by first | (rw [hy322]; with_reducible exact H) | (have H2_ := (Option.bind_some _ _).symm.trans H; rw [hy322]; with_reducible exact H2_) | (have H2_ := (Option.bind_some _ _).symm.trans H; with_reducible exact H2_) | with_reducible exact H | (rw [hy322]; exact H) | exact H
  have Ny322 := Aside0.mk hy322
  clear hy322
  simp only [Option.some.injEq, Prod.mk.injEq] at H
  obtain ⟨rfl, rfl, rfl, rfl⟩ := H
  obtain ⟨Ao59, co59, eo59⟩ := Kd.R_slice HO1_1.out
  subst eo59
  go_enter Try.func85, Try.ntmps85
  try go_wp2_with (first | ((with_reducible refine gate_dst (N := 3) rfl ?_); refine be_ 3 #[.int .i64 a1_0, .slice Ao59 l1_1.length co59] 30 ?_; intro gb300 hg w60 BK300 hb; have GW300 := Aside0.mk ((by rw [hg]; exact (by first | exact HK.out.1 | exact (show Kept w _ (fun k_ => (P1_1_ k_) ∨ k_ = g) from by repeat (first | (with_reducible first | exact HK.out | apply Kept.alloc | apply Kept.drewN | apply Kept.drew | refine Kept.setCell ?_ (.inl (.inr rfl)) _) | exact HK.out)).1) : w.heap.size ≤ gb300)); have GE300 := Aside0.mk ((by rw [hg]; exact (below_size (bw115_)) : w0.heap.size ≤ gb300)); have NB0_300 := Aside0.mk ((by rw [hg]; exact Nat.ne_of_lt (IsS115.lt (show IsS115 w0 _ g s0_0 s0_1 s0_2 from is115_)) : g ≠ gb300)); have NB300_0 := Aside0.mk ((by rw [hg]; exact Nat.ne_of_gt (IsS115.lt (show IsS115 w0 _ g s0_0 s0_1 s0_2 from is115_)) : gb300 ≠ g)); replace HO1_1 := rb_ HO1_1 hb; replace HK := Aside0.mk (Kept.below (S := (fun k_ => (P1_1_ k_) ∨ k_ = g)) (kz_ HK) hb); replace HB := bs115_ hb; replace HI0 := Aside0.mk (IsS115.below is115_ hb); clear hb hg) | ((with_reducible refine gate_dst (N := 4) rfl ?_); refine be_ 4 #[.int .i64 0, .slice none 0 0] 30 ?_; intro gb301 hg w61 BK301 hb; have GW301 := Aside0.mk ((by rw [hg]; exact (by first | exact HK.out.1 | exact (show Kept w _ (fun k_ => (P1_1_ k_) ∨ k_ = g) from by repeat (first | (with_reducible first | exact HK.out | apply Kept.alloc | apply Kept.drewN | apply Kept.drew | refine Kept.setCell ?_ (.inl (.inr rfl)) _ | refine Kept.setCell ?_ (.inr GW300.out) _) | exact HK.out)).1) : w.heap.size ≤ gb301)); have GE301 := Aside0.mk ((by rw [hg]; exact (below_size (bw115_)) : w0.heap.size ≤ gb301)); have NB300_301 := nl_ BK300 hg; have NB301_300 := ng_ BK300 hg; have NB0_301 := Aside0.mk ((by rw [hg]; exact Nat.ne_of_lt (IsS115.lt (show IsS115 w0 _ g s0_0 s0_1 s0_2 from is115_)) : g ≠ gb301)); have NB301_0 := Aside0.mk ((by rw [hg]; exact Nat.ne_of_gt (IsS115.lt (show IsS115 w0 _ g s0_0 s0_1 s0_2 from is115_)) : gb301 ≠ g)); replace HO1_1 := rb_ HO1_1 hb; replace HK := Aside0.mk (Kept.below (S := (fun k_ => (P1_1_ k_) ∨ k_ = g)) (kz_ HK) hb); replace HB := bs115_ hb; replace BK300 := ab_ BK300 hb; replace HI0 := Aside0.mk (IsS115.below is115_ hb); clear hb hg) | ((with_reducible refine gate_callee (f := 68) rfl ?_); refine gl_ (some 7) Try.func68 #[.pointer (some ⟨g, 0, none⟩), .int .i64 4] ?_; (with_reducible refine (spec_l01Below.calls g s0_0 s0_1 s0_2 4 t302 t303 t304 w0 _ ?side1 ?side2 A3.out).mono ?_); (case side1 => exact is115_); (case side2 => exact bw115_); rintro e w62 ⟨rfl, hi, hb, hk⟩; refine ⟨_, rfl, ?_⟩; replace HO1_1 := ak115_ HO1_1 (show IsS115 w0 _ g s0_0 s0_1 s0_2 from is115_) hk; replace BK300 := kb_ BK300 NB300_0 hk; replace BK301 := kb_ BK301 NB301_0 hk; replace HK := Aside0.mk (Kept.of_keep (S := (fun k_ => (P1_1_ k_) ∨ k_ = g)) (kz_ HK) hk (.inl (.inr rfl))); replace HB := Aside0.mk (hb); replace HI0 := Aside0.mk (hi); clear hb hk hi; have hnb63 := NB300_301.out; have hnc63 := NB301_300.out; have hnb64 := NB300_0.out; have hnc64 := NB0_300.out; have hcz65_0 := cz_ BK300 0 (.int .i64 a1_0); have hcz65_1 := cz_ BK300 1 (.slice Ao59 l1_1.length co59); have hfz65_0 := fz_ BK300 0; have hfz65_1 := fz_ BK300 1))
  replace HO1_1 := rw5_ HO1_1
  replace BK300 := ad_ BK300
  replace BK301 := ad_ BK301
  replace HI0 := Aside0.mk (IsS115.drew HI0.out)
  replace HK := Aside0.mk (Kept.drew HK.out)
  replace HB := Aside0.mk (below_drew1 HB.out)
  have p321 : 0 ≤ (0 : Int) := (by omega)
  have q321 : 0 < (l1_1.length : Int) := oa_
  obtain ⟨ad321, e321, hx321_0, hx321_1, hx321_2⟩ := at_T76 (Kd.R_reads' HO1_1.out).2.2 0 p321 q321
  cases e321
  have qi321 : (0 < l1_1.length) = True := eq_true (by omega)
  (try rw [show ((0 : Int)).toNat = 0 from rfl] at hx321_0)
  (try rw [show 0 * 3 = 0 from rfl] at hx321_0)
  (try rw [Addr.add_zero'] at hx321_0)
  (try rw [show ((0 : Int)).toNat = 0 from rfl] at hx321_1)
  (try rw [show 0 * 3 = 0 from rfl] at hx321_1)
  (try rw [Addr.add_zero'] at hx321_1)
  (try rw [show ((0 : Int)).toNat = 0 from rfl] at hx321_2)
  (try rw [show 0 * 3 = 0 from rfl] at hx321_2)
  (try rw [Addr.add_zero'] at hx321_2)
  obtain ⟨p321, q321⟩ := et_ p321 q321
  refine start_ (n := 10) (S := fun w' => w'.cell? ⟨gb300, 0, none⟩ = some (.int .i64 a1_0) ∧ w'.cell? ⟨gb300, 1, none⟩ = some (.slice (some ad321) l1_1.length co59) ∧ w'.cell? ad321 = some (.int .i64 ((rd_T76 l1_1 0).f0)) ∧ w'.cell? ⟨ad321.block, ad321.off + 1, none⟩ = some (.int .i64 ((rd_T76 l1_1 0).f1)) ∧ w'.cell? ⟨ad321.block, ad321.off + 2, none⟩ = some (.int .i64 ((rd_T76 l1_1 0).f2))) (ds := [7, 9]) ba10_15 (by kernel_rfl) rfl rfl ⟨bq5_ BK300 0, bq5_ BK300 1, hx321_0, hx321_1, hx321_2⟩ (fun hHeld => ?_); refine with_tabW spec_l03Bend.tab9 spec_l03Bend.bits9 (fun HT_ HW_ => ?_)
  generalize w62.drew = w66 at HO1_1 BK300 BK301 HI0 HK HB hx321_0 hx321_1 hx321_2 hHeld ⊢
  refine pz_ 0 41 ba10_16 HT_ ?_
  refine pz_ 2 43 ba10_17 HT_ ?_
  refine pt_ 1 42 ba10_18 HT_ HW_ hHeld ?_
  refine pt_ 3 44 ba10_19 HT_ HW_ hHeld ?_
  refine pz_ 4 45 ba10_20 HT_ ?_
  refine pt_ 5 46 ba10_21 HT_ HW_ hHeld ?_
  refine on_ 6 (some 47) ba10_22 HT_ (fun K hK => ?_)
  refine value_ (w1 := ?_) (v := ?_) (by rfl) rfl ?_ ?_
  rotate_left 2
  ·go_simp
   constructor
   ·rfl
   ·rfl
  refine hK.out _ _ ⟨(blk_cell (blk_alloc BK300.out _) 0).trans rfl, (blk_cell (blk_alloc BK300.out _) 1).trans rfl, (World.cell?_alloc_lt _ _ _ (World.block_lt_of_cell? _ _ (hHeld.2.2.1))).trans (hHeld.2.2.1), (World.cell?_alloc_lt _ _ _ (World.block_lt_of_cell? _ _ (hHeld.2.2.2.1))).trans (hHeld.2.2.2.1), (World.cell?_alloc_lt _ _ _ (World.block_lt_of_cell? _ _ (hHeld.2.2.2.2))).trans (hHeld.2.2.2.2)⟩ (fun hHeld => ?_)
  clear hK K
  refine nz_ 47 ?_
  refine last_ (i := 7) (N := some 48) ba10_23 rfl rfl (one_of HT_.out (by kernel_rfl)) (by decide) (fun K hK => ?_)
  refine Kd.R_append_step k76 (w0 := w0) w0.heap.size (by rfl) (.tmp 42) (.tmp 47) 28 76 (.agg #[(.int .i64 0), (.int .i64 0), (.int .i64 0)]) 24 rfl Try.underlying28 info76 rfl (by decide) (by omega) (.slice (some ad321) l1_1.length co59) l1_1 (⟨(rd_T76 l1_1 0).f0, (rd_T76 l1_1 0).f1, (rd_T76 l1_1 0).f2⟩ : S76) [.int .i64 ((rd_T76 l1_1 0).f0), .int .i64 ((rd_T76 l1_1 0).f1), .int .i64 ((rd_T76 l1_1 0).f2)] (fun k_ => (P1_1_ k_ ∨ w.heap.size ≤ k_)) (fun _ => False) rfl rfl ?aP (fun _ hk => hk.elim) ?aF ?aO ?aB ?aS ?aL ?_
  (case aP => exact k76_mkM _ _ _ (⟨(rd_T76 l1_1 0).f0, (rd_T76 l1_1 0).f1, (rd_T76 l1_1 0).f2⟩ : S76))
  (case aB => exact (bw115_))
  (case aF => exact (fun k_ hk => (.inr (Nat.le_trans (by first | exact HK.out.1 | exact (show Kept w _ (fun k_ => (P1_1_ k_) ∨ k_ = g) from by repeat (first | (with_reducible first | exact HK.out | apply Kept.alloc | apply Kept.drewN | apply Kept.drew | refine Kept.setCell ?_ (.inl (.inr rfl)) _ | refine Kept.setCell ?_ (.inr GW300.out) _ | refine Kept.setCell ?_ (.inr GW301.out) _) | exact HK.out)).1) hk))))
  (case aO => exact (hd_ HO1_1))
  (case aS => exact (below_size (bw115_)))
  (case aL => have := LMc58.out; omega)
  intro v323 w67 ho hb hg hat
  rw [← Ny322.out] at ho
  have HO324 := Aside0.mk ho
  replace HI0 := Aside0.mk (IsS115.grown (is115_) hg (IsS115.own_ne HI0.out HO1_1.out (by decide)))
  replace BK300 := Aside0.mk (blk_grown (g := gb300) (o := .cells #[.int .i64 a1_0, .slice (some ad321) l1_1.length co59] 30 (0, 0)) (bx_ BK300) hg (Kd.R_ne HO1_1.out BK300.out (by decide)))
  replace BK301 := Aside0.mk (blk_grown (g := gb301) (o := .cells #[.int .i64 0, .slice none 0 0] 30 (0, 0)) (bx_ BK301) hg (Kd.R_ne HO1_1.out BK301.out (by decide)))
  replace HB := Aside0.mk (hb)
  replace HK := Aside0.mk (Kept.of_grown (S := (fun k_ => (P1_1_ k_) ∨ k_ = g)) hg (kz_ HK) (fun k_ e_ => Or.imp_left Or.inl ((HO1_1.out.1 k_ e_))))
  clear HO1_1 ho hb hg hat
  obtain ⟨Ao68, co68, eo68⟩ := Kd.R_slice HO324.out
  subst eo68
  refine hK.out _ _ ?_
  clear hK K
  refine nz_ 48 ?_
  refine pz_ 8 49 ba10_24 HT_ ?_
  refine last_ (i := 9) (N := none) ba10_25 rfl rfl (one_of HT_.out (by kernel_rfl)) (by decide) (fun K hK => ?_)
  have hs69 : w67.cell? ⟨gb300, 1, none⟩ = some (.slice (some ad321) l1_1.length co59) := bq5_ BK300 1
  have hfs69 := fz_ BK300 1
  have hns69_1 := NB301_300.out
  have hms69_1 := NB300_301.out
  refine skip_ (w1 := ?_) (by rfl) rfl ?_ ?_
  rotate_left; · go_simp; rfl
  refine hK.out _ _ ?_
  clear hK K
  refine done_ (done_of HT_.out (by kernel_rfl)) ?_
  have hcz70_0 := cz_ BK300 0 (.int .i64 a1_0)
  have hcz70_1 := cz_ BK300 1 (.slice (some ad321) l1_1.length co59)
  have hfz70_0 := fz_ BK300 0
  have hfz70_1 := fz_ BK300 1
  have hnb71 := NB301_0.out
  have hnc71 := NB0_301.out
  have hcz72_0 := cz_ BK301 0 (.int .i64 0)
  have hcz72_1 := cz_ BK301 1 (.slice none 0 0)
  have hfz72_0 := fz_ BK301 0
  have hfz72_1 := fz_ BK301 1
  go_wp2
  refine bodyPost_ret (results_cell_row rfl _ _ gb301 30 #[.int .i64 a1_0, .slice Ao68 y322.length co68] (0, 0) _ rfl (by refine bd_ ?_; refine blk_put (cs := #[.int .i64 a1_0, .slice none 0 0]) ?_ 1 _ rfl; refine bd_ ?_; refine blk_put (cs := #[.int .i64 0, .slice none 0 0]) ?_ 0 _ rfl; refine bd_ ?_; refine blk_far ?_ NB301_300.out _; refine bd_ ?_; exact BK301.out) Try.underlying30 rfl (by kernel_rfl)) rfl ?_
  exact ⟨_, ew_, by (with_reducible repeat (first | apply Kd.R_alloc | apply Kd.R_drewN | apply Kd.R_drew)); exact Kd.R_mono (Kd.R_far (Kd.R_far (Kd.R_far (Kd.R_types (Kd.R_types HO324.out BK300.out (by decide)) BK301.out (by decide)) (fun _ hk => hk.1.2) _) (fun _ hk => hk.2) _) (fun _ hk => hk.2) _) (fun _ hk => hk.1.1), is115_, bw115_, kz_ HK⟩
 rw [if_neg c55] at H
 have c55b0 : (t302 == 2) = false := beq_eq_false_iff_ne.mpr c55
 have c55b1 : (t302 != 2) = true := bne_iff_ne.mpr c55
 by_cases c82 : t302 = 3
 rotate_left
 ·rw [if_neg c82] at H
  have c82b0 : (t302 == 3) = false := beq_eq_false_iff_ne.mpr c82
  have c82b1 : (t302 != 3) = true := bne_iff_ne.mpr c82
  simp only [Option.some.injEq, Prod.mk.injEq] at H
  obtain ⟨rfl, rfl, rfl, rfl⟩ := H
  obtain ⟨Ao111, co111, eo111⟩ := Kd.R_slice HO1_1.out
  subst eo111
  go_enter Try.func85, Try.ntmps85
  go_wp2_with (first | ((with_reducible refine gate_dst (N := 3) rfl ?_); refine be_ 3 #[.int .i64 a1_0, .slice Ao111 l1_1.length co111] 30 ?_; intro gb300 hg w112 BK300 hb; have GW300 := Aside0.mk ((by rw [hg]; exact (by first | exact HK.out.1 | exact (show Kept w _ (fun k_ => (P1_1_ k_) ∨ k_ = g) from by repeat (first | (with_reducible first | exact HK.out | apply Kept.alloc | apply Kept.drewN | apply Kept.drew | refine Kept.setCell ?_ (.inl (.inr rfl)) _) | exact HK.out)).1) : w.heap.size ≤ gb300)); have GE300 := Aside0.mk ((by rw [hg]; exact (below_size (bw115_)) : w0.heap.size ≤ gb300)); have NB0_300 := Aside0.mk ((by rw [hg]; exact Nat.ne_of_lt (IsS115.lt (show IsS115 w0 _ g s0_0 s0_1 s0_2 from is115_)) : g ≠ gb300)); have NB300_0 := Aside0.mk ((by rw [hg]; exact Nat.ne_of_gt (IsS115.lt (show IsS115 w0 _ g s0_0 s0_1 s0_2 from is115_)) : gb300 ≠ g)); replace HO1_1 := rb_ HO1_1 hb; replace HK := Aside0.mk (Kept.below (S := (fun k_ => (P1_1_ k_) ∨ k_ = g)) (kz_ HK) hb); replace HB := bs115_ hb; replace HI0 := Aside0.mk (IsS115.below is115_ hb); clear hb hg) | ((with_reducible refine gate_dst (N := 4) rfl ?_); refine be_ 4 #[.int .i64 0, .slice none 0 0] 30 ?_; intro gb301 hg w113 BK301 hb; have GW301 := Aside0.mk ((by rw [hg]; exact (by first | exact HK.out.1 | exact (show Kept w _ (fun k_ => (P1_1_ k_) ∨ k_ = g) from by repeat (first | (with_reducible first | exact HK.out | apply Kept.alloc | apply Kept.drewN | apply Kept.drew | refine Kept.setCell ?_ (.inl (.inr rfl)) _ | refine Kept.setCell ?_ (.inr GW300.out) _) | exact HK.out)).1) : w.heap.size ≤ gb301)); have GE301 := Aside0.mk ((by rw [hg]; exact (below_size (bw115_)) : w0.heap.size ≤ gb301)); have NB300_301 := nl_ BK300 hg; have NB301_300 := ng_ BK300 hg; have NB0_301 := Aside0.mk ((by rw [hg]; exact Nat.ne_of_lt (IsS115.lt (show IsS115 w0 _ g s0_0 s0_1 s0_2 from is115_)) : g ≠ gb301)); have NB301_0 := Aside0.mk ((by rw [hg]; exact Nat.ne_of_gt (IsS115.lt (show IsS115 w0 _ g s0_0 s0_1 s0_2 from is115_)) : gb301 ≠ g)); replace HO1_1 := rb_ HO1_1 hb; replace HK := Aside0.mk (Kept.below (S := (fun k_ => (P1_1_ k_) ∨ k_ = g)) (kz_ HK) hb); replace HB := bs115_ hb; replace BK300 := ab_ BK300 hb; replace HI0 := Aside0.mk (IsS115.below is115_ hb); clear hb hg) | ((with_reducible refine gate_callee (f := 68) rfl ?_); refine gl_ (some 7) Try.func68 #[.pointer (some ⟨g, 0, none⟩), .int .i64 4] ?_; (with_reducible refine (spec_l01Below.calls g s0_0 s0_1 s0_2 4 t302 t303 t304 w0 _ ?side1 ?side2 A3.out).mono ?_); (case side1 => exact is115_); (case side2 => exact bw115_); rintro e w114 ⟨rfl, hi, hb, hk⟩; refine ⟨_, rfl, ?_⟩; replace HO1_1 := ak115_ HO1_1 (show IsS115 w0 _ g s0_0 s0_1 s0_2 from is115_) hk; replace BK300 := kb_ BK300 NB300_0 hk; replace BK301 := kb_ BK301 NB301_0 hk; replace HK := Aside0.mk (Kept.of_keep (S := (fun k_ => (P1_1_ k_) ∨ k_ = g)) (kz_ HK) hk (.inl (.inr rfl))); replace HB := Aside0.mk (hb); replace HI0 := Aside0.mk (hi); clear hb hk hi; have hnb115 := NB300_301.out; have hnc115 := NB301_300.out; have hnb116 := NB300_0.out; have hnc116 := NB0_300.out; have hcz117_0 := cz_ BK300 0 (.int .i64 a1_0); have hcz117_1 := cz_ BK300 1 (.slice Ao111 l1_1.length co111); have hfz117_0 := fz_ BK300 0; have hfz117_1 := fz_ BK300 1; have hnb118 := NB301_0.out; have hnc118 := NB0_301.out; have hcz119_0 := cz_ BK301 0 (.int .i64 0); have hcz119_1 := cz_ BK301 1 (.slice none 0 0); have hfz119_0 := fz_ BK301 0; have hfz119_1 := fz_ BK301 1))
  refine bodyPost_ret (results_cell_row rfl _ _ gb301 30 #[.int .i64 a1_0, .slice Ao111 l1_1.length co111] (0, 0) _ rfl (by refine bd_ ?_; refine blk_put (cs := #[.int .i64 a1_0, .slice none 0 0]) ?_ 1 _ rfl; refine bd_ ?_; refine blk_put (cs := #[.int .i64 0, .slice none 0 0]) ?_ 0 _ rfl; refine bd_ ?_; exact BK301.out) Try.underlying30 rfl (by kernel_rfl)) rfl ?_
  exact ⟨_, ew_, by (with_reducible repeat (first | apply Kd.R_alloc | apply Kd.R_drewN | apply Kd.R_drew)); exact Kd.R_mono (Kd.R_far (Kd.R_far (Kd.R_types HO1_1.out BK301.out (by decide)) (fun _ hk => hk.2) _) (fun _ hk => hk.2) _) (fun _ hk => hk.1), is115_, bw115_, kz_ HK⟩
 rw [if_pos c82] at H
 have c82b0 : (t302 == 3) = true := beq_iff_eq.mpr c82
 have c82b1 : (t302 != 3) = false := bne_eq_false_iff_eq.mpr c82
 clear c82
 by_cases c83 : (l1_1.length : Int) > 0
 rotate_left
 ·rw [if_neg c83] at H
  have c83b0 : decide (0 < (l1_1.length : Int)) = false := decide_eq_false c83
  have c83b1 : decide (0 < l1_1.length) = false := decide_eq_false (by omega)
  clear c83
  simp only [Option.some.injEq, Prod.mk.injEq] at H
  obtain ⟨rfl, rfl, rfl, rfl⟩ := H
  obtain ⟨Ao102, co102, eo102⟩ := Kd.R_slice HO1_1.out
  subst eo102
  go_enter Try.func85, Try.ntmps85
  go_wp2_with (first | ((with_reducible refine gate_dst (N := 3) rfl ?_); refine be_ 3 #[.int .i64 a1_0, .slice Ao102 l1_1.length co102] 30 ?_; intro gb300 hg w103 BK300 hb; have GW300 := Aside0.mk ((by rw [hg]; exact (by first | exact HK.out.1 | exact (show Kept w _ (fun k_ => (P1_1_ k_) ∨ k_ = g) from by repeat (first | (with_reducible first | exact HK.out | apply Kept.alloc | apply Kept.drewN | apply Kept.drew | refine Kept.setCell ?_ (.inl (.inr rfl)) _) | exact HK.out)).1) : w.heap.size ≤ gb300)); have GE300 := Aside0.mk ((by rw [hg]; exact (below_size (bw115_)) : w0.heap.size ≤ gb300)); have NB0_300 := Aside0.mk ((by rw [hg]; exact Nat.ne_of_lt (IsS115.lt (show IsS115 w0 _ g s0_0 s0_1 s0_2 from is115_)) : g ≠ gb300)); have NB300_0 := Aside0.mk ((by rw [hg]; exact Nat.ne_of_gt (IsS115.lt (show IsS115 w0 _ g s0_0 s0_1 s0_2 from is115_)) : gb300 ≠ g)); replace HO1_1 := rb_ HO1_1 hb; replace HK := Aside0.mk (Kept.below (S := (fun k_ => (P1_1_ k_) ∨ k_ = g)) (kz_ HK) hb); replace HB := bs115_ hb; replace HI0 := Aside0.mk (IsS115.below is115_ hb); clear hb hg) | ((with_reducible refine gate_dst (N := 4) rfl ?_); refine be_ 4 #[.int .i64 0, .slice none 0 0] 30 ?_; intro gb301 hg w104 BK301 hb; have GW301 := Aside0.mk ((by rw [hg]; exact (by first | exact HK.out.1 | exact (show Kept w _ (fun k_ => (P1_1_ k_) ∨ k_ = g) from by repeat (first | (with_reducible first | exact HK.out | apply Kept.alloc | apply Kept.drewN | apply Kept.drew | refine Kept.setCell ?_ (.inl (.inr rfl)) _ | refine Kept.setCell ?_ (.inr GW300.out) _) | exact HK.out)).1) : w.heap.size ≤ gb301)); have GE301 := Aside0.mk ((by rw [hg]; exact (below_size (bw115_)) : w0.heap.size ≤ gb301)); have NB300_301 := nl_ BK300 hg; have NB301_300 := ng_ BK300 hg; have NB0_301 := Aside0.mk ((by rw [hg]; exact Nat.ne_of_lt (IsS115.lt (show IsS115 w0 _ g s0_0 s0_1 s0_2 from is115_)) : g ≠ gb301)); have NB301_0 := Aside0.mk ((by rw [hg]; exact Nat.ne_of_gt (IsS115.lt (show IsS115 w0 _ g s0_0 s0_1 s0_2 from is115_)) : gb301 ≠ g)); replace HO1_1 := rb_ HO1_1 hb; replace HK := Aside0.mk (Kept.below (S := (fun k_ => (P1_1_ k_) ∨ k_ = g)) (kz_ HK) hb); replace HB := bs115_ hb; replace BK300 := ab_ BK300 hb; replace HI0 := Aside0.mk (IsS115.below is115_ hb); clear hb hg) | ((with_reducible refine gate_callee (f := 68) rfl ?_); refine gl_ (some 7) Try.func68 #[.pointer (some ⟨g, 0, none⟩), .int .i64 4] ?_; (with_reducible refine (spec_l01Below.calls g s0_0 s0_1 s0_2 4 t302 t303 t304 w0 _ ?side1 ?side2 A3.out).mono ?_); (case side1 => exact is115_); (case side2 => exact bw115_); rintro e w105 ⟨rfl, hi, hb, hk⟩; refine ⟨_, rfl, ?_⟩; replace HO1_1 := ak115_ HO1_1 (show IsS115 w0 _ g s0_0 s0_1 s0_2 from is115_) hk; replace BK300 := kb_ BK300 NB300_0 hk; replace BK301 := kb_ BK301 NB301_0 hk; replace HK := Aside0.mk (Kept.of_keep (S := (fun k_ => (P1_1_ k_) ∨ k_ = g)) (kz_ HK) hk (.inl (.inr rfl))); replace HB := Aside0.mk (hb); replace HI0 := Aside0.mk (hi); clear hb hk hi; have hnb106 := NB300_301.out; have hnc106 := NB301_300.out; have hnb107 := NB300_0.out; have hnc107 := NB0_300.out; have hcz108_0 := cz_ BK300 0 (.int .i64 a1_0); have hcz108_1 := cz_ BK300 1 (.slice Ao102 l1_1.length co102); have hfz108_0 := fz_ BK300 0; have hfz108_1 := fz_ BK300 1; have hnb109 := NB301_0.out; have hnc109 := NB0_301.out; have hcz110_0 := cz_ BK301 0 (.int .i64 0); have hcz110_1 := cz_ BK301 1 (.slice none 0 0); have hfz110_0 := fz_ BK301 0; have hfz110_1 := fz_ BK301 1))
  refine bodyPost_ret (results_cell_row rfl _ _ gb301 30 #[.int .i64 a1_0, .slice Ao102 l1_1.length co102] (0, 0) _ rfl (by refine bd_ ?_; refine blk_put (cs := #[.int .i64 a1_0, .slice none 0 0]) ?_ 1 _ rfl; refine bd_ ?_; refine blk_put (cs := #[.int .i64 0, .slice none 0 0]) ?_ 0 _ rfl; refine bd_ ?_; exact BK301.out) Try.underlying30 rfl (by kernel_rfl)) rfl ?_
  exact ⟨_, ew_, by (with_reducible repeat (first | apply Kd.R_alloc | apply Kd.R_drewN | apply Kd.R_drew)); exact Kd.R_mono (Kd.R_far (Kd.R_far (Kd.R_types HO1_1.out BK301.out (by decide)) (fun _ hk => hk.2) _) (fun _ hk => hk.2) _) (fun _ hk => hk.1), is115_, bw115_, kz_ HK⟩
 rw [if_pos c83] at H
 have c83b0 : decide (0 < (l1_1.length : Int)) = true := decide_eq_true c83
 have c83b1 : decide (0 < l1_1.length) = true := decide_eq_true (by omega)
 clear c83
 obtain ⟨⟨t325, t326, t327⟩, A84, H⟩ := ob_ H
 obtain ⟨c85b0, H⟩ := iq_ H
 obtain ⟨c86b0, H⟩ := iq_ H
 obtain ⟨y329, hy329⟩ : ∃ y_ : List (S76), y_ = (l1_1.set (t325 : Int).toNat (⟨(rd_T76 l1_1 t325).f0, (rd_T76 l1_1 t325).f0, (rd_T76 l1_1 t325).f2⟩ : S76)) := ⟨_, rfl⟩
 replace H : (some (a1_0, y329, t326, t327)) = some (r1, r2, r3, r4) := by first | (rw [hy329]; with_reducible exact H) | (have H2_ := (Option.bind_some _ _).symm.trans H; rw [hy329]; with_reducible exact H2_) | (have H2_ := (Option.bind_some _ _).symm.trans H; with_reducible exact H2_) | with_reducible exact H | (rw [hy329]; exact H) | exact H
 have Ny329 := Aside0.mk hy329
 clear hy329
 simp only [Option.some.injEq, Prod.mk.injEq] at H
 obtain ⟨rfl, rfl, rfl, rfl⟩ := H
 obtain ⟨Ao88, co88, eo88⟩ := Kd.R_slice HO1_1.out
 subst eo88
 go_enter Try.func85, Try.ntmps85
 try go_wp2_with (first | ((with_reducible refine gate_dst (N := 3) rfl ?_); refine be_ 3 #[.int .i64 a1_0, .slice Ao88 l1_1.length co88] 30 ?_; intro gb300 hg w89 BK300 hb; have GW300 := Aside0.mk ((by rw [hg]; exact (by first | exact HK.out.1 | exact (show Kept w _ (fun k_ => (P1_1_ k_) ∨ k_ = g) from by repeat (first | (with_reducible first | exact HK.out | apply Kept.alloc | apply Kept.drewN | apply Kept.drew | refine Kept.setCell ?_ (.inl (.inr rfl)) _) | exact HK.out)).1) : w.heap.size ≤ gb300)); have GE300 := Aside0.mk ((by rw [hg]; exact (below_size (bw115_)) : w0.heap.size ≤ gb300)); have NB0_300 := Aside0.mk ((by rw [hg]; exact Nat.ne_of_lt (IsS115.lt (show IsS115 w0 _ g s0_0 s0_1 s0_2 from is115_)) : g ≠ gb300)); have NB300_0 := Aside0.mk ((by rw [hg]; exact Nat.ne_of_gt (IsS115.lt (show IsS115 w0 _ g s0_0 s0_1 s0_2 from is115_)) : gb300 ≠ g)); replace HO1_1 := rb_ HO1_1 hb; replace HK := Aside0.mk (Kept.below (S := (fun k_ => (P1_1_ k_) ∨ k_ = g)) (kz_ HK) hb); replace HB := bs115_ hb; replace HI0 := Aside0.mk (IsS115.below is115_ hb); clear hb hg) | ((with_reducible refine gate_dst (N := 4) rfl ?_); refine be_ 4 #[.int .i64 0, .slice none 0 0] 30 ?_; intro gb301 hg w90 BK301 hb; have GW301 := Aside0.mk ((by rw [hg]; exact (by first | exact HK.out.1 | exact (show Kept w _ (fun k_ => (P1_1_ k_) ∨ k_ = g) from by repeat (first | (with_reducible first | exact HK.out | apply Kept.alloc | apply Kept.drewN | apply Kept.drew | refine Kept.setCell ?_ (.inl (.inr rfl)) _ | refine Kept.setCell ?_ (.inr GW300.out) _) | exact HK.out)).1) : w.heap.size ≤ gb301)); have GE301 := Aside0.mk ((by rw [hg]; exact (below_size (bw115_)) : w0.heap.size ≤ gb301)); have NB300_301 := nl_ BK300 hg; have NB301_300 := ng_ BK300 hg; have NB0_301 := Aside0.mk ((by rw [hg]; exact Nat.ne_of_lt (IsS115.lt (show IsS115 w0 _ g s0_0 s0_1 s0_2 from is115_)) : g ≠ gb301)); have NB301_0 := Aside0.mk ((by rw [hg]; exact Nat.ne_of_gt (IsS115.lt (show IsS115 w0 _ g s0_0 s0_1 s0_2 from is115_)) : gb301 ≠ g)); replace HO1_1 := rb_ HO1_1 hb; replace HK := Aside0.mk (Kept.below (S := (fun k_ => (P1_1_ k_) ∨ k_ = g)) (kz_ HK) hb); replace HB := bs115_ hb; replace BK300 := ab_ BK300 hb; replace HI0 := Aside0.mk (IsS115.below is115_ hb); clear hb hg) | ((with_reducible refine gate_callee (f := 68) rfl ?_); refine gl_ (some 7) Try.func68 #[.pointer (some ⟨g, 0, none⟩), .int .i64 4] ?_; (with_reducible refine (spec_l01Below.calls g s0_0 s0_1 s0_2 4 t302 t303 t304 w0 _ ?side1 ?side2 A3.out).mono ?_); (case side1 => exact is115_); (case side2 => exact bw115_); rintro e w91 ⟨rfl, hi, hb, hk⟩; refine ⟨_, rfl, ?_⟩; replace HO1_1 := ak115_ HO1_1 (show IsS115 w0 _ g s0_0 s0_1 s0_2 from is115_) hk; replace BK300 := kb_ BK300 NB300_0 hk; replace BK301 := kb_ BK301 NB301_0 hk; replace HK := Aside0.mk (Kept.of_keep (S := (fun k_ => (P1_1_ k_) ∨ k_ = g)) (kz_ HK) hk (.inl (.inr rfl))); replace HB := Aside0.mk (hb); replace HI0 := Aside0.mk (hi); clear hb hk hi; have hnb92 := NB300_301.out; have hnc92 := NB301_300.out; have hnb93 := NB300_0.out; have hnc93 := NB0_300.out; have hcz94_0 := cz_ BK300 0 (.int .i64 a1_0); have hcz94_1 := cz_ BK300 1 (.slice Ao88 l1_1.length co88); have hfz94_0 := fz_ BK300 0; have hfz94_1 := fz_ BK300 1) | ((with_reducible refine gate_callee (f := 68) rfl ?_); refine gl_ (some 60) Try.func68 #[.pointer (some ⟨g, 0, none⟩), .int .i64 (l1_1.length : Int)] ?_; (with_reducible refine (spec_l01Below.calls g s0_0 t303 t304 (l1_1.length : Int) t325 t326 t327 w0 _ ?side1 ?side2 A84.out).mono ?_); (case side1 => exact is115_); (case side2 => exact bw115_); rintro e w95 ⟨rfl, hi, hb, hk⟩; refine ⟨_, rfl, ?_⟩; replace HO1_1 := ak115_ HO1_1 (show IsS115 w0 _ g s0_0 t303 t304 from is115_) hk; replace BK300 := kb_ BK300 NB300_0 hk; replace BK301 := kb_ BK301 NB301_0 hk; replace HK := Aside0.mk (Kept.of_keep (S := (fun k_ => (P1_1_ k_) ∨ k_ = g)) (kz_ HK) hk (.inl (.inr rfl))); replace HB := Aside0.mk (hb); replace HI0 := Aside0.mk (hi); clear hb hk hi))
 replace HO1_1 := rw5_ HO1_1
 replace BK300 := ad_ BK300
 replace BK301 := ad_ BK301
 replace HI0 := Aside0.mk (IsS115.drew HI0.out)
 replace HK := Aside0.mk (Kept.drew HK.out)
 replace HB := Aside0.mk (below_drew1 HB.out)
 have p328 : 0 ≤ (t325 : Int) := oa_
 have q328 : t325 < (l1_1.length : Int) := oa_
 obtain ⟨ad328, e328, hx328_0, hx328_1, hx328_2⟩ := at_T76 (Kd.R_reads' HO1_1.out).2.2 t325 p328 q328
 cases e328
 obtain ⟨p328, q328⟩ := et_ p328 q328
 have p87 : 0 ≤ (t325 : Int) := oa_
 have q87 : (t325 : Int) < ((l1_1.length : Int) : Int) := oa_
 obtain ⟨go87, co87, eo87, gb87, gl87, cl87, HG87⟩ := Kd.R_form HO1_1.out (by omega)
 (first | cases eo87 | (injection eo87 with ea_ en_ ec_; (first | subst ea_ | (injection ea_ with ea_; subst ea_)); subst ec_; clear en_))
 have GB87 := Aside0.mk gb87
 have GG87 := Aside0.mk HG87
 clear gb87 gl87 HG87
 have HMgo87 := Aside0.mk (show (P1_1_ go87 ∨ w.heap.size ≤ go87) from (HO1_1.out.1 _ rfl))
 simp only [add_plain] at hx328_0
 simp only [add_plain] at hx328_1
 simp only [add_plain] at hx328_2
 obtain ⟨ce87, hcl87, hM87, hcc87, hfr87⟩ := Kd.R_elem HO1_1.out z76 (t325 : Int) p87 q87
 obtain rfl := k76_openM hM87
 have hx87_0 : World.cell? _ ⟨go87, (t325 : Int).toNat * 3, none⟩ = some (.int .i64 ((rd_T76 l1_1 t325).f0)) := hcc87 0 _ rfl
 have hx87_1 : World.cell? _ ⟨go87, (t325 : Int).toNat * 3 + 1, none⟩ = some (.int .i64 ((rd_T76 l1_1 t325).f1)) := hcc87 1 _ rfl
 have hx87_2 : World.cell? _ ⟨go87, (t325 : Int).toNat * 3 + 2, none⟩ = some (.int .i64 ((rd_T76 l1_1 t325).f2)) := hcc87 2 _ rfl
 have hf87_0 : World.frozen? _ ⟨go87, (t325 : Int).toNat * 3, none⟩ = false := hfr87 0
 have hf87_1 : World.frozen? _ ⟨go87, (t325 : Int).toNat * 3 + 1, none⟩ = false := hfr87 1
 have hf87_2 : World.frozen? _ ⟨go87, (t325 : Int).toNat * 3 + 2, none⟩ = false := hfr87 2
 clear hcl87 hcc87 hfr87 hM87
 obtain ⟨p87, q87⟩ := et_ p87 q87
 have HN0_go87 := Aside0.mk (show g ≠ go87 from by have h_ := IsS115.own_ne HI0.out HO1_1.out (by decide); intro e_; exact h_ (by rw [e_]; rfl))
 obtain ⟨ce97, hcl97, hM97, hcc97, hfr97⟩ := Kd.R_elem HO1_1.out z76 (t325 : Int) oa_ (by have h_ : (t325 : Int) < ((l1_1.length : Int) : Int) := oa_; first | exact h_ | (have e_ := (Kd.R_reads' HO1_1.out).1; omega) | simpa using h_)
 obtain rfl := k76_openM hM97
 have HP97 := (Kd.R_seg HO1_1.out (t325 : Int) oa_ (by have h_ : (t325 : Int) < ((l1_1.length : Int) : Int) := oa_; first | exact h_ | (have e_ := (Kd.R_reads' HO1_1.out).1; omega) | simpa using h_) (seg := [.int .i64 ((rd_T76 l1_1 t325).f0)]) (j := 1) hcl97 hcc97 (show 2 ≤ 3 from by decide) (x' := (⟨(rd_T76 l1_1 t325).f0, (rd_T76 l1_1 t325).f0, (rd_T76 l1_1 t325).f2⟩ : S76)) (k76_mkM _ _ _ (⟨(rd_T76 l1_1 t325).f0, (rd_T76 l1_1 t325).f0, (rd_T76 l1_1 t325).f2⟩ : S76) ) (fun _ hk => hk)).1
 rw [← Ny329.out] at HP97
 have HQ97 := Aside0.mk HP97
 clear hcl97 hcc97 hfr97 hM97 HP97
 refine start_ (n := 12) (S := fun w' => w'.cell? ⟨gb300, 0, none⟩ = some (.int .i64 a1_0) ∧ w'.cell? ⟨gb300, 1, none⟩ = some (.slice (some ⟨go87, 0, none⟩) l1_1.length co88) ∧ w'.cell? ⟨go87, ((t325).toNat * 3), none⟩ = some (.int .i64 ((rd_T76 l1_1 t325).f0)) ∧ w'.cell? ⟨go87, ((t325).toNat * 3) + 1, none⟩ = some (.int .i64 ((rd_T76 l1_1 t325).f1)) ∧ w'.cell? ⟨go87, ((t325).toNat * 3) + 2, none⟩ = some (.int .i64 ((rd_T76 l1_1 t325).f2))) (ds := [11]) ba10_26 (by kernel_rfl) rfl rfl ⟨bq5_ BK300 0, bq5_ BK300 1, hx328_0, hx328_1, hx328_2⟩ (fun hHeld => ?_); refine with_tabW spec_l03Bend.tab13 spec_l03Bend.bits13 (fun HT_ HW_ => ?_)
 generalize w95.drew = w96 at HO1_1 BK300 BK301 HI0 HK HB GG87 HQ97 hf87_0 hf87_1 hf87_2 hx328_0 hx328_1 hx328_2 hx87_0 hx87_1 hx87_2 hHeld ⊢
 refine pz_ 0 61 ba10_27 HT_ ?_
 refine pz_ 2 63 ba10_28 HT_ ?_
 refine pz_ 3 64 ba10_29 HT_ ?_
 refine pz_ 5 66 ba10_30 HT_ ?_
 refine pt_ 1 62 ba10_31 HT_ HW_ hHeld ?_
 refine pt_ 4 65 ba10_32 HT_ HW_ hHeld ?_
 refine pz_ 6 67 ba10_33 HT_ ?_
 refine pz_ 7 68 ba10_34 HT_ ?_
 refine pt_ 8 69 ba10_35 HT_ HW_ hHeld ?_
 refine pz_ 9 70 ba10_36 HT_ ?_
 refine pz_ 10 71 ba10_37 HT_ ?_
 refine last_ (i := 11) (N := none) ba10_38 rfl rfl (one_of HT_.out (by kernel_rfl)) (by decide) (fun K hK => ?_)
 refine skip_ (w1 := ?_) (by rfl) rfl ?_ ?_
 rotate_left; · go_simp; rfl
 refine hK.out _ _ ?_
 clear hK K
 refine done_ (done_of HT_.out (by kernel_rfl)) ?_
 generalize hW_ : (w96.setCell ⟨go87, (t325 : Int).toNat * 3 + 1, none⟩ (.int .i64 ((rd_T76 l1_1 t325).f0))) = w98
 have n0_ : Aside0 (Kd.R k76 76 w98 w0.heap.size (fun k_ => (P1_1_ k_ ∨ w.heap.size ≤ k_)) (.slice (some ⟨go87, 0, none⟩) l1_1.length co88) y329) := by subst hW_; exact ⟨hq_ (HQ97.out)⟩
 have n1_ : Aside0 (w98.heap[gb300]? = some (.cells #[.int .i64 a1_0, .slice (some ⟨go87, 0, none⟩) l1_1.length co88] 30 (0, 0))) := by subst hW_; exact ⟨by refine bd_ ?_; refine blk_far ?_ (by have h_ := Kd.R_ne HO1_1.out BK300.out (by decide); intro e_; exact h_ (by rw [e_]; rfl)) _; refine bd_ ?_; exact BK300.out⟩
 have n2_ : Aside0 (w98.heap[gb301]? = some (.cells #[.int .i64 0, .slice none 0 0] 30 (0, 0))) := by subst hW_; exact ⟨by refine bd_ ?_; refine blk_far ?_ (by have h_ := Kd.R_ne HO1_1.out BK301.out (by decide); intro e_; exact h_ (by rw [e_]; rfl)) _; refine bd_ ?_; exact BK301.out⟩
 have n3_ : Aside0 (IsS115 w0 w98 g s0_0 t326 t327) := by subst hW_; exact ⟨by repeat (first | (with_reducible first | exact HI0.out | apply IsS115.alloc | apply IsS115.drewN | apply IsS115.drew | apply IsS115.set_1 | apply IsS115.set_2 | refine IsS115.far ?_ HN0_go87.out _ | refine IsS115.far ?_ NB0_300.out _ | refine IsS115.far ?_ NB0_301.out _) | exact HI0.out)⟩
 have n4_ : Aside0 (Kept w w98 (fun k_ => (P1_1_ k_) ∨ k_ = g)) := by subst hW_; exact ⟨by repeat (first | (with_reducible first | exact HK.out | apply Kept.alloc | apply Kept.drewN | apply Kept.drew | refine Kept.setCell ?_ (Or.imp_left Or.inl HMgo87.out) _ | refine Kept.setCell ?_ (.inl (.inr rfl)) _ | refine Kept.setCell ?_ (.inr GW300.out) _ | refine Kept.setCell ?_ (.inr GW301.out) _) | exact HK.out)⟩
 have n5_ : Aside0 (Below w0.heap.size w0 w98) := by subst hW_; exact ⟨by repeat (first | (with_reducible first | exact HB.out | apply below_alloc | apply pw_below_drewN | apply below_drew1 | refine below_set ?_ GB87.out | refine below_set ?_ (IsS115.ge HI0.out) | refine below_set ?_ GE300.out | refine below_set ?_ GE301.out) | exact HB.out)⟩
 clear hW_ HO1_1 BK300 BK301 HI0 HK HB
 have HO1_1 := n0_
 have BK300 := n1_
 have BK301 := n2_
 have HI0 := n3_
 have HK := n4_
 have HB := n5_
 clear n0_ n1_ n2_ n3_ n4_ n5_
 have hcz99_0 := cz_ BK300 0 (.int .i64 a1_0)
 have hcz99_1 := cz_ BK300 1 (.slice (some ⟨go87, 0, none⟩) l1_1.length co88)
 have hfz99_0 := fz_ BK300 0
 have hfz99_1 := fz_ BK300 1
 have hnb100 := NB301_0.out
 have hnc100 := NB0_301.out
 have hcz101_0 := cz_ BK301 0 (.int .i64 0)
 have hcz101_1 := cz_ BK301 1 (.slice none 0 0)
 have hfz101_0 := fz_ BK301 0
 have hfz101_1 := fz_ BK301 1
 go_wp2
 refine bodyPost_ret (results_cell_row rfl _ _ gb301 30 #[.int .i64 a1_0, .slice (some ⟨go87, 0, none⟩) l1_1.length co88] (0, 0) _ rfl (by refine bd_ ?_; refine blk_put (cs := #[.int .i64 a1_0, .slice none 0 0]) ?_ 1 _ rfl; refine bd_ ?_; refine blk_put (cs := #[.int .i64 0, .slice none 0 0]) ?_ 0 _ rfl; refine bd_ ?_; exact BK301.out) Try.underlying30 rfl (by kernel_rfl)) rfl ?_
 exact ⟨_, ew_, by (with_reducible repeat (first | apply Kd.R_alloc | apply Kd.R_drewN | apply Kd.R_drew)); exact Kd.R_mono (Kd.R_far (Kd.R_far (Kd.R_types HO1_1.out BK301.out (by decide)) (fun _ hk => hk.2) _) (fun _ hk => hk.2) _) (fun _ hk => hk.1), is115_, bw115_, kz_ HK⟩
end Go.Proofs.Ythmahcohcphljaa.QFnCheapest
