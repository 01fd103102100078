/- Contracts of functions that the law reaches: what each call returns and what it leaves in memory. Made by this session over the print of the kit. -/
import Derived.Test.YthmahcohcphljaaQFnSharesx0
import Derived.Test.YthmahcohcphljaaQFnSharesx12
namespace Go.Proofs.Ythmahcohcphljaa.QFnShares
open Go.RowKit Go.Proofs.YthmahcohcphljaaS.PrintWords Go.Proofs.YthmahcohcphljaaS.PrintLast Go.Proofs.YthmahcohcphljaaS.PrintMore
attribute [local go_sem] max2_int min2_int max_two min_two max_three min_three max_four min_four   -- for this text's walks alone
set_option linter.unusedVariables false
set_option linter.unusedSimpArgs false
def ba15_0 : Array Bool := bs_ 13 0
def ba15_1 : Array Bool := bs_ 13 1
def ba15_2 : Array Bool := bs_ 13 5
def ba15_3 : Array Bool := bs_ 13 13
def ba15_4 : Array Bool := bs_ 13 141
def ba15_5 : Array Bool := bs_ 13 143
def ba15_6 : Array Bool := bs_ 13 159
def ba15_7 : Array Bool := bs_ 13 191
def ba15_8 : Array Bool := bs_ 13 511
def ba15_9 : Array Bool := bs_ 13 255
def ba15_10 : Array Bool := bs_ 13 447
def ba15_11 : Array Bool := bs_ 13 1023
def ba15_12 : Array Bool := bs_ 13 2047
def ba15_13 : Array Bool := bs_ 13 4095
def ba15_14 : Array Bool := bs_ 13 8191
def ba15_15 : Array Bool := bs_ 10 0
def ba15_16 : Array Bool := bs_ 10 1
def ba15_17 : Array Bool := bs_ 10 5
def ba15_18 : Array Bool := bs_ 10 7
def ba15_19 : Array Bool := bs_ 10 15
def ba15_20 : Array Bool := bs_ 10 31
def ba15_21 : Array Bool := bs_ 10 63
def ba15_22 : Array Bool := bs_ 10 127
def ba15_23 : Array Bool := bs_ 10 255
def ba15_24 : Array Bool := bs_ 10 511
def ba15_25 : Array Bool := bs_ 10 1023
def ba15_26 : Array Bool := bs_ 12 0
def ba15_27 : Array Bool := bs_ 12 1
def ba15_28 : Array Bool := bs_ 12 5
def ba15_29 : Array Bool := bs_ 12 13
def ba15_30 : Array Bool := bs_ 12 45
def ba15_31 : Array Bool := bs_ 12 47
def ba15_32 : Array Bool := bs_ 12 63
def ba15_33 : Array Bool := bs_ 12 127
def ba15_34 : Array Bool := bs_ 12 255
def ba15_35 : Array Bool := bs_ 12 511
def ba15_36 : Array Bool := bs_ 12 1023
def ba15_37 : Array Bool := bs_ 12 2047
def ba15_38 : Array Bool := bs_ 12 4095

/-! ### spec_l03Bend: function 85 -/
def spec_l03Bend.f (s0_0 : List Int) (s0_1 : Int) (s0_2 : Int) (a1_0 : Int) (l1_1 : List (S76)) : Option (Int × (List (S76)) × Int × Int) := (spec_l01Below.f s0_0 s0_1 s0_2 4).bind fun bt393 => (if bt393.1 = 0 then ((spec_l01PickInt.f s0_0 bt393.2.1 bt393.2.2 (([0, 1, 11, wrap64 (a1_0 - 1)] : List Int))).bind fun bt399 => (some (bt399.1, l1_1, bt399.2.1, bt399.2.2))) else (if bt393.1 = 1 then (if (l1_1.length : Int) > 0 then ((spec_l01Below.f s0_0 bt393.2.1 bt393.2.2 (l1_1.length : Int)).bind fun bt402 => ((spec_l01PickInt.f s0_0 bt402.2.1 bt402.2.2 (([0, 1000, 1001] : List Int))).bind fun bt408 => (if 0 ≤ bt402.1 then (if bt402.1 < (l1_1.length : Int) then (some (a1_0, (l1_1.set (bt402.1 : Int).toNat (⟨(rd_T76 l1_1 bt402.1).f0, (rd_T76 l1_1 bt402.1).f1, bt408.1⟩ : S76)), bt408.2.1, bt408.2.2)) else (none)) else (none)))) else (some (a1_0, l1_1, bt393.2.1, bt393.2.2))) else (if bt393.1 = 2 then (if (l1_1.length : Int) > 0 then (if 0 < (l1_1.length : Int) then (if l1_1.length < 5864062014805 then (some (a1_0, (l1_1 ++ [(⟨(rd_T76 l1_1 0).f0, (rd_T76 l1_1 0).f1, (rd_T76 l1_1 0).f2⟩ : S76)]), bt393.2.1, bt393.2.2)) else (none)) else (none)) else (some (a1_0, l1_1, bt393.2.1, bt393.2.2))) else (if bt393.1 = 3 then (if (l1_1.length : Int) > 0 then ((spec_l01Below.f s0_0 bt393.2.1 bt393.2.2 (l1_1.length : Int)).bind fun bt416 => (if 0 ≤ bt416.1 then (if bt416.1 < (l1_1.length : Int) then (some (a1_0, (l1_1.set (bt416.1 : Int).toNat (⟨(rd_T76 l1_1 bt416.1).f0, (rd_T76 l1_1 bt416.1).f0, (rd_T76 l1_1 bt416.1).f2⟩ : S76)), bt416.2.1, bt416.2.2)) else (none)) else (none))) else (some (a1_0, l1_1, bt393.2.1, bt393.2.2))) else (some (a1_0, l1_1, bt393.2.1, bt393.2.2))))))
def spec_l03Bend.T6 : Bool × List (List Nat × List Nat) := (true, [([], []), ([0], [0]), ([], []), ([], []), ([3], [3]), ([4], [4]), ([2, 5], [2, 5]), ([], []), ([], []), ([7, 8, 6], [7, 8]), ([1, 6, 0, 1, 2, 3, 4, 5, 6, 7, 8, 9], [1, 6]), ([10, 0, 1, 2, 3, 4, 5, 6, 7, 8, 9], [10]), ([11, 9, 9, 0, 1, 2, 3, 4, 5, 6, 7, 8, 9], [9, 11])])
def spec_l03Bend.B6 : List Nat := [0, 1, 0, 0, 8, 24, 60, 0, 0, 508, 1023, 2047, 4095]
theorem spec_l03Bend.tab6 : rtab .any (opsOf Try.f85 6) = spec_l03Bend.T6 := by kernel_rfl
theorem spec_l03Bend.bits6 : waitsOk spec_l03Bend.T6.2 spec_l03Bend.B6 = true := by kernel_rfl
def spec_l03Bend.T9 : Bool × List (List Nat × List Nat) := (true, [([], []), ([0], [0]), ([], []), ([2], [2]), ([3], [3]), ([4], [4]), ([5], [5]), ([1, 6], [1, 6]), ([0, 1, 2, 3, 4, 5, 6, 7], []), ([8, 7, 7, 0, 1, 2, 3, 4, 5, 6, 7], [7, 8])])
def spec_l03Bend.B9 : List Nat := [0, 1, 0, 4, 12, 28, 60, 127, 255, 511]
theorem spec_l03Bend.tab9 : rtab .any (opsOf Try.f85 9) = spec_l03Bend.T9 := by kernel_rfl
theorem spec_l03Bend.bits9 : waitsOk spec_l03Bend.T9.2 spec_l03Bend.B9 = true := by kernel_rfl
def spec_l03Bend.T13 : Bool × List (List Nat × List Nat) := (true, [([], []), ([0], [0]), ([], []), ([], []), ([3], [3]), ([], []), ([4, 5], [4, 5]), ([6], [6]), ([7], [7]), ([1, 2, 0, 1, 2, 3, 4, 5, 6, 7, 8], [1, 2]), ([9, 0, 1, 2, 3, 4, 5, 6, 7, 8], [9]), ([10, 8, 0, 1, 2, 3, 4, 5, 6, 7, 8], [8, 10])])
def spec_l03Bend.B13 : List Nat := [0, 1, 0, 0, 8, 0, 56, 120, 248, 511, 1023, 2047]
theorem spec_l03Bend.tab13 : rtab .any (opsOf Try.f85 13) = spec_l03Bend.T13 := by kernel_rfl
theorem spec_l03Bend.bits13 : waitsOk spec_l03Bend.T13.2 spec_l03Bend.B13 = true := by kernel_rfl
set_option maxHeartbeats 8000000 in
set_option maxRecDepth 100000 in
theorem spec_l03Bend.calls (g : Nat) (s0_0 : List Int) (s0_1 : Int) (s0_2 : Int) (a1_0 : Int) (P1_1_ : Nat → Prop) (u9000_ : Value) (l1_1 : List (S76)) (r1 : Int) (r2 : List (S76)) (r3 : Int) (r4 : Int) (w0 w : World) (hI : IsS115 w0 w g s0_0 s0_1 s0_2) (hB : Below w0.heap.size w0 w) (ho1_1 : Kd.R k76 76 w w0.heap.size P1_1_ u9000_ l1_1) (h : spec_l03Bend.f s0_0 s0_1 s0_2 a1_0 l1_1 = some (r1, r2, r3, r4)) :
  Calls Try.prog 85 #[.pointer (some ⟨g, 0, none⟩), .agg #[.int .i64 a1_0, u9000_]] w fun e w' => ∃ v1_ : Value, e = .returned (.agg #[.int .i64 r1, v1_]) ∧ Kd.R k76 76 w' w0.heap.size (fun k_ => (P1_1_ k_ ∨ w.heap.size ≤ k_)) v1_ r2 ∧ IsS115 w0 w' g s0_0 r3 r4 ∧ Below w0.heap.size w0 w' ∧ Kept w w' (fun k_ => (P1_1_ k_) ∨ k_ = g) := by
 have hu30 := Try.underlying30
 have hu76 := Try.underlying76
 have HO1_1 := Aside0.mk (show Kd.R k76 76 w w0.heap.size (fun k_ => (P1_1_ k_ ∨ w.heap.size ≤ k_)) u9000_ l1_1 from Kd.R_mono ho1_1 (fun k_ hk => (.inl hk)))
 have HI0 := Aside0.mk hI
 have HL := Aside0.mk hB.size
 clear hI
 have HK := Aside0.mk (Kept.refl w (fun k_ => (P1_1_ k_) ∨ k_ = g))
 have HW0 := Aside0.mk hB.size
 have HB := Aside0.mk hB
 clear hB
 have H : ((spec_l01Below.f s0_0 s0_1 s0_2 4).bind fun bt393 => (if bt393.1 = 0 then ((spec_l01PickInt.f s0_0 bt393.2.1 bt393.2.2 (([0, 1, 11, wrap64 (a1_0 - 1)] : List Int))).bind fun bt399 => (some (bt399.1, l1_1, bt399.2.1, bt399.2.2))) else (if bt393.1 = 1 then (if (l1_1.length : Int) > 0 then ((spec_l01Below.f s0_0 bt393.2.1 bt393.2.2 (l1_1.length : Int)).bind fun bt402 => ((spec_l01PickInt.f s0_0 bt402.2.1 bt402.2.2 (([0, 1000, 1001] : List Int))).bind fun bt408 => (if 0 ≤ bt402.1 then (if bt402.1 < (l1_1.length : Int) then (some (a1_0, (l1_1.set (bt402.1 : Int).toNat (⟨(rd_T76 l1_1 bt402.1).f0, (rd_T76 l1_1 bt402.1).f1, bt408.1⟩ : S76)), bt408.2.1, bt408.2.2)) else (none)) else (none)))) else (some (a1_0, l1_1, bt393.2.1, bt393.2.2))) else (if bt393.1 = 2 then (if (l1_1.length : Int) > 0 then (if 0 < (l1_1.length : Int) then (if l1_1.length < 5864062014805 then (some (a1_0, (l1_1 ++ [(⟨(rd_T76 l1_1 0).f0, (rd_T76 l1_1 0).f1, (rd_T76 l1_1 0).f2⟩ : S76)]), bt393.2.1, bt393.2.2)) else (none)) else (none)) else (some (a1_0, l1_1, bt393.2.1, bt393.2.2))) else (if bt393.1 = 3 then (if (l1_1.length : Int) > 0 then ((spec_l01Below.f s0_0 bt393.2.1 bt393.2.2 (l1_1.length : Int)).bind fun bt416 => (if 0 ≤ bt416.1 then (if bt416.1 < (l1_1.length : Int) then (some (a1_0, (l1_1.set (bt416.1 : Int).toNat (⟨(rd_T76 l1_1 bt416.1).f0, (rd_T76 l1_1 bt416.1).f0, (rd_T76 l1_1 bt416.1).f2⟩ : S76)), bt416.2.1, bt416.2.2)) else (none)) else (none))) else (some (a1_0, l1_1, bt393.2.1, bt393.2.2))) else (some (a1_0, l1_1, bt393.2.1, bt393.2.2))))))) = some (r1, r2, r3, r4) := h
 clear h
 replace H := Option.bind_eq_some_iff.mp H
 obtain ⟨⟨t393, t394, t395⟩, A30, H⟩ := H
 have A3 := Aside0.mk A30
 clear A30
 by_cases c4 : t393 = 0
 ·rw [if_pos c4] at H
  have c4b0 : (t393 == 0) = true := beq_iff_eq.mpr c4
  have c4b1 : (t393 != 0) = false := bne_eq_false_iff_eq.mpr c4
  clear c4
  obtain ⟨y396, hy396⟩ : ∃ y_ : List Int, y_ = (([0, 1, 11, wrap64 (a1_0 - 1)] : List Int)) := ⟨_, rfl⟩
  replace H : ((spec_l01PickInt.f s0_0 t394 t395 y396).bind fun bt399 => (some (bt399.1, l1_1, bt399.2.1, bt399.2.2))) = some (r1, r2, r3, r4) := by first | (rw [hy396]; with_reducible exact H) | (have H2_ := (Option.bind_some _ _).symm.trans H; rw [hy396]; with_reducible exact H2_) | (have H2_ := (Option.bind_some _ _).symm.trans H; with_reducible exact H2_) | with_reducible exact H | (rw [hy396]; exact H) | exact H
  have Ny396 := Aside0.mk hy396
  clear hy396
  replace H := Option.bind_eq_some_iff.mp H
  obtain ⟨⟨t399, t400, t401⟩, A50, H⟩ := H
  have A5 := Aside0.mk A50
  clear A50
  simp only [Option.some.injEq, Prod.mk.injEq] at H
  obtain ⟨rfl, rfl, rfl, rfl⟩ := H
  obtain ⟨Ao6, co6, eo6⟩ := Kd.R_slice HO1_1.out
  subst eo6
  go_enter Try.func85, Try.ntmps85
  go_wp2_with (first | ((with_reducible refine gate_dst (N := 3) rfl ?_); refine box_event ?hg (N := 3) ?hd (cs := #[.int .i64 a1_0, .slice Ao6 l1_1.length co6]) (t := 30) ?hr ?_; (case hd => rfl); (case hg => rfl); (case hr => first | (go_simp; done) | (go_simp; rfl)); intro gb391 hg w7 hbox hb; have BK391 := Aside0.mk hbox; have GW391 := Aside0.mk ((by rw [hg]; exact (by first | exact HK.out.1 | exact (show Kept w _ (fun k_ => (P1_1_ k_) ∨ k_ = g) from by repeat (first | (with_reducible first | exact HK.out | apply Kept.alloc | apply Kept.drewN | apply Kept.drew | refine Kept.setCell ?_ (.inl (.inr rfl)) _) | exact HK.out)).1) : w.heap.size ≤ gb391)); have GE391 := Aside0.mk ((by rw [hg]; exact (below_size (bw115_)) : w0.heap.size ≤ gb391)); have NB0_391 := Aside0.mk ((by rw [hg]; exact Nat.ne_of_lt (IsS115.lt (show IsS115 w0 _ g s0_0 s0_1 s0_2 from is115_)) : g ≠ gb391)); have NB391_0 := Aside0.mk ((by rw [hg]; exact Nat.ne_of_gt (IsS115.lt (show IsS115 w0 _ g s0_0 s0_1 s0_2 from is115_)) : gb391 ≠ g)); replace HO1_1 := rb_ HO1_1 hb; replace HK := Aside0.mk (Kept.below (S := (fun k_ => (P1_1_ k_) ∨ k_ = g)) (kz_ HK) hb); replace HB := bs115_ hb; replace HI0 := Aside0.mk (IsS115.below is115_ hb); clear hb hbox hg) | ((with_reducible refine gate_dst (N := 4) rfl ?_); refine box_event ?hg (N := 4) ?hd (cs := #[.int .i64 0, .slice none 0 0]) (t := 30) ?hr ?_; (case hd => rfl); (case hg => rfl); (case hr => first | (go_simp; done) | (go_simp; rfl)); intro gb392 hg w8 hbox hb; have BK392 := Aside0.mk hbox; have GW392 := Aside0.mk ((by rw [hg]; exact (by first | exact HK.out.1 | exact (show Kept w _ (fun k_ => (P1_1_ k_) ∨ k_ = g) from by repeat (first | (with_reducible first | exact HK.out | apply Kept.alloc | apply Kept.drewN | apply Kept.drew | refine Kept.setCell ?_ (.inl (.inr rfl)) _ | refine Kept.setCell ?_ (.inr GW391.out) _) | exact HK.out)).1) : w.heap.size ≤ gb392)); have GE392 := Aside0.mk ((by rw [hg]; exact (below_size (bw115_)) : w0.heap.size ≤ gb392)); have NB391_392 := nl_ BK391 hg; have NB392_391 := ng_ BK391 hg; have NB0_392 := Aside0.mk ((by rw [hg]; exact Nat.ne_of_lt (IsS115.lt (show IsS115 w0 _ g s0_0 s0_1 s0_2 from is115_)) : g ≠ gb392)); have NB392_0 := Aside0.mk ((by rw [hg]; exact Nat.ne_of_gt (IsS115.lt (show IsS115 w0 _ g s0_0 s0_1 s0_2 from is115_)) : gb392 ≠ g)); replace HO1_1 := rb_ HO1_1 hb; replace HK := Aside0.mk (Kept.below (S := (fun k_ => (P1_1_ k_) ∨ k_ = g)) (kz_ HK) hb); replace HB := bs115_ hb; replace BK391 := ab_ BK391 hb; replace HI0 := Aside0.mk (IsS115.below is115_ hb); clear hb hbox hg) | ((with_reducible refine gate_callee (f := 68) rfl ?_); refine gl_ (some 7) Try.func68 #[.pointer (some ⟨g, 0, none⟩), .int .i64 4] ?_; (with_reducible refine (spec_l01Below.calls g s0_0 s0_1 s0_2 4 t393 t394 t395 w0 _ ?side1 ?side2 A3.out).mono ?_); (case side1 => exact is115_); (case side2 => exact bw115_); rintro e w9 ⟨rfl, hi, hb, hk⟩; refine ⟨_, rfl, ?_⟩; replace HO1_1 := ak115_ HO1_1 (show IsS115 w0 _ g s0_0 s0_1 s0_2 from is115_) hk; replace BK391 := kb_ BK391 NB391_0 hk; replace BK392 := kb_ BK392 NB392_0 hk; replace HK := Aside0.mk (Kept.of_keep (S := (fun k_ => (P1_1_ k_) ∨ k_ = g)) (kz_ HK) hk (.inl (.inr rfl))); replace HB := Aside0.mk (hb); replace HI0 := Aside0.mk (hi); (try clear hb); (try clear hb2); (try clear hk); (try clear hi); have hnb10 := NB391_392.out; have hnc10 := NB392_391.out; have hnb11 := NB391_0.out; have hnc11 := NB0_391.out; have hcz12_0 := cz_ BK391 0 (.int .i64 a1_0); have hcz12_1 := cz_ BK391 1 (.slice Ao6 l1_1.length co6); have hfz12_0 := fz_ BK391 0; have hfz12_1 := fz_ BK391 1) | ((with_reducible refine gate_dst (N := 14) rfl ?_); refine Kd.R_lit (Kd.int .i64) _ 3 ?hg (N := 14) ?hd (xs := ([0, 1, 11, wrap64 (a1_0 - 1)] : List Int)) (inner := [.int .i64 0, .int .i64 1, .int .i64 11, .int .i64 (wrap64 (a1_0 - 1))]) (ok := fun _ => True) (okp := fun _ => True) ?hr ?hp (fun _ hk => hk) trivial (Below.refl _ _) (Nat.le_refl _) (by simp) ?_; (case hd => rfl); (case hg => rfl); (case hr => first | (go_simp; done) | (go_simp; rfl)); (case hp => exact (Reps.one (show Kd.M (Kd.int .i64) _ _ _ 0 [.int .i64 0] from rfl) (Reps.one (show Kd.M (Kd.int .i64) _ _ _ 1 [.int .i64 1] from rfl) (Reps.one (show Kd.M (Kd.int .i64) _ _ _ 11 [.int .i64 11] from rfl) (Reps.one (show Kd.M (Kd.int .i64) _ _ _ (wrap64 (a1_0 - 1)) [.int .i64 (wrap64 (a1_0 - 1))] from rfl) (Reps.none _ _)))))); intro v397 w13 ho14 hb hg_ hnew_; clear hg_ hnew_; (first | rw [← Ny396.out] at ho14 | (simp only [Int.reduceToNat] at ho14; rw [← Ny396.out] at ho14)); have HO398 := Aside0.mk (Kd.R_lower (Kd.R_newM (M := fun k_ => (P1_1_ k_ ∨ w.heap.size ≤ k_)) ho14 (by first | exact HK.out.1 | exact (show Kept w _ (fun k_ => (P1_1_ k_) ∨ k_ = g) from by repeat (first | (with_reducible first | exact HK.out | apply Kept.alloc | apply Kept.drewN | apply Kept.drew | refine Kept.setCell ?_ (.inl (.inr rfl)) _ | refine Kept.setCell ?_ (.inr GW391.out) _ | refine Kept.setCell ?_ (.inr GW392.out) _) | exact HK.out)).1) (fun k_ h_ => .inr h_)) (below_size (bw115_))); replace HO1_1 := rb_ HO1_1 hb; replace BK391 := ab_ BK391 hb; replace BK392 := ab_ BK392 hb; replace HK := Aside0.mk (Kept.below (S := (fun k_ => (P1_1_ k_) ∨ k_ = g)) (kz_ HK) hb); replace HB := bs115_ hb; replace HI0 := Aside0.mk (IsS115.below is115_ hb); clear hb ho14; obtain ⟨Ao15, co15, eo15⟩ := Kd.R_slice HO398.out; subst eo15) | ((with_reducible refine gate_callee (f := 67) rfl ?_); refine gl_ (some 15) Try.func67 #[.pointer (some ⟨g, 0, none⟩), .slice Ao15 y396.length co15] ?_; (with_reducible refine (spec_l01PickInt.calls g s0_0 t394 t395 _ _ y396 t399 t400 t401 w0 _ ?side1 ?side2 ?side3 ?side4 ?side5 A5.out).mono ?_); (case side1 => exact is115_); (case side2 => exact bw115_); (case side3 => exact rc_ HO398); (case side4 => exact (Kd.R_reads' HO398.out).2.1); (case side5 => exact far_slice (IsS115.own_ne HI0.out HO398.out (by decide))); rintro e w16 ⟨rfl, hi, hb, hk⟩; refine ⟨_, rfl, ?_⟩; replace HO1_1 := ak115_ HO1_1 (show IsS115 w0 _ g s0_0 t394 t395 from is115_) hk; replace BK391 := kb_ BK391 NB391_0 hk; replace BK392 := kb_ BK392 NB392_0 hk; replace HO398 := ak115_ HO398 (show IsS115 w0 _ g s0_0 t394 t395 from is115_) hk; replace HK := Aside0.mk (Kept.of_keep (S := (fun k_ => (P1_1_ k_) ∨ k_ = g)) (kz_ HK) hk (.inl (.inr rfl))); replace HB := Aside0.mk (hb); replace HI0 := Aside0.mk (hi); (try clear hb); (try clear hb2); (try clear hk); (try clear hi); have hcz17_0 := cz_ BK391 0 (.int .i64 a1_0); have hcz17_1 := cz_ BK391 1 (.slice Ao6 l1_1.length co6); have hfz17_0 := fz_ BK391 0; have hfz17_1 := fz_ BK391 1; have hnb18 := NB392_0.out; have hnc18 := NB0_392.out; have hcz19_0 := cz_ BK392 0 (.int .i64 0); have hcz19_1 := cz_ BK392 1 (.slice none 0 0); have hfz19_0 := fz_ BK392 0; have hfz19_1 := fz_ BK392 1))
  refine bodyPost_ret (results_cell_row rfl _ _ gb392 30 #[.int .i64 t399, .slice Ao6 l1_1.length co6] (0, 0) _ rfl (by refine bd_ ?_; refine blk_put (cs := #[.int .i64 t399, .slice none 0 0]) ?_ 1 _ rfl; refine bd_ ?_; refine blk_put (cs := #[.int .i64 0, .slice none 0 0]) ?_ 0 _ rfl; refine bd_ ?_; refine blk_far ?_ NB392_391.out _; refine bd_ ?_; exact BK392.out) Try.underlying30 rfl (by kernel_rfl)) rfl ?_
  exact ⟨_, by first | rfl | (simp [errW_none, errW_some] <;> rfl) | (simp [*, errW_none, errW_some] <;> rfl), by (with_reducible repeat (first | apply Kd.R_alloc | apply Kd.R_drewN | apply Kd.R_drew)); exact Kd.R_mono (Kd.R_far (p := ⟨gb392, 1, none⟩) (Kd.R_far (p := ⟨gb392, 0, none⟩) (Kd.R_far (p := ⟨gb391, 0, none⟩) (Kd.R_types (Kd.R_types HO1_1.out BK391.out (by decide)) BK392.out (by decide)) (fun _ hk => hk.1.2) (.int .i64 t399)) (fun _ hk => hk.2) (.int .i64 t399)) (fun _ hk => hk.2) (.slice Ao6 l1_1.length co6)) (fun _ hk => hk.1.1), is115_, bw115_, kz_ HK⟩
 rw [if_neg c4] at H
 have c4b0 : (t393 == 0) = false := beq_eq_false_iff_ne.mpr c4
 have c4b1 : (t393 != 0) = true := bne_iff_ne.mpr c4
 by_cases c20 : t393 = 1
 ·rw [if_pos c20] at H
  have c20b0 : (t393 == 1) = true := beq_iff_eq.mpr c20
  have c20b1 : (t393 != 1) = false := bne_eq_false_iff_eq.mpr c20
  clear c20
  by_cases c21 : (l1_1.length : Int) > 0
  rotate_left
  ·rw [if_neg c21] at H
   have c21b0 : decide (0 < (l1_1.length : Int)) = false := decide_eq_false c21
   have c21b1 : decide (0 < l1_1.length) = false := decide_eq_false (by omega)
   clear c21
   simp only [Option.some.injEq, Prod.mk.injEq] at H
   obtain ⟨rfl, rfl, rfl, rfl⟩ := H
   obtain ⟨Ao46, co46, eo46⟩ := Kd.R_slice HO1_1.out
   subst eo46
   go_enter Try.func85, Try.ntmps85
   go_wp2_with (first | ((with_reducible refine gate_dst (N := 3) rfl ?_); refine box_event ?hg (N := 3) ?hd (cs := #[.int .i64 a1_0, .slice Ao46 l1_1.length co46]) (t := 30) ?hr ?_; (case hd => rfl); (case hg => rfl); (case hr => first | (go_simp; done) | (go_simp; rfl)); intro gb391 hg w47 hbox hb; have BK391 := Aside0.mk hbox; have GW391 := Aside0.mk ((by rw [hg]; exact (by first | exact HK.out.1 | exact (show Kept w _ (fun k_ => (P1_1_ k_) ∨ k_ = g) from by repeat (first | (with_reducible first | exact HK.out | apply Kept.alloc | apply Kept.drewN | apply Kept.drew | refine Kept.setCell ?_ (.inl (.inr rfl)) _) | exact HK.out)).1) : w.heap.size ≤ gb391)); have GE391 := Aside0.mk ((by rw [hg]; exact (below_size (bw115_)) : w0.heap.size ≤ gb391)); have NB0_391 := Aside0.mk ((by rw [hg]; exact Nat.ne_of_lt (IsS115.lt (show IsS115 w0 _ g s0_0 s0_1 s0_2 from is115_)) : g ≠ gb391)); have NB391_0 := Aside0.mk ((by rw [hg]; exact Nat.ne_of_gt (IsS115.lt (show IsS115 w0 _ g s0_0 s0_1 s0_2 from is115_)) : gb391 ≠ g)); replace HO1_1 := rb_ HO1_1 hb; replace HK := Aside0.mk (Kept.below (S := (fun k_ => (P1_1_ k_) ∨ k_ = g)) (kz_ HK) hb); replace HB := bs115_ hb; replace HI0 := Aside0.mk (IsS115.below is115_ hb); clear hb hbox hg) | ((with_reducible refine gate_dst (N := 4) rfl ?_); refine box_event ?hg (N := 4) ?hd (cs := #[.int .i64 0, .slice none 0 0]) (t := 30) ?hr ?_; (case hd => rfl); (case hg => rfl); (case hr => first | (go_simp; done) | (go_simp; rfl)); intro gb392 hg w48 hbox hb; have BK392 := Aside0.mk hbox; have GW392 := Aside0.mk ((by rw [hg]; exact (by first | exact HK.out.1 | exact (show Kept w _ (fun k_ => (P1_1_ k_) ∨ k_ = g) from by repeat (first | (with_reducible first | exact HK.out | apply Kept.alloc | apply Kept.drewN | apply Kept.drew | refine Kept.setCell ?_ (.inl (.inr rfl)) _ | refine Kept.setCell ?_ (.inr GW391.out) _) | exact HK.out)).1) : w.heap.size ≤ gb392)); have GE392 := Aside0.mk ((by rw [hg]; exact (below_size (bw115_)) : w0.heap.size ≤ gb392)); have NB391_392 := nl_ BK391 hg; have NB392_391 := ng_ BK391 hg; have NB0_392 := Aside0.mk ((by rw [hg]; exact Nat.ne_of_lt (IsS115.lt (show IsS115 w0 _ g s0_0 s0_1 s0_2 from is115_)) : g ≠ gb392)); have NB392_0 := Aside0.mk ((by rw [hg]; exact Nat.ne_of_gt (IsS115.lt (show IsS115 w0 _ g s0_0 s0_1 s0_2 from is115_)) : gb392 ≠ g)); replace HO1_1 := rb_ HO1_1 hb; replace HK := Aside0.mk (Kept.below (S := (fun k_ => (P1_1_ k_) ∨ k_ = g)) (kz_ HK) hb); replace HB := bs115_ hb; replace BK391 := ab_ BK391 hb; replace HI0 := Aside0.mk (IsS115.below is115_ hb); clear hb hbox hg) | ((with_reducible refine gate_callee (f := 68) rfl ?_); refine gl_ (some 7) Try.func68 #[.pointer (some ⟨g, 0, none⟩), .int .i64 4] ?_; (with_reducible refine (spec_l01Below.calls g s0_0 s0_1 s0_2 4 t393 t394 t395 w0 _ ?side1 ?side2 A3.out).mono ?_); (case side1 => exact is115_); (case side2 => exact bw115_); rintro e w49 ⟨rfl, hi, hb, hk⟩; refine ⟨_, rfl, ?_⟩; replace HO1_1 := ak115_ HO1_1 (show IsS115 w0 _ g s0_0 s0_1 s0_2 from is115_) hk; replace BK391 := kb_ BK391 NB391_0 hk; replace BK392 := kb_ BK392 NB392_0 hk; replace HK := Aside0.mk (Kept.of_keep (S := (fun k_ => (P1_1_ k_) ∨ k_ = g)) (kz_ HK) hk (.inl (.inr rfl))); replace HB := Aside0.mk (hb); replace HI0 := Aside0.mk (hi); (try clear hb); (try clear hb2); (try clear hk); (try clear hi); have hnb50 := NB391_392.out; have hnc50 := NB392_391.out; have hnb51 := NB391_0.out; have hnc51 := NB0_391.out; have hcz52_0 := cz_ BK391 0 (.int .i64 a1_0); have hcz52_1 := cz_ BK391 1 (.slice Ao46 l1_1.length co46); have hfz52_0 := fz_ BK391 0; have hfz52_1 := fz_ BK391 1; have hnb53 := NB392_0.out; have hnc53 := NB0_392.out; have hcz54_0 := cz_ BK392 0 (.int .i64 0); have hcz54_1 := cz_ BK392 1 (.slice none 0 0); have hfz54_0 := fz_ BK392 0; have hfz54_1 := fz_ BK392 1))
   refine bodyPost_ret (results_cell_row rfl _ _ gb392 30 #[.int .i64 a1_0, .slice Ao46 l1_1.length co46] (0, 0) _ rfl (by refine bd_ ?_; refine blk_put (cs := #[.int .i64 a1_0, .slice none 0 0]) ?_ 1 _ rfl; refine bd_ ?_; refine blk_put (cs := #[.int .i64 0, .slice none 0 0]) ?_ 0 _ rfl; refine bd_ ?_; exact BK392.out) Try.underlying30 rfl (by kernel_rfl)) rfl ?_
   exact ⟨_, by first | rfl | (simp [errW_none, errW_some] <;> rfl) | (simp [*, errW_none, errW_some] <;> rfl), by (with_reducible repeat (first | apply Kd.R_alloc | apply Kd.R_drewN | apply Kd.R_drew)); exact Kd.R_mono (Kd.R_far (p := ⟨gb392, 1, none⟩) (Kd.R_far (p := ⟨gb392, 0, none⟩) (Kd.R_types HO1_1.out BK392.out (by decide)) (fun _ hk => hk.2) (.int .i64 a1_0)) (fun _ hk => hk.2) (.slice Ao46 l1_1.length co46)) (fun _ hk => hk.1), is115_, bw115_, kz_ HK⟩
  rw [if_pos c21] at H
  have c21b0 : decide (0 < (l1_1.length : Int)) = true := decide_eq_true c21
  have c21b1 : decide (0 < l1_1.length) = true := decide_eq_true (by omega)
  clear c21
  replace H := Option.bind_eq_some_iff.mp H
  obtain ⟨⟨t402, t403, t404⟩, A220, H⟩ := H
  have A22 := Aside0.mk A220
  clear A220
  obtain ⟨y405, hy405⟩ : ∃ y_ : List Int, y_ = (([0, 1000, 1001] : List Int)) := ⟨_, rfl⟩
  replace H : ((spec_l01PickInt.f s0_0 t403 t404 y405).bind fun bt408 => (if 0 ≤ t402 then (if t402 < (l1_1.length : Int) then (some (a1_0, (l1_1.set (t402 : Int).toNat (⟨(rd_T76 l1_1 t402).f0, (rd_T76 l1_1 t402).f1, bt408.1⟩ : S76)), bt408.2.1, bt408.2.2)) else (none)) else (none))) = some (r1, r2, r3, r4) := by first | (rw [hy405]; with_reducible exact H) | (have H2_ := (Option.bind_some _ _).symm.trans H; rw [hy405]; with_reducible exact H2_) | (have H2_ := (Option.bind_some _ _).symm.trans H; with_reducible exact H2_) | with_reducible exact H | (rw [hy405]; exact H) | exact H
  have Ny405 := Aside0.mk hy405
  clear hy405
  replace H := Option.bind_eq_some_iff.mp H
  obtain ⟨⟨t408, t409, t410⟩, A230, H⟩ := H
  have A23 := Aside0.mk A230
  clear A230
  obtain ⟨c24b0, H⟩ := iq_ H
  obtain ⟨c25b0, H⟩ := iq_ H
  obtain ⟨y411, hy411⟩ : ∃ y_ : List (S76), y_ = (l1_1.set (t402 : Int).toNat (⟨(rd_T76 l1_1 t402).f0, (rd_T76 l1_1 t402).f1, t408⟩ : S76)) := ⟨_, rfl⟩
  replace H : (some (a1_0, y411, t409, t410)) = some (r1, r2, r3, r4) := by first | (rw [hy411]; with_reducible exact H) | (have H2_ := (Option.bind_some _ _).symm.trans H; rw [hy411]; with_reducible exact H2_) | (have H2_ := (Option.bind_some _ _).symm.trans H; with_reducible exact H2_) | with_reducible exact H | (rw [hy411]; exact H) | exact H
  have Ny411 := Aside0.mk hy411
  clear hy411
  simp only [Option.some.injEq, Prod.mk.injEq] at H
  obtain ⟨rfl, rfl, rfl, rfl⟩ := H
  obtain ⟨Ao27, co27, eo27⟩ := Kd.R_slice HO1_1.out
  subst eo27
  go_enter Try.func85, Try.ntmps85
  try go_wp2_with (first | ((with_reducible refine gate_dst (N := 3) rfl ?_); refine box_event ?hg (N := 3) ?hd (cs := #[.int .i64 a1_0, .slice Ao27 l1_1.length co27]) (t := 30) ?hr ?_; (case hd => rfl); (case hg => rfl); (case hr => first | (go_simp; done) | (go_simp; rfl)); intro gb391 hg w28 hbox hb; have BK391 := Aside0.mk hbox; have GW391 := Aside0.mk ((by rw [hg]; exact (by first | exact HK.out.1 | exact (show Kept w _ (fun k_ => (P1_1_ k_) ∨ k_ = g) from by repeat (first | (with_reducible first | exact HK.out | apply Kept.alloc | apply Kept.drewN | apply Kept.drew | refine Kept.setCell ?_ (.inl (.inr rfl)) _) | exact HK.out)).1) : w.heap.size ≤ gb391)); have GE391 := Aside0.mk ((by rw [hg]; exact (below_size (bw115_)) : w0.heap.size ≤ gb391)); have NB0_391 := Aside0.mk ((by rw [hg]; exact Nat.ne_of_lt (IsS115.lt (show IsS115 w0 _ g s0_0 s0_1 s0_2 from is115_)) : g ≠ gb391)); have NB391_0 := Aside0.mk ((by rw [hg]; exact Nat.ne_of_gt (IsS115.lt (show IsS115 w0 _ g s0_0 s0_1 s0_2 from is115_)) : gb391 ≠ g)); replace HO1_1 := rb_ HO1_1 hb; replace HK := Aside0.mk (Kept.below (S := (fun k_ => (P1_1_ k_) ∨ k_ = g)) (kz_ HK) hb); replace HB := bs115_ hb; replace HI0 := Aside0.mk (IsS115.below is115_ hb); clear hb hbox hg) | ((with_reducible refine gate_dst (N := 4) rfl ?_); refine box_event ?hg (N := 4) ?hd (cs := #[.int .i64 0, .slice none 0 0]) (t := 30) ?hr ?_; (case hd => rfl); (case hg => rfl); (case hr => first | (go_simp; done) | (go_simp; rfl)); intro gb392 hg w29 hbox hb; have BK392 := Aside0.mk hbox; have GW392 := Aside0.mk ((by rw [hg]; exact (by first | exact HK.out.1 | exact (show Kept w _ (fun k_ => (P1_1_ k_) ∨ k_ = g) from by repeat (first | (with_reducible first | exact HK.out | apply Kept.alloc | apply Kept.drewN | apply Kept.drew | refine Kept.setCell ?_ (.inl (.inr rfl)) _ | refine Kept.setCell ?_ (.inr GW391.out) _) | exact HK.out)).1) : w.heap.size ≤ gb392)); have GE392 := Aside0.mk ((by rw [hg]; exact (below_size (bw115_)) : w0.heap.size ≤ gb392)); have NB391_392 := nl_ BK391 hg; have NB392_391 := ng_ BK391 hg; have NB0_392 := Aside0.mk ((by rw [hg]; exact Nat.ne_of_lt (IsS115.lt (show IsS115 w0 _ g s0_0 s0_1 s0_2 from is115_)) : g ≠ gb392)); have NB392_0 := Aside0.mk ((by rw [hg]; exact Nat.ne_of_gt (IsS115.lt (show IsS115 w0 _ g s0_0 s0_1 s0_2 from is115_)) : gb392 ≠ g)); replace HO1_1 := rb_ HO1_1 hb; replace HK := Aside0.mk (Kept.below (S := (fun k_ => (P1_1_ k_) ∨ k_ = g)) (kz_ HK) hb); replace HB := bs115_ hb; replace BK391 := ab_ BK391 hb; replace HI0 := Aside0.mk (IsS115.below is115_ hb); clear hb hbox hg) | ((with_reducible refine gate_callee (f := 68) rfl ?_); refine gl_ (some 7) Try.func68 #[.pointer (some ⟨g, 0, none⟩), .int .i64 4] ?_; (with_reducible refine (spec_l01Below.calls g s0_0 s0_1 s0_2 4 t393 t394 t395 w0 _ ?side1 ?side2 A3.out).mono ?_); (case side1 => exact is115_); (case side2 => exact bw115_); rintro e w30 ⟨rfl, hi, hb, hk⟩; refine ⟨_, rfl, ?_⟩; replace HO1_1 := ak115_ HO1_1 (show IsS115 w0 _ g s0_0 s0_1 s0_2 from is115_) hk; replace BK391 := kb_ BK391 NB391_0 hk; replace BK392 := kb_ BK392 NB392_0 hk; replace HK := Aside0.mk (Kept.of_keep (S := (fun k_ => (P1_1_ k_) ∨ k_ = g)) (kz_ HK) hk (.inl (.inr rfl))); replace HB := Aside0.mk (hb); replace HI0 := Aside0.mk (hi); (try clear hb); (try clear hb2); (try clear hk); (try clear hi); have hnb31 := NB391_392.out; have hnc31 := NB392_391.out; have hnb32 := NB391_0.out; have hnc32 := NB0_391.out; have hcz33_0 := cz_ BK391 0 (.int .i64 a1_0); have hcz33_1 := cz_ BK391 1 (.slice Ao27 l1_1.length co27); have hfz33_0 := fz_ BK391 0; have hfz33_1 := fz_ BK391 1))
  replace HO1_1 := Aside0.mk (Kd.R_drew HO1_1.out)
  replace BK391 := ad_ BK391
  replace BK392 := ad_ BK392
  replace HI0 := Aside0.mk (IsS115.drew HI0.out)
  replace HK := Aside0.mk (Kept.drew HK.out)
  replace HB := Aside0.mk (below_drew1 HB.out)
  refine start_ (n := 13) (S := fun w' => w'.cell? ⟨gb391, 0, none⟩ = some (.int .i64 a1_0) ∧ w'.cell? ⟨gb391, 1, none⟩ = some (.slice Ao27 l1_1.length co27)) (ds := [12]) ba15_0 (by kernel_rfl) rfl rfl ⟨(blk_cell BK391.out 0).trans rfl, (blk_cell BK391.out 1).trans rfl⟩ (fun hHeld => ?_); refine with_tabW spec_l03Bend.tab6 spec_l03Bend.bits6 (fun HT_ HW_ => ?_)
  generalize w30.drew = w34 at HO1_1 BK391 BK392 HI0 HK HB hHeld ⊢
  refine pz_ 0 23 ba15_1 HT_ ?_
  refine pz_ 2 25 ba15_2 HT_ ?_
  refine pz_ 3 26 ba15_3 HT_ ?_
  refine pz_ 7 30 ba15_4 HT_ ?_
  refine pt_ 1 24 ba15_5 HT_ HW_ hHeld ?_
  refine pt_ 4 27 ba15_6 HT_ HW_ hHeld ?_
  refine pz_ 5 28 ba15_7 HT_ ?_
  refine join_ (σ := Value) 4 ba15_8 (fun s_ => [(29, .int .i64 t402), (31, s_)]) (fun s_ w' => (w'.cell? ⟨gb391, 0, none⟩ = some (.int .i64 a1_0) ∧ w'.cell? ⟨gb391, 1, none⟩ = some (.slice Ao27 l1_1.length co27)) ∧ (Kd.R k76 76 w' w0.heap.size (fun k_ => (P1_1_ k_ ∨ w.heap.size ≤ k_)) (.slice Ao27 l1_1.length co27) l1_1) ∧ (Kd.R (Kd.int .i64) 3 w' w0.heap.size (fun k_ => (P1_1_ k_ ∨ w.heap.size ≤ k_)) s_ y405) ∧ (w'.heap[gb391]? = some (.cells #[.int .i64 a1_0, .slice Ao27 l1_1.length co27] 30 (0, 0))) ∧ (w'.heap[gb392]? = some (.cells #[.int .i64 0, .slice none 0 0] 30 (0, 0))) ∧ (IsS115 w0 w' g s0_0 t403 t404) ∧ (Kept w w' (fun k_ => (P1_1_ k_) ∨ k_ = g)) ∧ (Below w0.heap.size w0 w')) ?_ ?_
  rotate_left
  ·intro hCont
   refine two_ (i := 6) (j := 8) (Ni := some 29) (Nj := some 31) ba15_9 ba15_10 rfl rfl rfl rfl (two_of HT_.out (by kernel_rfl)) (by decide) (by decide) (fun K hK => ?_) (fun K hK => ?_)
   ·skip
    refine gz_ Try.func68 #[.pointer (some ⟨g, 0, none⟩), .int .i64 (l1_1.length : Int)] ?_
    with_reducible refine (spec_l01Below.calls g s0_0 t394 t395 (l1_1.length : Int) t402 t403 t404 w0 _ ?side1 ?side2 A22.out).mono ?_
    (case side1 => exact is115_)
    (case side2 => exact bw115_)
    rintro e w35 ⟨rfl, hi, hb, hk⟩
    refine ⟨_, rfl, ?_⟩
    replace HO1_1 := ak115_ HO1_1 (show IsS115 w0 _ g s0_0 t394 t395 from is115_) hk
    replace BK391 := kb_ BK391 NB391_0 hk
    replace BK392 := kb_ BK392 NB392_0 hk
    replace HK := Aside0.mk (Kept.of_keep (S := (fun k_ => (P1_1_ k_) ∨ k_ = g)) (kz_ HK) hk (.inl (.inr rfl)))
    replace HB := Aside0.mk (hb)
    replace HI0 := Aside0.mk (hi)
    (try clear hb)
    (try clear hb2)
    (try clear hk)
    (try clear hi)
    refine hK.out _ _ ⟨(blk_cell BK391.out 0).trans rfl, (blk_cell BK391.out 1).trans rfl⟩ (fun hHeld => ?_)
    clear hK K
    refine nz_ 29 ?_
    refine one_ (i := 8) (N := some 31) ba15_8 rfl rfl (one_of HT_.out (by kernel_rfl)) (by decide) (fun K hK => ?_)
    refine Kd.R_lit_step (Kd.int .i64) _ 3 ?hg (N := 31) ?hd (xs := ([0, 1000, 1001] : List Int)) (inner := [.int .i64 0, .int .i64 1000, .int .i64 1001]) (ok := fun _ => True) (okp := fun _ => True) ?hr ?hp (fun _ hk => hk) trivial (Below.refl _ _) (Nat.le_refl _) (by simp) ?_; (case hd => rfl); (case hg => rfl); (case hr => first | (go_simp; done) | (go_simp; rfl)); (case hp => exact (Reps.one (show Kd.M (Kd.int .i64) _ _ _ 0 [.int .i64 0] from rfl) (Reps.one (show Kd.M (Kd.int .i64) _ _ _ 1000 [.int .i64 1000] from rfl) (Reps.one (show Kd.M (Kd.int .i64) _ _ _ 1001 [.int .i64 1001] from rfl) (Reps.none _ _)))))
    intro v406 w36 ho37 hb hg_ hnew_
    clear hg_ hnew_
    (first | rw [← Ny405.out] at ho37 | (simp only [Int.reduceToNat] at ho37; rw [← Ny405.out] at ho37))
    have HO407 := Aside0.mk (Kd.R_lower (Kd.R_newM (M := fun k_ => (P1_1_ k_ ∨ w.heap.size ≤ k_)) ho37 (by first | exact HK.out.1 | exact (show Kept w _ (fun k_ => (P1_1_ k_) ∨ k_ = g) from by repeat (first | (with_reducible first | exact HK.out | apply Kept.alloc | apply Kept.drewN | apply Kept.drew | refine Kept.setCell ?_ (.inl (.inr rfl)) _ | refine Kept.setCell ?_ (.inr GW391.out) _ | refine Kept.setCell ?_ (.inr GW392.out) _) | exact HK.out)).1) (fun k_ h_ => .inr h_)) (below_size (bw115_)))
    replace HO1_1 := rb_ HO1_1 hb
    replace BK391 := ab_ BK391 hb
    replace BK392 := ab_ BK392 hb
    replace HK := Aside0.mk (Kept.below (S := (fun k_ => (P1_1_ k_) ∨ k_ = g)) (kz_ HK) hb)
    replace HB := bs115_ hb
    replace HI0 := Aside0.mk (IsS115.below is115_ hb)
    clear hb ho37
    refine hK.out _ _ ⟨(blk_cell BK391.out 0).trans rfl, (blk_cell BK391.out 1).trans rfl⟩ (fun hHeld => ?_)
    clear hK K
    refine nz_ 31 ?_
    exact norm_ (by simp only [putAll, Act.put, List.setIfInBounds_toArray, List.set_cons_zero, List.set_cons_succ]) (hCont (v406) _ ⟨hHeld, (hd_ HO1_1), (by (with_reducible repeat (first | apply Kd.R_alloc | apply Kd.R_drewN | apply Kd.R_drew)); exact Kd.R_mono HO407.out (fun _ hk => hk.1)), (bx_ BK391), (bx_ BK392), (is115_), (kz_ HK), (bw115_)⟩)
   ·skip
    refine Kd.R_lit_step (Kd.int .i64) _ 3 ?hg (N := 31) ?hd (xs := ([0, 1000, 1001] : List Int)) (inner := [.int .i64 0, .int .i64 1000, .int .i64 1001]) (ok := fun _ => True) (okp := fun _ => True) ?hr ?hp (fun _ hk => hk) trivial (Below.refl _ _) (Nat.le_refl _) (by simp) ?_; (case hd => rfl); (case hg => rfl); (case hr => first | (go_simp; done) | (go_simp; rfl)); (case hp => exact (Reps.one (show Kd.M (Kd.int .i64) _ _ _ 0 [.int .i64 0] from rfl) (Reps.one (show Kd.M (Kd.int .i64) _ _ _ 1000 [.int .i64 1000] from rfl) (Reps.one (show Kd.M (Kd.int .i64) _ _ _ 1001 [.int .i64 1001] from rfl) (Reps.none _ _)))))
    intro v406 w35 ho36 hb hg_ hnew_
    clear hg_ hnew_
    (first | rw [← Ny405.out] at ho36 | (simp only [Int.reduceToNat] at ho36; rw [← Ny405.out] at ho36))
    have HO407 := Aside0.mk (Kd.R_lower (Kd.R_newM (M := fun k_ => (P1_1_ k_ ∨ w.heap.size ≤ k_)) ho36 (by first | exact HK.out.1 | exact (show Kept w _ (fun k_ => (P1_1_ k_) ∨ k_ = g) from by repeat (first | (with_reducible first | exact HK.out | apply Kept.alloc | apply Kept.drewN | apply Kept.drew | refine Kept.setCell ?_ (.inl (.inr rfl)) _ | refine Kept.setCell ?_ (.inr GW391.out) _ | refine Kept.setCell ?_ (.inr GW392.out) _) | exact HK.out)).1) (fun k_ h_ => .inr h_)) (below_size (bw115_)))
    replace HO1_1 := rb_ HO1_1 hb
    replace BK391 := ab_ BK391 hb
    replace BK392 := ab_ BK392 hb
    replace HK := Aside0.mk (Kept.below (S := (fun k_ => (P1_1_ k_) ∨ k_ = g)) (kz_ HK) hb)
    replace HB := bs115_ hb
    replace HI0 := Aside0.mk (IsS115.below is115_ hb)
    clear hb ho36
    refine hK.out _ _ ⟨(blk_cell BK391.out 0).trans rfl, (blk_cell BK391.out 1).trans rfl⟩ (fun hHeld => ?_)
    clear hK K
    refine nz_ 31 ?_
    refine one_ (i := 6) (N := some 29) ba15_8 rfl rfl (one_of HT_.out (by kernel_rfl)) (by decide) (fun K hK => ?_)
    refine gz_ Try.func68 #[.pointer (some ⟨g, 0, none⟩), .int .i64 (l1_1.length : Int)] ?_
    with_reducible refine (spec_l01Below.calls g s0_0 t394 t395 (l1_1.length : Int) t402 t403 t404 w0 _ ?side1 ?side2 A22.out).mono ?_
    (case side1 => exact is115_)
    (case side2 => exact bw115_)
    rintro e w37 ⟨rfl, hi, hb, hk⟩
    refine ⟨_, rfl, ?_⟩
    replace HO1_1 := ak115_ HO1_1 (show IsS115 w0 _ g s0_0 t394 t395 from is115_) hk
    replace BK391 := kb_ BK391 NB391_0 hk
    replace BK392 := kb_ BK392 NB392_0 hk
    replace HO407 := ak115_ HO407 (show IsS115 w0 _ g s0_0 t394 t395 from is115_) hk
    replace HK := Aside0.mk (Kept.of_keep (S := (fun k_ => (P1_1_ k_) ∨ k_ = g)) (kz_ HK) hk (.inl (.inr rfl)))
    replace HB := Aside0.mk (hb)
    replace HI0 := Aside0.mk (hi)
    (try clear hb)
    (try clear hb2)
    (try clear hk)
    (try clear hi)
    refine hK.out _ _ ⟨(blk_cell BK391.out 0).trans rfl, (blk_cell BK391.out 1).trans rfl⟩ (fun hHeld => ?_)
    clear hK K
    refine nz_ 29 ?_
    exact norm_ (by simp only [putAll, Act.put, List.setIfInBounds_toArray, List.set_cons_zero, List.set_cons_succ]) (hCont (v406) _ ⟨hHeld, (hd_ HO1_1), (by (with_reducible repeat (first | apply Kd.R_alloc | apply Kd.R_drewN | apply Kd.R_drew)); exact Kd.R_mono HO407.out (fun _ hk => hk.1)), (bx_ BK391), (bx_ BK392), (is115_), (kz_ HK), (bw115_)⟩)
  rintro v406 w38 ⟨hS_, h0_, h1_, h2_, h3_, h4_, h5_, h6_⟩
  have HO407 : Aside0 (Kd.R (Kd.int .i64) 3 w38 w0.heap.size (fun k_ => (P1_1_ k_ ∨ w.heap.size ≤ k_)) v406 y405) := ⟨h1_⟩
  replace HO1_1 : Aside0 (Kd.R k76 76 w38 w0.heap.size (fun k_ => (P1_1_ k_ ∨ w.heap.size ≤ k_)) (.slice Ao27 l1_1.length co27) l1_1) := ⟨h0_⟩
  replace BK391 : Aside0 (w38.heap[gb391]? = some (.cells #[.int .i64 a1_0, .slice Ao27 l1_1.length co27] 30 (0, 0))) := ⟨h2_⟩
  replace BK392 : Aside0 (w38.heap[gb392]? = some (.cells #[.int .i64 0, .slice none 0 0] 30 (0, 0))) := ⟨h3_⟩
  replace HI0 : Aside0 (IsS115 w0 w38 g s0_0 t403 t404) := ⟨h4_⟩
  replace HK : Aside0 (Kept w w38 (fun k_ => (P1_1_ k_) ∨ k_ = g)) := ⟨h5_⟩
  replace HB : Aside0 (Below w0.heap.size w0 w38) := ⟨h6_⟩
  clear h0_ h1_ h2_ h3_ h4_ h5_ h6_
  have hHeld : w38.cell? ⟨gb391, 0, none⟩ = some (.int .i64 a1_0) ∧ w38.cell? ⟨gb391, 1, none⟩ = some (.slice Ao27 l1_1.length co27) := hS_
  obtain ⟨Ao39, co39, eo39⟩ := Kd.R_slice HO407.out
  (first | subst eo39 | (injection eo39 with f1_ f2_ f3_; have f4_ := f1_.symm; have f5_ := f3_.symm; clear f1_ f2_ f3_; subst f4_; subst f5_))
  refine norm_ (a' := ?_) ?_ ?_
  rotate_left; · simp only [putAll, Act.put, List.setIfInBounds_toArray, List.set_cons_zero, List.set_cons_succ]; rfl
  refine one_ (i := 9) (N := some 32) ba15_11 rfl rfl (one_of HT_.out (by kernel_rfl)) (by decide) (fun K hK => ?_)
  refine gz_ Try.func67 #[.pointer (some ⟨g, 0, none⟩), .slice Ao39 y405.length co39] ?_
  with_reducible refine (spec_l01PickInt.calls g s0_0 t403 t404 _ _ y405 t408 t409 t410 w0 _ ?side1 ?side2 ?side3 ?side4 ?side5 A23.out).mono ?_
  (case side1 => exact is115_)
  (case side2 => exact bw115_)
  (case side3 => exact rc_ HO407)
  (case side4 => exact (Kd.R_reads' HO407.out).2.1)
  (case side5 => exact far_slice (IsS115.own_ne HI0.out HO407.out (by decide)))
  rintro e w40 ⟨rfl, hi, hb, hk⟩
  refine ⟨_, rfl, ?_⟩
  replace HO1_1 := ak115_ HO1_1 (show IsS115 w0 _ g s0_0 t403 t404 from is115_) hk
  replace BK391 := kb_ BK391 NB391_0 hk
  replace BK392 := kb_ BK392 NB392_0 hk
  replace HO407 := ak115_ HO407 (show IsS115 w0 _ g s0_0 t403 t404 from is115_) hk
  replace HK := Aside0.mk (Kept.of_keep (S := (fun k_ => (P1_1_ k_) ∨ k_ = g)) (kz_ HK) hk (.inl (.inr rfl)))
  replace HB := Aside0.mk (hb)
  replace HI0 := Aside0.mk (hi)
  (try clear hb)
  (try clear hb2)
  (try clear hk)
  (try clear hi)
  have p26 : 0 ≤ (t402 : Int) := oa_
  have q26 : (t402 : Int) < ((l1_1.length : Int) : Int) := oa_
  obtain ⟨go26, co26, eo26, gb26, gl26, cl26, HG26⟩ := Kd.R_form HO1_1.out (by omega)
  (first | cases eo26 | (injection eo26 with ea_ en_ ec_; (first | subst ea_ | (injection ea_ with ea_; subst ea_)); subst ec_; clear en_))
  have GB26 := Aside0.mk gb26
  have GG26 := Aside0.mk HG26
  clear gb26 gl26 HG26
  have HMgo26 := Aside0.mk (show (P1_1_ go26 ∨ w.heap.size ≤ go26) from (HO1_1.out.1 _ rfl))
  obtain ⟨ce26, hcl26, hM26, hcc26, hfr26⟩ := Kd.R_elem HO1_1.out z76 (t402 : Int) p26 q26
  obtain rfl := k76_openM hM26
  have hx26_0 : World.cell? _ ⟨go26, (t402 : Int).toNat * 3, none⟩ = some (.int .i64 ((rd_T76 l1_1 t402).f0)) := hcc26 0 _ rfl
  have hx26_1 : World.cell? _ ⟨go26, (t402 : Int).toNat * 3 + 1, none⟩ = some (.int .i64 ((rd_T76 l1_1 t402).f1)) := hcc26 1 _ rfl
  have hx26_2 : World.cell? _ ⟨go26, (t402 : Int).toNat * 3 + 2, none⟩ = some (.int .i64 ((rd_T76 l1_1 t402).f2)) := hcc26 2 _ rfl
  have hf26_0 : World.frozen? _ ⟨go26, (t402 : Int).toNat * 3, none⟩ = false := hfr26 0
  have hf26_1 : World.frozen? _ ⟨go26, (t402 : Int).toNat * 3 + 1, none⟩ = false := hfr26 1
  have hf26_2 : World.frozen? _ ⟨go26, (t402 : Int).toNat * 3 + 2, none⟩ = false := hfr26 2
  clear hcl26 hcc26 hfr26 hM26
  replace p26 := eq_true p26
  replace q26 := eq_true q26
  have HN0_go26 := Aside0.mk (show g ≠ go26 from by have h_ := IsS115.own_ne HI0.out HO1_1.out (by decide); intro e_; exact h_ (by rw [e_]; rfl))
  obtain ⟨ce41, hcl41, hM41, hcc41, hfr41⟩ := Kd.R_elem HO1_1.out z76 (t402 : Int) oa_ (by have h_ : (t402 : Int) < ((l1_1.length : Int) : Int) := oa_; first | exact h_ | (have e_ := (Kd.R_reads' HO1_1.out).1; omega) | simpa using h_)
  obtain rfl := k76_openM hM41
  have HP41 := (Kd.R_seg HO1_1.out (t402 : Int) oa_ (by have h_ : (t402 : Int) < ((l1_1.length : Int) : Int) := oa_; first | exact h_ | (have e_ := (Kd.R_reads' HO1_1.out).1; omega) | simpa using h_) (seg := [.int .i64 t408]) (j := 2) hcl41 hcc41 (show 3 ≤ 3 from by decide) (x' := (⟨(rd_T76 l1_1 t402).f0, (rd_T76 l1_1 t402).f1, t408⟩ : S76)) (k76_mkM _ _ _ (⟨(rd_T76 l1_1 t402).f0, (rd_T76 l1_1 t402).f1, t408⟩ : S76) ) (fun _ hk => hk)).1
  rw [← Ny411.out] at HP41
  have HQ41 := Aside0.mk HP41
  clear hcl41 hcc41 hfr41 hM41 HP41
  refine hK.out _ _ ⟨(blk_cell BK391.out 0).trans rfl, (blk_cell BK391.out 1).trans rfl⟩ (fun hHeld => ?_)
  clear hK K
  refine nz_ 32 ?_
  refine pz_ 10 33 ba15_12 HT_ ?_
  refine pz_ 11 34 ba15_13 HT_ ?_
  refine last_ (i := 12) (N := none) ba15_14 rfl rfl (one_of HT_.out (by kernel_rfl)) (by decide) (fun K hK => ?_)
  refine skip_ (w1 := ?_) (by rfl) rfl ?_ ?_
  rotate_left; · go_simp; rfl
  refine hK.out _ _ ?_
  clear hK K
  refine done_ (done_of HT_.out (by kernel_rfl)) ?_
  have n0_ : Aside0 (Kd.R k76 76 (w40.setCell ⟨go26, (t402 : Int).toNat * 3 + 2, none⟩ (.int .i64 t408)) w0.heap.size (fun k_ => (P1_1_ k_ ∨ w.heap.size ≤ k_)) (.slice (some ⟨go26, 0, none⟩) l1_1.length co27) y411) := ⟨by (with_reducible repeat (first | apply Kd.R_alloc | apply Kd.R_drewN | apply Kd.R_drew)); exact HQ41.out⟩
  have n1_ : Aside0 (Kd.R (Kd.int .i64) 3 (w40.setCell ⟨go26, (t402 : Int).toNat * 3 + 2, none⟩ (.int .i64 t408)) w0.heap.size (fun k_ => (P1_1_ k_ ∨ w.heap.size ≤ k_)) (.slice Ao39 y405.length co39) y405) := ⟨by (with_reducible repeat (first | apply Kd.R_alloc | apply Kd.R_drewN | apply Kd.R_drew)); exact Kd.R_mono (Kd.R_far (p := ⟨go26, (t402 : Int).toNat * 3 + 2, none⟩) (Kd.R_types HO407.out GG26.out (by decide)) (fun _ hk => hk.2) (.int .i64 t408)) (fun _ hk => hk.1)⟩
  have n2_ : Aside0 ((w40.setCell ⟨go26, (t402 : Int).toNat * 3 + 2, none⟩ (.int .i64 t408)).heap[gb391]? = some (.cells #[.int .i64 a1_0, .slice (some ⟨go26, 0, none⟩) l1_1.length co27] 30 (0, 0))) := ⟨by refine bd_ ?_; refine blk_far ?_ (by have h_ := Kd.R_ne HO1_1.out BK391.out (by decide); intro e_; exact h_ (by rw [e_]; rfl)) _; refine bd_ ?_; exact BK391.out⟩
  have n3_ : Aside0 ((w40.setCell ⟨go26, (t402 : Int).toNat * 3 + 2, none⟩ (.int .i64 t408)).heap[gb392]? = some (.cells #[.int .i64 0, .slice none 0 0] 30 (0, 0))) := ⟨by refine bd_ ?_; refine blk_far ?_ (by have h_ := Kd.R_ne HO1_1.out BK392.out (by decide); intro e_; exact h_ (by rw [e_]; rfl)) _; refine bd_ ?_; exact BK392.out⟩
  have n4_ : Aside0 (IsS115 w0 (w40.setCell ⟨go26, (t402 : Int).toNat * 3 + 2, none⟩ (.int .i64 t408)) g s0_0 t409 t410) := ⟨by repeat (first | (with_reducible first | exact HI0.out | apply IsS115.alloc | apply IsS115.drewN | apply IsS115.drew | apply IsS115.set_1 | apply IsS115.set_2 | refine IsS115.far ?_ HN0_go26.out _ | refine IsS115.far ?_ NB0_391.out _ | refine IsS115.far ?_ NB0_392.out _) | exact HI0.out)⟩
  have n5_ : Aside0 (Kept w (w40.setCell ⟨go26, (t402 : Int).toNat * 3 + 2, none⟩ (.int .i64 t408)) (fun k_ => (P1_1_ k_) ∨ k_ = g)) := ⟨by repeat (first | (with_reducible first | exact HK.out | apply Kept.alloc | apply Kept.drewN | apply Kept.drew | refine Kept.setCell ?_ (Or.imp_left Or.inl HMgo26.out) _ | refine Kept.setCell ?_ (.inl (.inr rfl)) _ | refine Kept.setCell ?_ (.inr GW391.out) _ | refine Kept.setCell ?_ (.inr GW392.out) _) | exact HK.out)⟩
  have n6_ : Aside0 (Below w0.heap.size w0 (w40.setCell ⟨go26, (t402 : Int).toNat * 3 + 2, none⟩ (.int .i64 t408))) := ⟨by repeat (first | (with_reducible first | exact HB.out | apply below_alloc | apply pw_below_drewN | apply below_drew1 | refine below_set ?_ GB26.out | refine below_set ?_ (IsS115.ge HI0.out) | refine below_set ?_ GE391.out | refine below_set ?_ GE392.out) | exact HB.out)⟩
  (try clear HO1_1)
  (try clear HO407)
  (try clear BK391)
  (try clear BK392)
  (try clear HI0)
  (try clear HK)
  (try clear HB)
  generalize (w40.setCell ⟨go26, (t402 : Int).toNat * 3 + 2, none⟩ (.int .i64 t408)) = w42 at n0_ n1_ n2_ n3_ n4_ n5_ n6_ ⊢
  have HO1_1 := n0_
  have HO407 := n1_
  have BK391 := n2_
  have BK392 := n3_
  have HI0 := n4_
  have HK := n5_
  have HB := n6_
  clear n0_ n1_ n2_ n3_ n4_ n5_ n6_
  have hcz43_0 := cz_ BK391 0 (.int .i64 a1_0)
  have hcz43_1 := cz_ BK391 1 (.slice (some ⟨go26, 0, none⟩) l1_1.length co27)
  have hfz43_0 := fz_ BK391 0
  have hfz43_1 := fz_ BK391 1
  have hnb44 := NB392_0.out
  have hnc44 := NB0_392.out
  have hcz45_0 := cz_ BK392 0 (.int .i64 0)
  have hcz45_1 := cz_ BK392 1 (.slice none 0 0)
  have hfz45_0 := fz_ BK392 0
  have hfz45_1 := fz_ BK392 1
  try go_wp2
  refine bodyPost_ret (results_cell_row rfl _ _ gb392 30 #[.int .i64 a1_0, .slice (some ⟨go26, 0, none⟩) l1_1.length co27] (0, 0) _ rfl (by refine bd_ ?_; refine blk_put (cs := #[.int .i64 a1_0, .slice none 0 0]) ?_ 1 _ rfl; refine bd_ ?_; refine blk_put (cs := #[.int .i64 0, .slice none 0 0]) ?_ 0 _ rfl; refine bd_ ?_; exact BK392.out) Try.underlying30 rfl (by kernel_rfl)) rfl ?_
  exact ⟨_, by first | rfl | (simp [errW_none, errW_some] <;> rfl) | (simp [*, errW_none, errW_some] <;> rfl), by (with_reducible repeat (first | apply Kd.R_alloc | apply Kd.R_drewN | apply Kd.R_drew)); exact Kd.R_mono (Kd.R_far (p := ⟨gb392, 1, none⟩) (Kd.R_far (p := ⟨gb392, 0, none⟩) (Kd.R_types HO1_1.out BK392.out (by decide)) (fun _ hk => hk.2) (.int .i64 a1_0)) (fun _ hk => hk.2) (.slice (some ⟨go26, 0, none⟩) l1_1.length co27)) (fun _ hk => hk.1), is115_, bw115_, kz_ HK⟩
 rw [if_neg c20] at H
 have c20b0 : (t393 == 1) = false := beq_eq_false_iff_ne.mpr c20
 have c20b1 : (t393 != 1) = true := bne_iff_ne.mpr c20
 by_cases c55 : t393 = 2
 ·rw [if_pos c55] at H
  have c55b0 : (t393 == 2) = true := beq_iff_eq.mpr c55
  have c55b1 : (t393 != 2) = false := bne_eq_false_iff_eq.mpr c55
  clear c55
  by_cases c56 : (l1_1.length : Int) > 0
  rotate_left
  ·rw [if_neg c56] at H
   have c56b0 : decide (0 < (l1_1.length : Int)) = false := decide_eq_false c56
   have c56b1 : decide (0 < l1_1.length) = false := decide_eq_false (by omega)
   clear c56
   simp only [Option.some.injEq, Prod.mk.injEq] at H
   obtain ⟨rfl, rfl, rfl, rfl⟩ := H
   obtain ⟨Ao73, co73, eo73⟩ := Kd.R_slice HO1_1.out
   subst eo73
   go_enter Try.func85, Try.ntmps85
   go_wp2_with (first | ((with_reducible refine gate_dst (N := 3) rfl ?_); refine box_event ?hg (N := 3) ?hd (cs := #[.int .i64 a1_0, .slice Ao73 l1_1.length co73]) (t := 30) ?hr ?_; (case hd => rfl); (case hg => rfl); (case hr => first | (go_simp; done) | (go_simp; rfl)); intro gb391 hg w74 hbox hb; have BK391 := Aside0.mk hbox; have GW391 := Aside0.mk ((by rw [hg]; exact (by first | exact HK.out.1 | exact (show Kept w _ (fun k_ => (P1_1_ k_) ∨ k_ = g) from by repeat (first | (with_reducible first | exact HK.out | apply Kept.alloc | apply Kept.drewN | apply Kept.drew | refine Kept.setCell ?_ (.inl (.inr rfl)) _) | exact HK.out)).1) : w.heap.size ≤ gb391)); have GE391 := Aside0.mk ((by rw [hg]; exact (below_size (bw115_)) : w0.heap.size ≤ gb391)); have NB0_391 := Aside0.mk ((by rw [hg]; exact Nat.ne_of_lt (IsS115.lt (show IsS115 w0 _ g s0_0 s0_1 s0_2 from is115_)) : g ≠ gb391)); have NB391_0 := Aside0.mk ((by rw [hg]; exact Nat.ne_of_gt (IsS115.lt (show IsS115 w0 _ g s0_0 s0_1 s0_2 from is115_)) : gb391 ≠ g)); replace HO1_1 := rb_ HO1_1 hb; replace HK := Aside0.mk (Kept.below (S := (fun k_ => (P1_1_ k_) ∨ k_ = g)) (kz_ HK) hb); replace HB := bs115_ hb; replace HI0 := Aside0.mk (IsS115.below is115_ hb); clear hb hbox hg) | ((with_reducible refine gate_dst (N := 4) rfl ?_); refine box_event ?hg (N := 4) ?hd (cs := #[.int .i64 0, .slice none 0 0]) (t := 30) ?hr ?_; (case hd => rfl); (case hg => rfl); (case hr => first | (go_simp; done) | (go_simp; rfl)); intro gb392 hg w75 hbox hb; have BK392 := Aside0.mk hbox; have GW392 := Aside0.mk ((by rw [hg]; exact (by first | exact HK.out.1 | exact (show Kept w _ (fun k_ => (P1_1_ k_) ∨ k_ = g) from by repeat (first | (with_reducible first | exact HK.out | apply Kept.alloc | apply Kept.drewN | apply Kept.drew | refine Kept.setCell ?_ (.inl (.inr rfl)) _ | refine Kept.setCell ?_ (.inr GW391.out) _) | exact HK.out)).1) : w.heap.size ≤ gb392)); have GE392 := Aside0.mk ((by rw [hg]; exact (below_size (bw115_)) : w0.heap.size ≤ gb392)); have NB391_392 := nl_ BK391 hg; have NB392_391 := ng_ BK391 hg; have NB0_392 := Aside0.mk ((by rw [hg]; exact Nat.ne_of_lt (IsS115.lt (show IsS115 w0 _ g s0_0 s0_1 s0_2 from is115_)) : g ≠ gb392)); have NB392_0 := Aside0.mk ((by rw [hg]; exact Nat.ne_of_gt (IsS115.lt (show IsS115 w0 _ g s0_0 s0_1 s0_2 from is115_)) : gb392 ≠ g)); replace HO1_1 := rb_ HO1_1 hb; replace HK := Aside0.mk (Kept.below (S := (fun k_ => (P1_1_ k_) ∨ k_ = g)) (kz_ HK) hb); replace HB := bs115_ hb; replace BK391 := ab_ BK391 hb; replace HI0 := Aside0.mk (IsS115.below is115_ hb); clear hb hbox hg) | ((with_reducible refine gate_callee (f := 68) rfl ?_); refine gl_ (some 7) Try.func68 #[.pointer (some ⟨g, 0, none⟩), .int .i64 4] ?_; (with_reducible refine (spec_l01Below.calls g s0_0 s0_1 s0_2 4 t393 t394 t395 w0 _ ?side1 ?side2 A3.out).mono ?_); (case side1 => exact is115_); (case side2 => exact bw115_); rintro e w76 ⟨rfl, hi, hb, hk⟩; refine ⟨_, rfl, ?_⟩; replace HO1_1 := ak115_ HO1_1 (show IsS115 w0 _ g s0_0 s0_1 s0_2 from is115_) hk; replace BK391 := kb_ BK391 NB391_0 hk; replace BK392 := kb_ BK392 NB392_0 hk; replace HK := Aside0.mk (Kept.of_keep (S := (fun k_ => (P1_1_ k_) ∨ k_ = g)) (kz_ HK) hk (.inl (.inr rfl))); replace HB := Aside0.mk (hb); replace HI0 := Aside0.mk (hi); (try clear hb); (try clear hb2); (try clear hk); (try clear hi); have hnb77 := NB391_392.out; have hnc77 := NB392_391.out; have hnb78 := NB391_0.out; have hnc78 := NB0_391.out; have hcz79_0 := cz_ BK391 0 (.int .i64 a1_0); have hcz79_1 := cz_ BK391 1 (.slice Ao73 l1_1.length co73); have hfz79_0 := fz_ BK391 0; have hfz79_1 := fz_ BK391 1; have hnb80 := NB392_0.out; have hnc80 := NB0_392.out; have hcz81_0 := cz_ BK392 0 (.int .i64 0); have hcz81_1 := cz_ BK392 1 (.slice none 0 0); have hfz81_0 := fz_ BK392 0; have hfz81_1 := fz_ BK392 1))
   refine bodyPost_ret (results_cell_row rfl _ _ gb392 30 #[.int .i64 a1_0, .slice Ao73 l1_1.length co73] (0, 0) _ rfl (by refine bd_ ?_; refine blk_put (cs := #[.int .i64 a1_0, .slice none 0 0]) ?_ 1 _ rfl; refine bd_ ?_; refine blk_put (cs := #[.int .i64 0, .slice none 0 0]) ?_ 0 _ rfl; refine bd_ ?_; exact BK392.out) Try.underlying30 rfl (by kernel_rfl)) rfl ?_
   exact ⟨_, by first | rfl | (simp [errW_none, errW_some] <;> rfl) | (simp [*, errW_none, errW_some] <;> rfl), by (with_reducible repeat (first | apply Kd.R_alloc | apply Kd.R_drewN | apply Kd.R_drew)); exact Kd.R_mono (Kd.R_far (p := ⟨gb392, 1, none⟩) (Kd.R_far (p := ⟨gb392, 0, none⟩) (Kd.R_types HO1_1.out BK392.out (by decide)) (fun _ hk => hk.2) (.int .i64 a1_0)) (fun _ hk => hk.2) (.slice Ao73 l1_1.length co73)) (fun _ hk => hk.1), is115_, bw115_, kz_ HK⟩
  rw [if_pos c56] at H
  have c56b0 : decide (0 < (l1_1.length : Int)) = true := decide_eq_true c56
  have c56b1 : decide (0 < l1_1.length) = true := decide_eq_true (by omega)
  clear c56
  by_cases c57 : 0 < (l1_1.length : Int)
  rotate_left
  ·rw [if_neg c57] at H
   exact absurd H (by simp)
  rw [if_pos c57] at H
  have c57b0 : decide (0 < (l1_1.length : Int)) = true := decide_eq_true c57
  have c57b1 : decide (0 < l1_1.length) = true := decide_eq_true (by omega)
  clear c57
  by_cases c58 : l1_1.length < 5864062014805
  rotate_left
  ·rw [if_neg c58] at H
   exact absurd H (by simp)
  rw [if_pos c58] at H
  have LMc58 := Aside0.mk c58
  clear c58
  obtain ⟨y413, hy413⟩ : ∃ y_ : List (S76), y_ = (l1_1 ++ [(⟨(rd_T76 l1_1 0).f0, (rd_T76 l1_1 0).f1, (rd_T76 l1_1 0).f2⟩ : S76)]) := ⟨_, rfl⟩
  replace H : (some (a1_0, y413, t394, t395)) = some (r1, r2, r3, r4) := by first | (rw [hy413]; with_reducible exact H) | (have H2_ := (Option.bind_some _ _).symm.trans H; rw [hy413]; with_reducible exact H2_) | (have H2_ := (Option.bind_some _ _).symm.trans H; with_reducible exact H2_) | with_reducible exact H | (rw [hy413]; exact H) | exact H
  have Ny413 := Aside0.mk hy413
  clear hy413
  simp only [Option.some.injEq, Prod.mk.injEq] at H
  obtain ⟨rfl, rfl, rfl, rfl⟩ := H
  obtain ⟨Ao59, co59, eo59⟩ := Kd.R_slice HO1_1.out
  subst eo59
  go_enter Try.func85, Try.ntmps85
  try go_wp2_with (first | ((with_reducible refine gate_dst (N := 3) rfl ?_); refine box_event ?hg (N := 3) ?hd (cs := #[.int .i64 a1_0, .slice Ao59 l1_1.length co59]) (t := 30) ?hr ?_; (case hd => rfl); (case hg => rfl); (case hr => first | (go_simp; done) | (go_simp; rfl)); intro gb391 hg w60 hbox hb; have BK391 := Aside0.mk hbox; have GW391 := Aside0.mk ((by rw [hg]; exact (by first | exact HK.out.1 | exact (show Kept w _ (fun k_ => (P1_1_ k_) ∨ k_ = g) from by repeat (first | (with_reducible first | exact HK.out | apply Kept.alloc | apply Kept.drewN | apply Kept.drew | refine Kept.setCell ?_ (.inl (.inr rfl)) _) | exact HK.out)).1) : w.heap.size ≤ gb391)); have GE391 := Aside0.mk ((by rw [hg]; exact (below_size (bw115_)) : w0.heap.size ≤ gb391)); have NB0_391 := Aside0.mk ((by rw [hg]; exact Nat.ne_of_lt (IsS115.lt (show IsS115 w0 _ g s0_0 s0_1 s0_2 from is115_)) : g ≠ gb391)); have NB391_0 := Aside0.mk ((by rw [hg]; exact Nat.ne_of_gt (IsS115.lt (show IsS115 w0 _ g s0_0 s0_1 s0_2 from is115_)) : gb391 ≠ g)); replace HO1_1 := rb_ HO1_1 hb; replace HK := Aside0.mk (Kept.below (S := (fun k_ => (P1_1_ k_) ∨ k_ = g)) (kz_ HK) hb); replace HB := bs115_ hb; replace HI0 := Aside0.mk (IsS115.below is115_ hb); clear hb hbox hg) | ((with_reducible refine gate_dst (N := 4) rfl ?_); refine box_event ?hg (N := 4) ?hd (cs := #[.int .i64 0, .slice none 0 0]) (t := 30) ?hr ?_; (case hd => rfl); (case hg => rfl); (case hr => first | (go_simp; done) | (go_simp; rfl)); intro gb392 hg w61 hbox hb; have BK392 := Aside0.mk hbox; have GW392 := Aside0.mk ((by rw [hg]; exact (by first | exact HK.out.1 | exact (show Kept w _ (fun k_ => (P1_1_ k_) ∨ k_ = g) from by repeat (first | (with_reducible first | exact HK.out | apply Kept.alloc | apply Kept.drewN | apply Kept.drew | refine Kept.setCell ?_ (.inl (.inr rfl)) _ | refine Kept.setCell ?_ (.inr GW391.out) _) | exact HK.out)).1) : w.heap.size ≤ gb392)); have GE392 := Aside0.mk ((by rw [hg]; exact (below_size (bw115_)) : w0.heap.size ≤ gb392)); have NB391_392 := nl_ BK391 hg; have NB392_391 := ng_ BK391 hg; have NB0_392 := Aside0.mk ((by rw [hg]; exact Nat.ne_of_lt (IsS115.lt (show IsS115 w0 _ g s0_0 s0_1 s0_2 from is115_)) : g ≠ gb392)); have NB392_0 := Aside0.mk ((by rw [hg]; exact Nat.ne_of_gt (IsS115.lt (show IsS115 w0 _ g s0_0 s0_1 s0_2 from is115_)) : gb392 ≠ g)); replace HO1_1 := rb_ HO1_1 hb; replace HK := Aside0.mk (Kept.below (S := (fun k_ => (P1_1_ k_) ∨ k_ = g)) (kz_ HK) hb); replace HB := bs115_ hb; replace BK391 := ab_ BK391 hb; replace HI0 := Aside0.mk (IsS115.below is115_ hb); clear hb hbox hg) | ((with_reducible refine gate_callee (f := 68) rfl ?_); refine gl_ (some 7) Try.func68 #[.pointer (some ⟨g, 0, none⟩), .int .i64 4] ?_; (with_reducible refine (spec_l01Below.calls g s0_0 s0_1 s0_2 4 t393 t394 t395 w0 _ ?side1 ?side2 A3.out).mono ?_); (case side1 => exact is115_); (case side2 => exact bw115_); rintro e w62 ⟨rfl, hi, hb, hk⟩; refine ⟨_, rfl, ?_⟩; replace HO1_1 := ak115_ HO1_1 (show IsS115 w0 _ g s0_0 s0_1 s0_2 from is115_) hk; replace BK391 := kb_ BK391 NB391_0 hk; replace BK392 := kb_ BK392 NB392_0 hk; replace HK := Aside0.mk (Kept.of_keep (S := (fun k_ => (P1_1_ k_) ∨ k_ = g)) (kz_ HK) hk (.inl (.inr rfl))); replace HB := Aside0.mk (hb); replace HI0 := Aside0.mk (hi); (try clear hb); (try clear hb2); (try clear hk); (try clear hi); have hnb63 := NB391_392.out; have hnc63 := NB392_391.out; have hnb64 := NB391_0.out; have hnc64 := NB0_391.out; have hcz65_0 := cz_ BK391 0 (.int .i64 a1_0); have hcz65_1 := cz_ BK391 1 (.slice Ao59 l1_1.length co59); have hfz65_0 := fz_ BK391 0; have hfz65_1 := fz_ BK391 1))
  replace HO1_1 := Aside0.mk (Kd.R_drew HO1_1.out)
  replace BK391 := ad_ BK391
  replace BK392 := ad_ BK392
  replace HI0 := Aside0.mk (IsS115.drew HI0.out)
  replace HK := Aside0.mk (Kept.drew HK.out)
  replace HB := Aside0.mk (below_drew1 HB.out)
  have p412 : 0 ≤ (0 : Int) := (by omega)
  have q412 : 0 < (l1_1.length : Int) := oa_
  obtain ⟨ad412, e412, hx412_0, hx412_1, hx412_2⟩ := at_T76 (Kd.R_reads' HO1_1.out).2.2 0 p412 q412
  cases e412
  have qi412 : (0 < l1_1.length) = True := eq_true (by omega)
  (try rw [show ((0 : Int)).toNat = 0 from rfl] at hx412_0)
  (try rw [show 0 * 3 = 0 from rfl] at hx412_0)
  (try rw [Addr.add_zero'] at hx412_0)
  (try rw [show ((0 : Int)).toNat = 0 from rfl] at hx412_1)
  (try rw [show 0 * 3 = 0 from rfl] at hx412_1)
  (try rw [Addr.add_zero'] at hx412_1)
  (try rw [show ((0 : Int)).toNat = 0 from rfl] at hx412_2)
  (try rw [show 0 * 3 = 0 from rfl] at hx412_2)
  (try rw [Addr.add_zero'] at hx412_2)
  replace p412 := eq_true p412
  replace q412 := eq_true q412
  refine start_ (n := 10) (S := fun w' => w'.cell? ⟨gb391, 0, none⟩ = some (.int .i64 a1_0) ∧ w'.cell? ⟨gb391, 1, none⟩ = some (.slice (some ad412) l1_1.length co59) ∧ w'.cell? ad412 = some (.int .i64 ((rd_T76 l1_1 0).f0)) ∧ w'.cell? ⟨ad412.block, ad412.off + 1, none⟩ = some (.int .i64 ((rd_T76 l1_1 0).f1)) ∧ w'.cell? ⟨ad412.block, ad412.off + 2, none⟩ = some (.int .i64 ((rd_T76 l1_1 0).f2))) (ds := [7, 9]) ba15_15 (by kernel_rfl) rfl rfl ⟨(blk_cell BK391.out 0).trans rfl, (blk_cell BK391.out 1).trans rfl, hx412_0, hx412_1, hx412_2⟩ (fun hHeld => ?_); refine with_tabW spec_l03Bend.tab9 spec_l03Bend.bits9 (fun HT_ HW_ => ?_)
  generalize w62.drew = w66 at HO1_1 BK391 BK392 HI0 HK HB hx412_0 hx412_1 hx412_2 hHeld ⊢
  refine pz_ 0 41 ba15_16 HT_ ?_
  refine pz_ 2 43 ba15_17 HT_ ?_
  refine pt_ 1 42 ba15_18 HT_ HW_ hHeld ?_
  refine pt_ 3 44 ba15_19 HT_ HW_ hHeld ?_
  refine pz_ 4 45 ba15_20 HT_ ?_
  refine pt_ 5 46 ba15_21 HT_ HW_ hHeld ?_
  refine one_ (i := 6) (N := some 47) ba15_22 rfl rfl (one_of HT_.out (by kernel_rfl)) (by decide) (fun K hK => ?_)
  refine value_ (w1 := ?_) (v := ?_) (by rfl) rfl ?_ ?_
  rotate_left 2
  ·go_simp
   constructor
   ·rfl
   ·rfl
  refine hK.out _ _ ⟨(blk_cell (blk_alloc BK391.out _) 0).trans rfl, (blk_cell (blk_alloc BK391.out _) 1).trans rfl, (World.cell?_alloc_lt _ _ _ (World.block_lt_of_cell? _ _ (hHeld.2.2.1))).trans (hHeld.2.2.1), (World.cell?_alloc_lt _ _ _ (World.block_lt_of_cell? _ _ (hHeld.2.2.2.1))).trans (hHeld.2.2.2.1), (World.cell?_alloc_lt _ _ _ (World.block_lt_of_cell? _ _ (hHeld.2.2.2.2))).trans (hHeld.2.2.2.2)⟩ (fun hHeld => ?_)
  clear hK K
  refine nz_ 47 ?_
  refine last_ (i := 7) (N := some 48) ba15_23 rfl rfl (one_of HT_.out (by kernel_rfl)) (by decide) (fun K hK => ?_)
  refine Kd.R_append_step k76 (w0 := w0) w0.heap.size (by rfl) (.tmp 42) (.tmp 47) 28 76 (.agg #[(.int .i64 0), (.int .i64 0), (.int .i64 0)]) 24 rfl Try.underlying28 info76 rfl (by decide) (by omega) (.slice (some ad412) l1_1.length co59) l1_1 (⟨(rd_T76 l1_1 0).f0, (rd_T76 l1_1 0).f1, (rd_T76 l1_1 0).f2⟩ : S76) [.int .i64 ((rd_T76 l1_1 0).f0), .int .i64 ((rd_T76 l1_1 0).f1), .int .i64 ((rd_T76 l1_1 0).f2)] (fun k_ => (P1_1_ k_ ∨ w.heap.size ≤ k_)) (fun _ => False) rfl rfl ?aP (fun _ hk => hk.elim) ?aF ?aO ?aB ?aS ?aL ?_
  (case aP => exact k76_mkM _ _ _ (⟨(rd_T76 l1_1 0).f0, (rd_T76 l1_1 0).f1, (rd_T76 l1_1 0).f2⟩ : S76))
  (case aB => exact (bw115_))
  (case aF => exact (fun k_ hk => (.inr (Nat.le_trans (by first | exact HK.out.1 | exact (show Kept w _ (fun k_ => (P1_1_ k_) ∨ k_ = g) from by repeat (first | (with_reducible first | exact HK.out | apply Kept.alloc | apply Kept.drewN | apply Kept.drew | refine Kept.setCell ?_ (.inl (.inr rfl)) _ | refine Kept.setCell ?_ (.inr GW391.out) _ | refine Kept.setCell ?_ (.inr GW392.out) _) | exact HK.out)).1) hk))))
  (case aO => exact (hd_ HO1_1))
  (case aS => exact (below_size (bw115_)))
  (case aL => have := LMc58.out; omega)
  intro v414 w67 ho hb hg hat
  rw [← Ny413.out] at ho
  have HO415 := Aside0.mk ho
  replace HI0 := Aside0.mk (IsS115.grown (is115_) hg (IsS115.own_ne HI0.out HO1_1.out (by decide)))
  replace BK391 := Aside0.mk (blk_grown (g := gb391) (o := .cells #[.int .i64 a1_0, .slice (some ad412) l1_1.length co59] 30 (0, 0)) (bx_ BK391) hg (Kd.R_ne HO1_1.out BK391.out (by decide)))
  replace BK392 := Aside0.mk (blk_grown (g := gb392) (o := .cells #[.int .i64 0, .slice none 0 0] 30 (0, 0)) (bx_ BK392) hg (Kd.R_ne HO1_1.out BK392.out (by decide)))
  replace HB := Aside0.mk (hb)
  replace HK := Aside0.mk (Kept.of_grown (S := (fun k_ => (P1_1_ k_) ∨ k_ = g)) hg (kz_ HK) (fun k_ e_ => Or.imp_left Or.inl ((HO1_1.out.1 k_ e_))))
  clear HO1_1
  clear ho hb hg hat
  obtain ⟨Ao68, co68, eo68⟩ := Kd.R_slice HO415.out
  (first | subst eo68 | (injection eo68 with f1_ f2_ f3_; have f4_ := f1_.symm; have f5_ := f3_.symm; clear f1_ f2_ f3_; subst f4_; subst f5_))
  refine hK.out _ _ ?_
  clear hK K
  refine nz_ 48 ?_
  refine pz_ 8 49 ba15_24 HT_ ?_
  refine last_ (i := 9) (N := none) ba15_25 rfl rfl (one_of HT_.out (by kernel_rfl)) (by decide) (fun K hK => ?_)
  have hs69 : w67.cell? ⟨gb391, 1, none⟩ = some (.slice (some ad412) l1_1.length co59) := (blk_cell BK391.out 1).trans rfl
  have hfs69 := fz_ BK391 1
  have hns69_1 := NB392_391.out
  have hms69_1 := NB391_392.out
  refine skip_ (w1 := ?_) (by rfl) rfl ?_ ?_
  rotate_left; · go_simp; rfl
  refine hK.out _ _ ?_
  clear hK K
  refine done_ (done_of HT_.out (by kernel_rfl)) ?_
  have hcz70_0 := cz_ BK391 0 (.int .i64 a1_0)
  have hcz70_1 := cz_ BK391 1 (.slice (some ad412) l1_1.length co59)
  have hfz70_0 := fz_ BK391 0
  have hfz70_1 := fz_ BK391 1
  have hnb71 := NB392_0.out
  have hnc71 := NB0_392.out
  have hcz72_0 := cz_ BK392 0 (.int .i64 0)
  have hcz72_1 := cz_ BK392 1 (.slice none 0 0)
  have hfz72_0 := fz_ BK392 0
  have hfz72_1 := fz_ BK392 1
  try go_wp2
  refine bodyPost_ret (results_cell_row rfl _ _ gb392 30 #[.int .i64 a1_0, .slice Ao68 y413.length co68] (0, 0) _ rfl (by refine bd_ ?_; refine blk_put (cs := #[.int .i64 a1_0, .slice none 0 0]) ?_ 1 _ rfl; refine bd_ ?_; refine blk_put (cs := #[.int .i64 0, .slice none 0 0]) ?_ 0 _ rfl; refine bd_ ?_; refine blk_far ?_ NB392_391.out _; refine bd_ ?_; exact BK392.out) Try.underlying30 rfl (by kernel_rfl)) rfl ?_
  exact ⟨_, by first | rfl | (simp [errW_none, errW_some] <;> rfl) | (simp [*, errW_none, errW_some] <;> rfl), by (with_reducible repeat (first | apply Kd.R_alloc | apply Kd.R_drewN | apply Kd.R_drew)); exact Kd.R_mono (Kd.R_far (p := ⟨gb392, 1, none⟩) (Kd.R_far (p := ⟨gb392, 0, none⟩) (Kd.R_far (p := ⟨gb391, 1, none⟩) (Kd.R_types (Kd.R_types HO415.out BK391.out (by decide)) BK392.out (by decide)) (fun _ hk => hk.1.2) (.slice Ao68 y413.length co68)) (fun _ hk => hk.2) (.int .i64 a1_0)) (fun _ hk => hk.2) (.slice Ao68 y413.length co68)) (fun _ hk => hk.1.1), is115_, bw115_, kz_ HK⟩
 rw [if_neg c55] at H
 have c55b0 : (t393 == 2) = false := beq_eq_false_iff_ne.mpr c55
 have c55b1 : (t393 != 2) = true := bne_iff_ne.mpr c55
 by_cases c82 : t393 = 3
 rotate_left
 ·rw [if_neg c82] at H
  have c82b0 : (t393 == 3) = false := beq_eq_false_iff_ne.mpr c82
  have c82b1 : (t393 != 3) = true := bne_iff_ne.mpr c82
  simp only [Option.some.injEq, Prod.mk.injEq] at H
  obtain ⟨rfl, rfl, rfl, rfl⟩ := H
  obtain ⟨Ao111, co111, eo111⟩ := Kd.R_slice HO1_1.out
  subst eo111
  go_enter Try.func85, Try.ntmps85
  go_wp2_with (first | ((with_reducible refine gate_dst (N := 3) rfl ?_); refine box_event ?hg (N := 3) ?hd (cs := #[.int .i64 a1_0, .slice Ao111 l1_1.length co111]) (t := 30) ?hr ?_; (case hd => rfl); (case hg => rfl); (case hr => first | (go_simp; done) | (go_simp; rfl)); intro gb391 hg w112 hbox hb; have BK391 := Aside0.mk hbox; have GW391 := Aside0.mk ((by rw [hg]; exact (by first | exact HK.out.1 | exact (show Kept w _ (fun k_ => (P1_1_ k_) ∨ k_ = g) from by repeat (first | (with_reducible first | exact HK.out | apply Kept.alloc | apply Kept.drewN | apply Kept.drew | refine Kept.setCell ?_ (.inl (.inr rfl)) _) | exact HK.out)).1) : w.heap.size ≤ gb391)); have GE391 := Aside0.mk ((by rw [hg]; exact (below_size (bw115_)) : w0.heap.size ≤ gb391)); have NB0_391 := Aside0.mk ((by rw [hg]; exact Nat.ne_of_lt (IsS115.lt (show IsS115 w0 _ g s0_0 s0_1 s0_2 from is115_)) : g ≠ gb391)); have NB391_0 := Aside0.mk ((by rw [hg]; exact Nat.ne_of_gt (IsS115.lt (show IsS115 w0 _ g s0_0 s0_1 s0_2 from is115_)) : gb391 ≠ g)); replace HO1_1 := rb_ HO1_1 hb; replace HK := Aside0.mk (Kept.below (S := (fun k_ => (P1_1_ k_) ∨ k_ = g)) (kz_ HK) hb); replace HB := bs115_ hb; replace HI0 := Aside0.mk (IsS115.below is115_ hb); clear hb hbox hg) | ((with_reducible refine gate_dst (N := 4) rfl ?_); refine box_event ?hg (N := 4) ?hd (cs := #[.int .i64 0, .slice none 0 0]) (t := 30) ?hr ?_; (case hd => rfl); (case hg => rfl); (case hr => first | (go_simp; done) | (go_simp; rfl)); intro gb392 hg w113 hbox hb; have BK392 := Aside0.mk hbox; have GW392 := Aside0.mk ((by rw [hg]; exact (by first | exact HK.out.1 | exact (show Kept w _ (fun k_ => (P1_1_ k_) ∨ k_ = g) from by repeat (first | (with_reducible first | exact HK.out | apply Kept.alloc | apply Kept.drewN | apply Kept.drew | refine Kept.setCell ?_ (.inl (.inr rfl)) _ | refine Kept.setCell ?_ (.inr GW391.out) _) | exact HK.out)).1) : w.heap.size ≤ gb392)); have GE392 := Aside0.mk ((by rw [hg]; exact (below_size (bw115_)) : w0.heap.size ≤ gb392)); have NB391_392 := nl_ BK391 hg; have NB392_391 := ng_ BK391 hg; have NB0_392 := Aside0.mk ((by rw [hg]; exact Nat.ne_of_lt (IsS115.lt (show IsS115 w0 _ g s0_0 s0_1 s0_2 from is115_)) : g ≠ gb392)); have NB392_0 := Aside0.mk ((by rw [hg]; exact Nat.ne_of_gt (IsS115.lt (show IsS115 w0 _ g s0_0 s0_1 s0_2 from is115_)) : gb392 ≠ g)); replace HO1_1 := rb_ HO1_1 hb; replace HK := Aside0.mk (Kept.below (S := (fun k_ => (P1_1_ k_) ∨ k_ = g)) (kz_ HK) hb); replace HB := bs115_ hb; replace BK391 := ab_ BK391 hb; replace HI0 := Aside0.mk (IsS115.below is115_ hb); clear hb hbox hg) | ((with_reducible refine gate_callee (f := 68) rfl ?_); refine gl_ (some 7) Try.func68 #[.pointer (some ⟨g, 0, none⟩), .int .i64 4] ?_; (with_reducible refine (spec_l01Below.calls g s0_0 s0_1 s0_2 4 t393 t394 t395 w0 _ ?side1 ?side2 A3.out).mono ?_); (case side1 => exact is115_); (case side2 => exact bw115_); rintro e w114 ⟨rfl, hi, hb, hk⟩; refine ⟨_, rfl, ?_⟩; replace HO1_1 := ak115_ HO1_1 (show IsS115 w0 _ g s0_0 s0_1 s0_2 from is115_) hk; replace BK391 := kb_ BK391 NB391_0 hk; replace BK392 := kb_ BK392 NB392_0 hk; replace HK := Aside0.mk (Kept.of_keep (S := (fun k_ => (P1_1_ k_) ∨ k_ = g)) (kz_ HK) hk (.inl (.inr rfl))); replace HB := Aside0.mk (hb); replace HI0 := Aside0.mk (hi); (try clear hb); (try clear hb2); (try clear hk); (try clear hi); have hnb115 := NB391_392.out; have hnc115 := NB392_391.out; have hnb116 := NB391_0.out; have hnc116 := NB0_391.out; have hcz117_0 := cz_ BK391 0 (.int .i64 a1_0); have hcz117_1 := cz_ BK391 1 (.slice Ao111 l1_1.length co111); have hfz117_0 := fz_ BK391 0; have hfz117_1 := fz_ BK391 1; have hnb118 := NB392_0.out; have hnc118 := NB0_392.out; have hcz119_0 := cz_ BK392 0 (.int .i64 0); have hcz119_1 := cz_ BK392 1 (.slice none 0 0); have hfz119_0 := fz_ BK392 0; have hfz119_1 := fz_ BK392 1))
  refine bodyPost_ret (results_cell_row rfl _ _ gb392 30 #[.int .i64 a1_0, .slice Ao111 l1_1.length co111] (0, 0) _ rfl (by refine bd_ ?_; refine blk_put (cs := #[.int .i64 a1_0, .slice none 0 0]) ?_ 1 _ rfl; refine bd_ ?_; refine blk_put (cs := #[.int .i64 0, .slice none 0 0]) ?_ 0 _ rfl; refine bd_ ?_; exact BK392.out) Try.underlying30 rfl (by kernel_rfl)) rfl ?_
  exact ⟨_, by first | rfl | (simp [errW_none, errW_some] <;> rfl) | (simp [*, errW_none, errW_some] <;> rfl), by (with_reducible repeat (first | apply Kd.R_alloc | apply Kd.R_drewN | apply Kd.R_drew)); exact Kd.R_mono (Kd.R_far (p := ⟨gb392, 1, none⟩) (Kd.R_far (p := ⟨gb392, 0, none⟩) (Kd.R_types HO1_1.out BK392.out (by decide)) (fun _ hk => hk.2) (.int .i64 a1_0)) (fun _ hk => hk.2) (.slice Ao111 l1_1.length co111)) (fun _ hk => hk.1), is115_, bw115_, kz_ HK⟩
 rw [if_pos c82] at H
 have c82b0 : (t393 == 3) = true := beq_iff_eq.mpr c82
 have c82b1 : (t393 != 3) = false := bne_eq_false_iff_eq.mpr c82
 clear c82
 by_cases c83 : (l1_1.length : Int) > 0
 rotate_left
 ·rw [if_neg c83] at H
  have c83b0 : decide (0 < (l1_1.length : Int)) = false := decide_eq_false c83
  have c83b1 : decide (0 < l1_1.length) = false := decide_eq_false (by omega)
  clear c83
  simp only [Option.some.injEq, Prod.mk.injEq] at H
  obtain ⟨rfl, rfl, rfl, rfl⟩ := H
  obtain ⟨Ao102, co102, eo102⟩ := Kd.R_slice HO1_1.out
  subst eo102
  go_enter Try.func85, Try.ntmps85
  go_wp2_with (first | ((with_reducible refine gate_dst (N := 3) rfl ?_); refine box_event ?hg (N := 3) ?hd (cs := #[.int .i64 a1_0, .slice Ao102 l1_1.length co102]) (t := 30) ?hr ?_; (case hd => rfl); (case hg => rfl); (case hr => first | (go_simp; done) | (go_simp; rfl)); intro gb391 hg w103 hbox hb; have BK391 := Aside0.mk hbox; have GW391 := Aside0.mk ((by rw [hg]; exact (by first | exact HK.out.1 | exact (show Kept w _ (fun k_ => (P1_1_ k_) ∨ k_ = g) from by repeat (first | (with_reducible first | exact HK.out | apply Kept.alloc | apply Kept.drewN | apply Kept.drew | refine Kept.setCell ?_ (.inl (.inr rfl)) _) | exact HK.out)).1) : w.heap.size ≤ gb391)); have GE391 := Aside0.mk ((by rw [hg]; exact (below_size (bw115_)) : w0.heap.size ≤ gb391)); have NB0_391 := Aside0.mk ((by rw [hg]; exact Nat.ne_of_lt (IsS115.lt (show IsS115 w0 _ g s0_0 s0_1 s0_2 from is115_)) : g ≠ gb391)); have NB391_0 := Aside0.mk ((by rw [hg]; exact Nat.ne_of_gt (IsS115.lt (show IsS115 w0 _ g s0_0 s0_1 s0_2 from is115_)) : gb391 ≠ g)); replace HO1_1 := rb_ HO1_1 hb; replace HK := Aside0.mk (Kept.below (S := (fun k_ => (P1_1_ k_) ∨ k_ = g)) (kz_ HK) hb); replace HB := bs115_ hb; replace HI0 := Aside0.mk (IsS115.below is115_ hb); clear hb hbox hg) | ((with_reducible refine gate_dst (N := 4) rfl ?_); refine box_event ?hg (N := 4) ?hd (cs := #[.int .i64 0, .slice none 0 0]) (t := 30) ?hr ?_; (case hd => rfl); (case hg => rfl); (case hr => first | (go_simp; done) | (go_simp; rfl)); intro gb392 hg w104 hbox hb; have BK392 := Aside0.mk hbox; have GW392 := Aside0.mk ((by rw [hg]; exact (by first | exact HK.out.1 | exact (show Kept w _ (fun k_ => (P1_1_ k_) ∨ k_ = g) from by repeat (first | (with_reducible first | exact HK.out | apply Kept.alloc | apply Kept.drewN | apply Kept.drew | refine Kept.setCell ?_ (.inl (.inr rfl)) _ | refine Kept.setCell ?_ (.inr GW391.out) _) | exact HK.out)).1) : w.heap.size ≤ gb392)); have GE392 := Aside0.mk ((by rw [hg]; exact (below_size (bw115_)) : w0.heap.size ≤ gb392)); have NB391_392 := nl_ BK391 hg; have NB392_391 := ng_ BK391 hg; have NB0_392 := Aside0.mk ((by rw [hg]; exact Nat.ne_of_lt (IsS115.lt (show IsS115 w0 _ g s0_0 s0_1 s0_2 from is115_)) : g ≠ gb392)); have NB392_0 := Aside0.mk ((by rw [hg]; exact Nat.ne_of_gt (IsS115.lt (show IsS115 w0 _ g s0_0 s0_1 s0_2 from is115_)) : gb392 ≠ g)); replace HO1_1 := rb_ HO1_1 hb; replace HK := Aside0.mk (Kept.below (S := (fun k_ => (P1_1_ k_) ∨ k_ = g)) (kz_ HK) hb); replace HB := bs115_ hb; replace BK391 := ab_ BK391 hb; replace HI0 := Aside0.mk (IsS115.below is115_ hb); clear hb hbox hg) | ((with_reducible refine gate_callee (f := 68) rfl ?_); refine gl_ (some 7) Try.func68 #[.pointer (some ⟨g, 0, none⟩), .int .i64 4] ?_; (with_reducible refine (spec_l01Below.calls g s0_0 s0_1 s0_2 4 t393 t394 t395 w0 _ ?side1 ?side2 A3.out).mono ?_); (case side1 => exact is115_); (case side2 => exact bw115_); rintro e w105 ⟨rfl, hi, hb, hk⟩; refine ⟨_, rfl, ?_⟩; replace HO1_1 := ak115_ HO1_1 (show IsS115 w0 _ g s0_0 s0_1 s0_2 from is115_) hk; replace BK391 := kb_ BK391 NB391_0 hk; replace BK392 := kb_ BK392 NB392_0 hk; replace HK := Aside0.mk (Kept.of_keep (S := (fun k_ => (P1_1_ k_) ∨ k_ = g)) (kz_ HK) hk (.inl (.inr rfl))); replace HB := Aside0.mk (hb); replace HI0 := Aside0.mk (hi); (try clear hb); (try clear hb2); (try clear hk); (try clear hi); have hnb106 := NB391_392.out; have hnc106 := NB392_391.out; have hnb107 := NB391_0.out; have hnc107 := NB0_391.out; have hcz108_0 := cz_ BK391 0 (.int .i64 a1_0); have hcz108_1 := cz_ BK391 1 (.slice Ao102 l1_1.length co102); have hfz108_0 := fz_ BK391 0; have hfz108_1 := fz_ BK391 1; have hnb109 := NB392_0.out; have hnc109 := NB0_392.out; have hcz110_0 := cz_ BK392 0 (.int .i64 0); have hcz110_1 := cz_ BK392 1 (.slice none 0 0); have hfz110_0 := fz_ BK392 0; have hfz110_1 := fz_ BK392 1))
  refine bodyPost_ret (results_cell_row rfl _ _ gb392 30 #[.int .i64 a1_0, .slice Ao102 l1_1.length co102] (0, 0) _ rfl (by refine bd_ ?_; refine blk_put (cs := #[.int .i64 a1_0, .slice none 0 0]) ?_ 1 _ rfl; refine bd_ ?_; refine blk_put (cs := #[.int .i64 0, .slice none 0 0]) ?_ 0 _ rfl; refine bd_ ?_; exact BK392.out) Try.underlying30 rfl (by kernel_rfl)) rfl ?_
  exact ⟨_, by first | rfl | (simp [errW_none, errW_some] <;> rfl) | (simp [*, errW_none, errW_some] <;> rfl), by (with_reducible repeat (first | apply Kd.R_alloc | apply Kd.R_drewN | apply Kd.R_drew)); exact Kd.R_mono (Kd.R_far (p := ⟨gb392, 1, none⟩) (Kd.R_far (p := ⟨gb392, 0, none⟩) (Kd.R_types HO1_1.out BK392.out (by decide)) (fun _ hk => hk.2) (.int .i64 a1_0)) (fun _ hk => hk.2) (.slice Ao102 l1_1.length co102)) (fun _ hk => hk.1), is115_, bw115_, kz_ HK⟩
 rw [if_pos c83] at H
 have c83b0 : decide (0 < (l1_1.length : Int)) = true := decide_eq_true c83
 have c83b1 : decide (0 < l1_1.length) = true := decide_eq_true (by omega)
 clear c83
 replace H := Option.bind_eq_some_iff.mp H
 obtain ⟨⟨t416, t417, t418⟩, A840, H⟩ := H
 have A84 := Aside0.mk A840
 clear A840
 obtain ⟨c85b0, H⟩ := iq_ H
 obtain ⟨c86b0, H⟩ := iq_ H
 obtain ⟨y420, hy420⟩ : ∃ y_ : List (S76), y_ = (l1_1.set (t416 : Int).toNat (⟨(rd_T76 l1_1 t416).f0, (rd_T76 l1_1 t416).f0, (rd_T76 l1_1 t416).f2⟩ : S76)) := ⟨_, rfl⟩
 replace H : (some (a1_0, y420, t417, t418)) = some (r1, r2, r3, r4) := by first | (rw [hy420]; with_reducible exact H) | (have H2_ := (Option.bind_some _ _).symm.trans H; rw [hy420]; with_reducible exact H2_) | (have H2_ := (Option.bind_some _ _).symm.trans H; with_reducible exact H2_) | with_reducible exact H | (rw [hy420]; exact H) | exact H
 have Ny420 := Aside0.mk hy420
 clear hy420
 simp only [Option.some.injEq, Prod.mk.injEq] at H
 obtain ⟨rfl, rfl, rfl, rfl⟩ := H
 obtain ⟨Ao88, co88, eo88⟩ := Kd.R_slice HO1_1.out
 subst eo88
 go_enter Try.func85, Try.ntmps85
 try go_wp2_with (first | ((with_reducible refine gate_dst (N := 3) rfl ?_); refine box_event ?hg (N := 3) ?hd (cs := #[.int .i64 a1_0, .slice Ao88 l1_1.length co88]) (t := 30) ?hr ?_; (case hd => rfl); (case hg => rfl); (case hr => first | (go_simp; done) | (go_simp; rfl)); intro gb391 hg w89 hbox hb; have BK391 := Aside0.mk hbox; have GW391 := Aside0.mk ((by rw [hg]; exact (by first | exact HK.out.1 | exact (show Kept w _ (fun k_ => (P1_1_ k_) ∨ k_ = g) from by repeat (first | (with_reducible first | exact HK.out | apply Kept.alloc | apply Kept.drewN | apply Kept.drew | refine Kept.setCell ?_ (.inl (.inr rfl)) _) | exact HK.out)).1) : w.heap.size ≤ gb391)); have GE391 := Aside0.mk ((by rw [hg]; exact (below_size (bw115_)) : w0.heap.size ≤ gb391)); have NB0_391 := Aside0.mk ((by rw [hg]; exact Nat.ne_of_lt (IsS115.lt (show IsS115 w0 _ g s0_0 s0_1 s0_2 from is115_)) : g ≠ gb391)); have NB391_0 := Aside0.mk ((by rw [hg]; exact Nat.ne_of_gt (IsS115.lt (show IsS115 w0 _ g s0_0 s0_1 s0_2 from is115_)) : gb391 ≠ g)); replace HO1_1 := rb_ HO1_1 hb; replace HK := Aside0.mk (Kept.below (S := (fun k_ => (P1_1_ k_) ∨ k_ = g)) (kz_ HK) hb); replace HB := bs115_ hb; replace HI0 := Aside0.mk (IsS115.below is115_ hb); clear hb hbox hg) | ((with_reducible refine gate_dst (N := 4) rfl ?_); refine box_event ?hg (N := 4) ?hd (cs := #[.int .i64 0, .slice none 0 0]) (t := 30) ?hr ?_; (case hd => rfl); (case hg => rfl); (case hr => first | (go_simp; done) | (go_simp; rfl)); intro gb392 hg w90 hbox hb; have BK392 := Aside0.mk hbox; have GW392 := Aside0.mk ((by rw [hg]; exact (by first | exact HK.out.1 | exact (show Kept w _ (fun k_ => (P1_1_ k_) ∨ k_ = g) from by repeat (first | (with_reducible first | exact HK.out | apply Kept.alloc | apply Kept.drewN | apply Kept.drew | refine Kept.setCell ?_ (.inl (.inr rfl)) _ | refine Kept.setCell ?_ (.inr GW391.out) _) | exact HK.out)).1) : w.heap.size ≤ gb392)); have GE392 := Aside0.mk ((by rw [hg]; exact (below_size (bw115_)) : w0.heap.size ≤ gb392)); have NB391_392 := nl_ BK391 hg; have NB392_391 := ng_ BK391 hg; have NB0_392 := Aside0.mk ((by rw [hg]; exact Nat.ne_of_lt (IsS115.lt (show IsS115 w0 _ g s0_0 s0_1 s0_2 from is115_)) : g ≠ gb392)); have NB392_0 := Aside0.mk ((by rw [hg]; exact Nat.ne_of_gt (IsS115.lt (show IsS115 w0 _ g s0_0 s0_1 s0_2 from is115_)) : gb392 ≠ g)); replace HO1_1 := rb_ HO1_1 hb; replace HK := Aside0.mk (Kept.below (S := (fun k_ => (P1_1_ k_) ∨ k_ = g)) (kz_ HK) hb); replace HB := bs115_ hb; replace BK391 := ab_ BK391 hb; replace HI0 := Aside0.mk (IsS115.below is115_ hb); clear hb hbox hg) | ((with_reducible refine gate_callee (f := 68) rfl ?_); refine gl_ (some 7) Try.func68 #[.pointer (some ⟨g, 0, none⟩), .int .i64 4] ?_; (with_reducible refine (spec_l01Below.calls g s0_0 s0_1 s0_2 4 t393 t394 t395 w0 _ ?side1 ?side2 A3.out).mono ?_); (case side1 => exact is115_); (case side2 => exact bw115_); rintro e w91 ⟨rfl, hi, hb, hk⟩; refine ⟨_, rfl, ?_⟩; replace HO1_1 := ak115_ HO1_1 (show IsS115 w0 _ g s0_0 s0_1 s0_2 from is115_) hk; replace BK391 := kb_ BK391 NB391_0 hk; replace BK392 := kb_ BK392 NB392_0 hk; replace HK := Aside0.mk (Kept.of_keep (S := (fun k_ => (P1_1_ k_) ∨ k_ = g)) (kz_ HK) hk (.inl (.inr rfl))); replace HB := Aside0.mk (hb); replace HI0 := Aside0.mk (hi); (try clear hb); (try clear hb2); (try clear hk); (try clear hi); have hnb92 := NB391_392.out; have hnc92 := NB392_391.out; have hnb93 := NB391_0.out; have hnc93 := NB0_391.out; have hcz94_0 := cz_ BK391 0 (.int .i64 a1_0); have hcz94_1 := cz_ BK391 1 (.slice Ao88 l1_1.length co88); have hfz94_0 := fz_ BK391 0; have hfz94_1 := fz_ BK391 1) | ((with_reducible refine gate_callee (f := 68) rfl ?_); refine gl_ (some 60) Try.func68 #[.pointer (some ⟨g, 0, none⟩), .int .i64 (l1_1.length : Int)] ?_; (with_reducible refine (spec_l01Below.calls g s0_0 t394 t395 (l1_1.length : Int) t416 t417 t418 w0 _ ?side1 ?side2 A84.out).mono ?_); (case side1 => exact is115_); (case side2 => exact bw115_); rintro e w95 ⟨rfl, hi, hb, hk⟩; refine ⟨_, rfl, ?_⟩; replace HO1_1 := ak115_ HO1_1 (show IsS115 w0 _ g s0_0 t394 t395 from is115_) hk; replace BK391 := kb_ BK391 NB391_0 hk; replace BK392 := kb_ BK392 NB392_0 hk; replace HK := Aside0.mk (Kept.of_keep (S := (fun k_ => (P1_1_ k_) ∨ k_ = g)) (kz_ HK) hk (.inl (.inr rfl))); replace HB := Aside0.mk (hb); replace HI0 := Aside0.mk (hi); (try clear hb); (try clear hb2); (try clear hk); (try clear hi)))
 replace HO1_1 := Aside0.mk (Kd.R_drew HO1_1.out)
 replace BK391 := ad_ BK391
 replace BK392 := ad_ BK392
 replace HI0 := Aside0.mk (IsS115.drew HI0.out)
 replace HK := Aside0.mk (Kept.drew HK.out)
 replace HB := Aside0.mk (below_drew1 HB.out)
 have p419 : 0 ≤ (t416 : Int) := oa_
 have q419 : t416 < (l1_1.length : Int) := oa_
 obtain ⟨ad419, e419, hx419_0, hx419_1, hx419_2⟩ := at_T76 (Kd.R_reads' HO1_1.out).2.2 t416 p419 q419
 cases e419
 replace p419 := eq_true p419
 replace q419 := eq_true q419
 have p87 : 0 ≤ (t416 : Int) := oa_
 have q87 : (t416 : Int) < ((l1_1.length : Int) : Int) := oa_
 obtain ⟨go87, co87, eo87, gb87, gl87, cl87, HG87⟩ := Kd.R_form HO1_1.out (by omega)
 (first | cases eo87 | (injection eo87 with ea_ en_ ec_; (first | subst ea_ | (injection ea_ with ea_; subst ea_)); subst ec_; clear en_))
 have GB87 := Aside0.mk gb87
 have GG87 := Aside0.mk HG87
 clear gb87 gl87 HG87
 have HMgo87 := Aside0.mk (show (P1_1_ go87 ∨ w.heap.size ≤ go87) from (HO1_1.out.1 _ rfl))
 (first | simp only [add_plain] at hx419_0 | skip)
 (first | simp only [add_plain] at hx419_1 | skip)
 (first | simp only [add_plain] at hx419_2 | skip)
 obtain ⟨ce87, hcl87, hM87, hcc87, hfr87⟩ := Kd.R_elem HO1_1.out z76 (t416 : Int) p87 q87
 obtain rfl := k76_openM hM87
 have hx87_0 : World.cell? _ ⟨go87, (t416 : Int).toNat * 3, none⟩ = some (.int .i64 ((rd_T76 l1_1 t416).f0)) := hcc87 0 _ rfl
 have hx87_1 : World.cell? _ ⟨go87, (t416 : Int).toNat * 3 + 1, none⟩ = some (.int .i64 ((rd_T76 l1_1 t416).f1)) := hcc87 1 _ rfl
 have hx87_2 : World.cell? _ ⟨go87, (t416 : Int).toNat * 3 + 2, none⟩ = some (.int .i64 ((rd_T76 l1_1 t416).f2)) := hcc87 2 _ rfl
 have hf87_0 : World.frozen? _ ⟨go87, (t416 : Int).toNat * 3, none⟩ = false := hfr87 0
 have hf87_1 : World.frozen? _ ⟨go87, (t416 : Int).toNat * 3 + 1, none⟩ = false := hfr87 1
 have hf87_2 : World.frozen? _ ⟨go87, (t416 : Int).toNat * 3 + 2, none⟩ = false := hfr87 2
 clear hcl87 hcc87 hfr87 hM87
 replace p87 := eq_true p87
 replace q87 := eq_true q87
 have HN0_go87 := Aside0.mk (show g ≠ go87 from by have h_ := IsS115.own_ne HI0.out HO1_1.out (by decide); intro e_; exact h_ (by rw [e_]; rfl))
 obtain ⟨ce97, hcl97, hM97, hcc97, hfr97⟩ := Kd.R_elem HO1_1.out z76 (t416 : Int) oa_ (by have h_ : (t416 : Int) < ((l1_1.length : Int) : Int) := oa_; first | exact h_ | (have e_ := (Kd.R_reads' HO1_1.out).1; omega) | simpa using h_)
 obtain rfl := k76_openM hM97
 have HP97 := (Kd.R_seg HO1_1.out (t416 : Int) oa_ (by have h_ : (t416 : Int) < ((l1_1.length : Int) : Int) := oa_; first | exact h_ | (have e_ := (Kd.R_reads' HO1_1.out).1; omega) | simpa using h_) (seg := [.int .i64 ((rd_T76 l1_1 t416).f0)]) (j := 1) hcl97 hcc97 (show 2 ≤ 3 from by decide) (x' := (⟨(rd_T76 l1_1 t416).f0, (rd_T76 l1_1 t416).f0, (rd_T76 l1_1 t416).f2⟩ : S76)) (k76_mkM _ _ _ (⟨(rd_T76 l1_1 t416).f0, (rd_T76 l1_1 t416).f0, (rd_T76 l1_1 t416).f2⟩ : S76) ) (fun _ hk => hk)).1
 rw [← Ny420.out] at HP97
 have HQ97 := Aside0.mk HP97
 clear hcl97 hcc97 hfr97 hM97 HP97
 refine start_ (n := 12) (S := fun w' => w'.cell? ⟨gb391, 0, none⟩ = some (.int .i64 a1_0) ∧ w'.cell? ⟨gb391, 1, none⟩ = some (.slice (some ⟨go87, 0, none⟩) l1_1.length co88) ∧ w'.cell? ⟨go87, ((t416).toNat * 3), none⟩ = some (.int .i64 ((rd_T76 l1_1 t416).f0)) ∧ w'.cell? ⟨go87, ((t416).toNat * 3) + 1, none⟩ = some (.int .i64 ((rd_T76 l1_1 t416).f1)) ∧ w'.cell? ⟨go87, ((t416).toNat * 3) + 2, none⟩ = some (.int .i64 ((rd_T76 l1_1 t416).f2))) (ds := [11]) ba15_26 (by kernel_rfl) rfl rfl ⟨(blk_cell BK391.out 0).trans rfl, (blk_cell BK391.out 1).trans rfl, hx419_0, hx419_1, hx419_2⟩ (fun hHeld => ?_); refine with_tabW spec_l03Bend.tab13 spec_l03Bend.bits13 (fun HT_ HW_ => ?_)
 generalize w95.drew = w96 at HO1_1 BK391 BK392 HI0 HK HB GG87 HQ97 hf87_0 hf87_1 hf87_2 hx419_0 hx419_1 hx419_2 hx87_0 hx87_1 hx87_2 hHeld ⊢
 refine pz_ 0 61 ba15_27 HT_ ?_
 refine pz_ 2 63 ba15_28 HT_ ?_
 refine pz_ 3 64 ba15_29 HT_ ?_
 refine pz_ 5 66 ba15_30 HT_ ?_
 refine pt_ 1 62 ba15_31 HT_ HW_ hHeld ?_
 refine pt_ 4 65 ba15_32 HT_ HW_ hHeld ?_
 refine pz_ 6 67 ba15_33 HT_ ?_
 refine pz_ 7 68 ba15_34 HT_ ?_
 refine pt_ 8 69 ba15_35 HT_ HW_ hHeld ?_
 refine pz_ 9 70 ba15_36 HT_ ?_
 refine pz_ 10 71 ba15_37 HT_ ?_
 refine last_ (i := 11) (N := none) ba15_38 rfl rfl (one_of HT_.out (by kernel_rfl)) (by decide) (fun K hK => ?_)
 refine skip_ (w1 := ?_) (by rfl) rfl ?_ ?_
 rotate_left; · go_simp; rfl
 refine hK.out _ _ ?_
 clear hK K
 refine done_ (done_of HT_.out (by kernel_rfl)) ?_
 have n0_ : Aside0 (Kd.R k76 76 (w96.setCell ⟨go87, (t416 : Int).toNat * 3 + 1, none⟩ (.int .i64 ((rd_T76 l1_1 t416).f0))) w0.heap.size (fun k_ => (P1_1_ k_ ∨ w.heap.size ≤ k_)) (.slice (some ⟨go87, 0, none⟩) l1_1.length co88) y420) := ⟨by (with_reducible repeat (first | apply Kd.R_alloc | apply Kd.R_drewN | apply Kd.R_drew)); exact HQ97.out⟩
 have n1_ : Aside0 ((w96.setCell ⟨go87, (t416 : Int).toNat * 3 + 1, none⟩ (.int .i64 ((rd_T76 l1_1 t416).f0))).heap[gb391]? = some (.cells #[.int .i64 a1_0, .slice (some ⟨go87, 0, none⟩) l1_1.length co88] 30 (0, 0))) := ⟨by refine bd_ ?_; refine blk_far ?_ (by have h_ := Kd.R_ne HO1_1.out BK391.out (by decide); intro e_; exact h_ (by rw [e_]; rfl)) _; refine bd_ ?_; exact BK391.out⟩
 have n2_ : Aside0 ((w96.setCell ⟨go87, (t416 : Int).toNat * 3 + 1, none⟩ (.int .i64 ((rd_T76 l1_1 t416).f0))).heap[gb392]? = some (.cells #[.int .i64 0, .slice none 0 0] 30 (0, 0))) := ⟨by refine bd_ ?_; refine blk_far ?_ (by have h_ := Kd.R_ne HO1_1.out BK392.out (by decide); intro e_; exact h_ (by rw [e_]; rfl)) _; refine bd_ ?_; exact BK392.out⟩
 have n3_ : Aside0 (IsS115 w0 (w96.setCell ⟨go87, (t416 : Int).toNat * 3 + 1, none⟩ (.int .i64 ((rd_T76 l1_1 t416).f0))) g s0_0 t417 t418) := ⟨by repeat (first | (with_reducible first | exact HI0.out | apply IsS115.alloc | apply IsS115.drewN | apply IsS115.drew | apply IsS115.set_1 | apply IsS115.set_2 | refine IsS115.far ?_ HN0_go87.out _ | refine IsS115.far ?_ NB0_391.out _ | refine IsS115.far ?_ NB0_392.out _) | exact HI0.out)⟩
 have n4_ : Aside0 (Kept w (w96.setCell ⟨go87, (t416 : Int).toNat * 3 + 1, none⟩ (.int .i64 ((rd_T76 l1_1 t416).f0))) (fun k_ => (P1_1_ k_) ∨ k_ = g)) := ⟨by repeat (first | (with_reducible first | exact HK.out | apply Kept.alloc | apply Kept.drewN | apply Kept.drew | refine Kept.setCell ?_ (Or.imp_left Or.inl HMgo87.out) _ | refine Kept.setCell ?_ (.inl (.inr rfl)) _ | refine Kept.setCell ?_ (.inr GW391.out) _ | refine Kept.setCell ?_ (.inr GW392.out) _) | exact HK.out)⟩
 have n5_ : Aside0 (Below w0.heap.size w0 (w96.setCell ⟨go87, (t416 : Int).toNat * 3 + 1, none⟩ (.int .i64 ((rd_T76 l1_1 t416).f0)))) := ⟨by repeat (first | (with_reducible first | exact HB.out | apply below_alloc | apply pw_below_drewN | apply below_drew1 | refine below_set ?_ GB87.out | refine below_set ?_ (IsS115.ge HI0.out) | refine below_set ?_ GE391.out | refine below_set ?_ GE392.out) | exact HB.out)⟩
 (try clear HO1_1)
 (try clear BK391)
 (try clear BK392)
 (try clear HI0)
 (try clear HK)
 (try clear HB)
 generalize (w96.setCell ⟨go87, (t416 : Int).toNat * 3 + 1, none⟩ (.int .i64 ((rd_T76 l1_1 t416).f0))) = w98 at n0_ n1_ n2_ n3_ n4_ n5_ ⊢
 have HO1_1 := n0_
 have BK391 := n1_
 have BK392 := n2_
 have HI0 := n3_
 have HK := n4_
 have HB := n5_
 clear n0_ n1_ n2_ n3_ n4_ n5_
 have hcz99_0 := cz_ BK391 0 (.int .i64 a1_0)
 have hcz99_1 := cz_ BK391 1 (.slice (some ⟨go87, 0, none⟩) l1_1.length co88)
 have hfz99_0 := fz_ BK391 0
 have hfz99_1 := fz_ BK391 1
 have hnb100 := NB392_0.out
 have hnc100 := NB0_392.out
 have hcz101_0 := cz_ BK392 0 (.int .i64 0)
 have hcz101_1 := cz_ BK392 1 (.slice none 0 0)
 have hfz101_0 := fz_ BK392 0
 have hfz101_1 := fz_ BK392 1
 try go_wp2
 refine bodyPost_ret (results_cell_row rfl _ _ gb392 30 #[.int .i64 a1_0, .slice (some ⟨go87, 0, none⟩) l1_1.length co88] (0, 0) _ rfl (by refine bd_ ?_; refine blk_put (cs := #[.int .i64 a1_0, .slice none 0 0]) ?_ 1 _ rfl; refine bd_ ?_; refine blk_put (cs := #[.int .i64 0, .slice none 0 0]) ?_ 0 _ rfl; refine bd_ ?_; exact BK392.out) Try.underlying30 rfl (by kernel_rfl)) rfl ?_
 exact ⟨_, by first | rfl | (simp [errW_none, errW_some] <;> rfl) | (simp [*, errW_none, errW_some] <;> rfl), by (with_reducible repeat (first | apply Kd.R_alloc | apply Kd.R_drewN | apply Kd.R_drew)); exact Kd.R_mono (Kd.R_far (p := ⟨gb392, 1, none⟩) (Kd.R_far (p := ⟨gb392, 0, none⟩) (Kd.R_types HO1_1.out BK392.out (by decide)) (fun _ hk => hk.2) (.int .i64 a1_0)) (fun _ hk => hk.2) (.slice (some ⟨go87, 0, none⟩) l1_1.length co88)) (fun _ hk => hk.1), is115_, bw115_, kz_ HK⟩

end Go.Proofs.Ythmahcohcphljaa.QFnShares
