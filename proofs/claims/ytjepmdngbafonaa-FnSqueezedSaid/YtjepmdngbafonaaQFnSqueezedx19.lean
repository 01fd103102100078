/- Contracts of functions that the law reaches: what each call returns and what it leaves in memory. Made by this session over the print of the kit. -/
import Derived.Test.YtjepmdngbafonaaQFnSqueezedx0
import Derived.Test.YtjepmdngbafonaaQFnSqueezedx6
import Derived.Test.YtjepmdngbafonaaQFnSqueezedx18
namespace Go.Proofs.Ytjepmdngbafonaa.QFnSqueezed
open Go.RowKit Go.Proofs.YtjepmdngbafonaaZ.PrintWords Go.Proofs.YtjepmdngbafonaaZ.PrintLast Go.Proofs.YtjepmdngbafonaaZ.PrintMore
attribute [local go_sem] max2_int min2_int max_two min_two max_three min_three max_four min_four   -- for this text's walks alone
set_option linter.unusedVariables false
set_option linter.unusedSimpArgs false
def ba19_0 := bs_ 17 0
def ba19_1 := bs_ 17 1
def ba19_2 := bs_ 17 3
def ba19_3 := bs_ 17 7
def ba19_4 := bs_ 17 15
def ba19_5 := bs_ 17 31
def ba19_6 := bs_ 17 63
def ba19_7 := bs_ 17 127
def ba19_8 := bs_ 17 255
def ba19_9 := bs_ 17 767
def ba19_10 := bs_ 17 1791
def ba19_11 := bs_ 17 3839
def ba19_12 := bs_ 17 7935
def ba19_13 := bs_ 17 8191
def ba19_14 := bs_ 17 16383
def ba19_15 := bs_ 17 32767
def ba19_16 := bs_ 17 65535
def ba19_17 := bs_ 17 131071
def ba19_18 := bs_ 18 0
def ba19_19 := bs_ 18 1
def ba19_20 := bs_ 18 3
def ba19_21 := bs_ 18 7
def ba19_22 := bs_ 18 15
def ba19_23 := bs_ 18 31
def ba19_24 := bs_ 18 63
def ba19_25 := bs_ 18 127
def ba19_26 := bs_ 18 255
def ba19_27 := bs_ 18 511
def ba19_28 := bs_ 18 1535
def ba19_29 := bs_ 18 3583
def ba19_30 := bs_ 18 7679
def ba19_31 := bs_ 18 8191
def ba19_32 := bs_ 18 16383
def ba19_33 := bs_ 18 32767
def ba19_34 := bs_ 18 65535
def ba19_35 := bs_ 18 131071
def ba19_36 := bs_ 18 262143
def ba19_37 := bs_ 17 511
def ba19_38 := bs_ 17 1023
def ba19_39 := bs_ 17 2047
def ba19_40 := bs_ 17 4095

/-! ### slices_insertionSortCmpFunc_impl_Route: function 125 -/
mutual
def slices_insertionSortCmpFunc_impl_Route.l0 : Nat → List (S30) → Int → Int → Int → Option ((List (S30)))
 | 0, _, _, _, _ => none
 | k + 1, x0, x1, x2, x8 => if x8 < x2 then (slices_insertionSortCmpFunc_impl_Route.l1 k x0 x1 x2 x8 x8) else (some x0)
def slices_insertionSortCmpFunc_impl_Route.l1 : Nat → List (S30) → Int → Int → Int → Int → Option ((List (S30)))
 | 0, _, _, _, _, _ => none
 | k + 1, x0, x1, x2, x8, x9 => if x9 > x1 then (if 0 ≤ x9 then (if x9 < (x0.length : Int) then (if 0 ≤ (wrap64 (x9 - 1)) then (if (wrap64 (x9 - 1)) < (x0.length : Int) then ((impl_hopsOf_1.f ((rd_T30 x0 x9).f0.f0) ((rd_T30 x0 x9).f0.f1) ((rd_T30 x0 x9).f1) ((rd_T30 x0 (wrap64 (x9 - 1))).f0.f0) ((rd_T30 x0 (wrap64 (x9 - 1))).f0.f1) ((rd_T30 x0 (wrap64 (x9 - 1))).f1)).bind fun t458 => (if t458 < 0 then (slices_insertionSortCmpFunc_impl_Route.l1 k ((x0.set (x9 : Int).toNat (⟨(⟨(rd_T30 x0 (wrap64 (x9 - 1))).f0.f0, (rd_T30 x0 (wrap64 (x9 - 1))).f0.f1⟩ : S28), (rd_T30 x0 (wrap64 (x9 - 1))).f1⟩ : S30)).set ((wrap64 (x9 - 1)) : Int).toNat (⟨(⟨(rd_T30 x0 x9).f0.f0, (rd_T30 x0 x9).f0.f1⟩ : S28), (rd_T30 x0 x9).f1⟩ : S30)) x1 x2 x8 (wrap64 (x9 - 1))) else (slices_insertionSortCmpFunc_impl_Route.l0 k x0 x1 x2 (wrap64 (x8 + 1))))) else (none)) else (none)) else (none)) else (none)) else (slices_insertionSortCmpFunc_impl_Route.l0 k x0 x1 x2 (wrap64 (x8 + 1)))
end
def slices_insertionSortCmpFunc_impl_Route.f (k : Nat) (l0 : List (S30)) (a1 : Int) (a2 : Int)  : Option ((List (S30))) := slices_insertionSortCmpFunc_impl_Route.l0 k l0 a1 a2 (wrap64 (a1 + 1))
def slices_insertionSortCmpFunc_impl_Route.T4 : Bool × List (List Nat × List Nat) := (true, [([], []), ([], []), ([0, 1], [0, 1]), ([2], [2]), ([3], [3]), ([3], [3]), ([3], [3]), ([5, 6, 3], [3, 5, 6]), ([7, 3], [3, 7]), ([3], [3]), ([3], [3]), ([10, 3], [3, 10]), ([9, 11, 3], [3, 9, 11]), ([12, 3], [3, 12]), ([4, 8, 13, 3, 3], [3, 4, 8, 13]), ([14, 3], [3, 14]), ([3, 15], [3, 15])])
def slices_insertionSortCmpFunc_impl_Route.B4 : List Nat := [0, 0, 3, 7, 15, 15, 15, 111, 239, 15, 15, 1039, 3599, 7695, 16383, 32767, 65535]
theorem slices_insertionSortCmpFunc_impl_Route.tab4 : rtab .any (opsOf Try.f125 4) = slices_insertionSortCmpFunc_impl_Route.T4 := by kernel_rfl
theorem slices_insertionSortCmpFunc_impl_Route.bits4 : waitsOk slices_insertionSortCmpFunc_impl_Route.T4.2 slices_insertionSortCmpFunc_impl_Route.B4 = true := by kernel_rfl
def slices_insertionSortCmpFunc_impl_Route.T6 : Bool × List (List Nat × List Nat) := (true, [([], []), ([], []), ([], []), ([], []), ([3], [3]), ([], []), ([], []), ([6], [6]), ([5, 7], [5, 7]), ([8], [8]), ([], []), ([], []), ([10, 11], [10, 11]), ([12], [12]), ([0, 1, 0, 1, 5, 6, 7, 8, 9, 13], [0, 1]), ([14, 9, 0, 1, 5, 6, 7, 8, 9, 13], [9, 14]), ([2, 4, 0, 1, 2, 3, 4, 5, 6, 7, 8, 9, 10, 11, 12, 13, 14, 15], [2, 4]), ([16, 13, 15, 0, 1, 2, 3, 4, 5, 6, 7, 8, 9, 10, 11, 12, 13, 14, 15], [13, 16])])
def slices_insertionSortCmpFunc_impl_Route.B6 : List Nat := [0, 0, 0, 0, 8, 0, 0, 64, 224, 480, 0, 0, 3072, 7168, 16355, 32739, 65535, 131071]
theorem slices_insertionSortCmpFunc_impl_Route.tab6 : rtab .any (opsOf Try.f125 6) = slices_insertionSortCmpFunc_impl_Route.T6 := by kernel_rfl
theorem slices_insertionSortCmpFunc_impl_Route.bits6 : waitsOk slices_insertionSortCmpFunc_impl_Route.T6.2 slices_insertionSortCmpFunc_impl_Route.B6 = true := by kernel_rfl
set_option maxHeartbeats 8000000 in
set_option maxRecDepth 100000 in
theorem slices_insertionSortCmpFunc_impl_Route.calls (k : Nat) (P0_ : Nat → Prop) (u9000_ : Value) (l0 : List (S30)) (a1 : Int) (a2 : Int)  (r : List (S30)) (w0 w : World) (hB : Below w0.heap.size w0 w) (ho0 : Kd.R k30 30 w w0.heap.size P0_ u9000_ l0) (h : slices_insertionSortCmpFunc_impl_Route.f k l0 a1 a2 = some r) :
  Calls Try.prog 125 #[u9000_, .int .i64 a1, .int .i64 a2, .func (.func 101) #[] #[]] w fun e w' => e = .returned (.tuple #[]) ∧ Kd.R k30 30 w' w0.heap.size (fun k_ => (P0_ k_ ∨ w.heap.size ≤ k_)) u9000_ r ∧ Below w0.heap.size w0 w' ∧ Kept w w' (fun k_ => P0_ k_) := by
 have hu30 := Try.underlying30
 have HO0 := Aside0.mk (show Kd.R k30 30 w w0.heap.size (fun k_ => (P0_ k_ ∨ w.heap.size ≤ k_)) u9000_ l0 from Kd.R_mono ho0 (fun k_ hk => (.inl hk)))
 have HK := Aside0.mk (Kept.refl w (fun k_ => P0_ k_))
 have HW0 := Aside0.mk hB.size
 have HB := Aside0.mk hB
 clear hB
 have H : (slices_insertionSortCmpFunc_impl_Route.l0 k l0 a1 a2 (wrap64 (a1 + 1))) = some r := h
 clear h
 have H' := Aside0.mk H
 clear H
 go_enter Try.func125, Try.ntmps125
 go_wp2
 go_loopg [8] k (fun kq v8 w' => ∃ (x0_1 : List (S30)) (x8_1 : Int), v8 = .int .i64 x8_1 ∧ Aside0 (slices_insertionSortCmpFunc_impl_Route.l0 kq x0_1 a1 a2 x8_1 = some r) ∧ Aside0 (kq ≤ k) ∧ Aside0 (Kd.R k30 30 w' w0.heap.size (fun k_ => (P0_ k_ ∨ w.heap.size ≤ k_)) u9000_ x0_1) ∧ Aside0 (Kept w w' (fun k_ => P0_ k_)) ∧ Aside0 (Below w0.heap.size w0 w'))
 case atStart => exact ⟨(l0), (wrap64 (a1 + 1)), er_, H', ⟨Nat.le_refl _⟩, ⟨hd_ HO0⟩, ⟨ky_ HK⟩, ⟨bw112_⟩⟩
 case round =>
  clear H'
  obtain ⟨x0_1, x8_1, rfl, HA, HK1, HO_0, HK, HB⟩ := hrel
  cases gk with
  | zero => exact absurd HA.out (by simp [slices_insertionSortCmpFunc_impl_Route.l0])
  | succ k1 =>
   have H := HA.out
   clear HA
   simp only [slices_insertionSortCmpFunc_impl_Route.l0] at H
   by_cases c5 : x8_1 < a2
   rotate_left
   ·rw [if_neg c5] at H
    have c5b0 : decide (x8_1 < a2) = false := decide_eq_false c5
    clear c5
    obtain rfl := Option.some.inj H
    go_wp2
    first | go_end0 | ((try simp only [Exit.inBlock, Exit.then]); refine bodyPost_ret (results_none rfl _ _ _) rfl ?_)
    exact ⟨by first | rfl | (simp [errW_none, errW_some] <;> rfl) | (simp [*, errW_none, errW_some] <;> rfl), by (with_reducible repeat (first | apply Kd.R_alloc | apply Kd.R_drewN | apply Kd.R_drew)); exact HO_0.out, bw112_, ky_ HK⟩
   rw [if_pos c5] at H
   have c5b0 : decide (x8_1 < a2) = true := decide_eq_true c5
   clear c5
   have H' := Aside0.mk H
   clear H
   go_wp2
   go_loopg [9] k1 (fun kq v9 w' => ∃ (x0_2 : List (S30)) (x9_2 : Int), v9 = .int .i64 x9_2 ∧ Aside0 (slices_insertionSortCmpFunc_impl_Route.l1 kq x0_2 a1 a2 x8_1 x9_2 = some r) ∧ Aside0 (kq ≤ k1) ∧ Aside0 (Kd.R k30 30 w' w0.heap.size (fun k_ => (P0_ k_ ∨ w.heap.size ≤ k_)) u9000_ x0_2) ∧ Aside0 (Kept w w' (fun k_ => P0_ k_)) ∧ Aside0 (Below w0.heap.size w0 w'))
   case atStart => exact ⟨(x0_1), (x8_1), er_, H', ⟨Nat.le_refl _⟩, ⟨hd_ HO_0⟩, ⟨ky_ HK⟩, ⟨bw112_⟩⟩
   case round =>
    clear H' c5b0
    obtain ⟨x0_2, x9_2, rfl, HA, HK2, HO_0, HK, HB⟩ := hrel
    cases gk with
    | zero => exact absurd HA.out (by simp [slices_insertionSortCmpFunc_impl_Route.l1])
    | succ k2 =>
     have H := HA.out
     clear HA
     simp only [slices_insertionSortCmpFunc_impl_Route.l1] at H
     by_cases c6 : x9_2 > a1
     rotate_left
     ·rw [if_neg c6] at H
      have c6b0 : decide (a1 < x9_2) = false := decide_eq_false c6
      clear c6
      have H' := Aside0.mk H
      clear H
      go_wp2
      replace HO_0 := Aside0.mk (Kd.R_drew HO_0.out)
      replace HK := Aside0.mk (Kept.drew HK.out)
      replace HB := Aside0.mk (below_drew1 HB.out)
      refine start_ (n := 17) (S := fun w' => True) (ds := []) ba19_0 (by kernel_rfl) rfl rfl trivial (fun hHeld => ?_); refine with_tabW slices_insertionSortCmpFunc_impl_Route.tab4 slices_insertionSortCmpFunc_impl_Route.bits4 (fun HT_ HW_ => ?_)
      generalize wr.drew = w25 at HO_0 HK HB hHeld ⊢
      refine pz_ 0 18 ba19_1 HT_ ?_
      refine pz_ 1 19 ba19_2 HT_ ?_
      refine pz_ 2 20 ba19_3 HT_ ?_
      refine pz_ 3 21 ba19_4 HT_ ?_
      refine pu_ 4 22 ba19_5 HT_ ?_
      refine pu_ 5 23 ba19_6 HT_ ?_
      refine pu_ 6 24 ba19_7 HT_ ?_
      refine pu_ 7 25 ba19_8 HT_ ?_
      refine pu_ 8 26 ba19_37 HT_ ?_
      refine pu_ 9 27 ba19_38 HT_ ?_
      refine pu_ 10 28 ba19_39 HT_ ?_
      refine pu_ 11 29 ba19_40 HT_ ?_
      refine pu_ 12 30 ba19_13 HT_ ?_
      refine pu_ 13 31 ba19_14 HT_ ?_
      refine pu_ 14 32 ba19_15 HT_ ?_
      refine pu_ 15 33 ba19_16 HT_ ?_
      refine pz_ 16 34 ba19_17 HT_ ?_
      refine done_ (done_of HT_.out (by kernel_rfl)) ?_
      go_wp2
      go_roundg k2
      case measure => have := HK1.out; have := HK2.out; omega
      case rel => exact ⟨(x0_2), (wrap64 (x8_1 + 1)), er_, H', ⟨by have := HK1.out; have := HK2.out; omega⟩, ⟨hd_ HO_0⟩, ⟨ky_ HK⟩, ⟨bw112_⟩⟩
     rw [if_pos c6] at H
     have c6b0 : decide (a1 < x9_2) = true := decide_eq_true c6
     clear c6
     obtain ⟨c7b0, H⟩ := iq_ H
     obtain ⟨c8b0, H⟩ := iq_ H
     obtain ⟨ji9, hji9⟩ : ∃ j_ : Int, (wrap64 (x9_2 - 1)) = j_ := ⟨_, rfl⟩
     first | rw [hji9] at H | simp only [hji9] at H
     have hji9w : (IntKind.i64.wrap (x9_2 - 1)) = ji9 := (i64_w _).trans hji9
     obtain ⟨c10b0, H⟩ := iq_ H
     obtain ⟨c11b0, H⟩ := iq_ H
     obtain ⟨t458, A12, H⟩ := ob_ H
     have Hh_ := Aside0.mk H
     clear H
     go_wp2
     replace HO_0 := Aside0.mk (Kd.R_drew HO_0.out)
     replace HK := Aside0.mk (Kept.drew HK.out)
     replace HB := Aside0.mk (below_drew1 HB.out)
     obtain ⟨Ao17, co17, eo17⟩ := Kd.R_slice HO_0.out
     subst eo17
     have p456 : 0 ≤ (x9_2 : Int) := oa_
     have q456 : x9_2 < (x0_2.length : Int) := oa_
     obtain ⟨ad456, e456, hx456_0, hx456_1, hx456_2⟩ := at_T30 (Kd.R_reads' HO_0.out).2.2 x9_2 p456 q456
     cases e456
     obtain ⟨p456, q456⟩ := et_ p456 q456
     have p457 : 0 ≤ ((ji9) : Int) := oa_
     have q457 : (ji9) < (x0_2.length : Int) := oa_
     obtain ⟨ad457, e457, hx457_0, hx457_1, hx457_2⟩ := at_T30 (Kd.R_reads' HO_0.out).2.2 (ji9) p457 q457
     obtain rfl : ad456 = ad457 := (by injection e457)
     obtain ⟨p457, q457⟩ := et_ p457 q457
     refine start_ (n := 17) (S := fun w' => w'.cell? (ad456.add ((x9_2).toNat * 3)) = some (.int .i64 ((rd_T30 x0_2 x9_2).f0.f0)) ∧ w'.cell? ⟨(ad456.add ((x9_2).toNat * 3)).block, (ad456.add ((x9_2).toNat * 3)).off + 1, none⟩ = some (.int .i64 ((rd_T30 x0_2 x9_2).f0.f1)) ∧ w'.cell? ⟨(ad456.add ((x9_2).toNat * 3)).block, (ad456.add ((x9_2).toNat * 3)).off + 2, none⟩ = some (.int .i64 ((rd_T30 x0_2 x9_2).f1)) ∧ w'.cell? (ad456.add (((ji9)).toNat * 3)) = some (.int .i64 ((rd_T30 x0_2 (ji9)).f0.f0)) ∧ w'.cell? ⟨(ad456.add (((ji9)).toNat * 3)).block, (ad456.add (((ji9)).toNat * 3)).off + 1, none⟩ = some (.int .i64 ((rd_T30 x0_2 (ji9)).f0.f1)) ∧ w'.cell? ⟨(ad456.add (((ji9)).toNat * 3)).block, (ad456.add (((ji9)).toNat * 3)).off + 2, none⟩ = some (.int .i64 ((rd_T30 x0_2 (ji9)).f1))) (ds := []) ba19_0 (by kernel_rfl) rfl rfl ⟨hx456_0, hx456_1, hx456_2, hx457_0, hx457_1, hx457_2⟩ (fun hHeld => ?_); refine with_tabW slices_insertionSortCmpFunc_impl_Route.tab4 slices_insertionSortCmpFunc_impl_Route.bits4 (fun HT_ HW_ => ?_)
     generalize wr.drew = w16 at HO_0 HK HB hx456_0 hx456_1 hx456_2 hx457_0 hx457_1 hx457_2 hHeld ⊢
     refine pz_ 0 18 ba19_1 HT_ ?_
     refine pz_ 1 19 ba19_2 HT_ ?_
     refine pz_ 2 20 ba19_3 HT_ ?_
     refine pz_ 3 21 ba19_4 HT_ ?_
     refine pz_ 4 22 ba19_5 HT_ ?_
     refine pz_ 5 23 ba19_6 HT_ ?_
     refine pz_ 6 24 ba19_7 HT_ ?_
     refine pz_ 7 25 ba19_8 HT_ ?_
     refine pz_ 9 27 ba19_9 HT_ ?_
     refine pz_ 10 28 ba19_10 HT_ ?_
     refine pz_ 11 29 ba19_11 HT_ ?_
     refine pz_ 12 30 ba19_12 HT_ ?_
     refine pt_ 8 26 ba19_13 HT_ HW_ hHeld ?_
     refine pt_ 13 31 ba19_14 HT_ HW_ hHeld ?_
     refine on_ 14 (some 32) ba19_15 HT_ (fun K hK => ?_)
     refine goesU_ Try.func101 (by kernel_rfl) rfl #[.agg #[.int .i64 ((rd_T30 x0_2 x9_2).f0.f0), .int .i64 ((rd_T30 x0_2 x9_2).f0.f1), .int .i64 ((rd_T30 x0_2 x9_2).f1)], .agg #[.int .i64 ((rd_T30 x0_2 (ji9)).f0.f0), .int .i64 ((rd_T30 x0_2 (ji9)).f0.f1), .int .i64 ((rd_T30 x0_2 (ji9)).f1)]] (by rfl) rfl rfl (by (try simp only [List.map_toArray, List.map_cons, List.map_nil]); first | done | (simp only [hji9]; rfl) | rfl | (simp only [List.length_drop, List.length_take]; rfl)) ?_
     with_reducible refine (impl_hopsOf_1.calls ((rd_T30 x0_2 x9_2).f0.f0) ((rd_T30 x0_2 x9_2).f0.f1) ((rd_T30 x0_2 x9_2).f1) ((rd_T30 x0_2 (ji9)).f0.f0) ((rd_T30 x0_2 (ji9)).f0.f1) ((rd_T30 x0_2 (ji9)).f1) t458 _ A12.out).mono ?_
     rintro e w18 ⟨rfl, hb⟩
     have HS0_ := (hb.cell (World.block_lt_of_cell? _ _ (hHeld.1))).trans (hHeld.1)
     have HS1_ := (hb.cell (World.block_lt_of_cell? _ _ (hHeld.2.1))).trans (hHeld.2.1)
     have HS2_ := (hb.cell (World.block_lt_of_cell? _ _ (hHeld.2.2.1))).trans (hHeld.2.2.1)
     have HS3_ := (hb.cell (World.block_lt_of_cell? _ _ (hHeld.2.2.2.1))).trans (hHeld.2.2.2.1)
     have HS4_ := (hb.cell (World.block_lt_of_cell? _ _ (hHeld.2.2.2.2.1))).trans (hHeld.2.2.2.2.1)
     have HS5_ := (hb.cell (World.block_lt_of_cell? _ _ (hHeld.2.2.2.2.2))).trans (hHeld.2.2.2.2.2)
     refine ⟨_, rfl, ?_⟩
     replace HO_0 := rb_ HO_0 hb
     replace HK := Aside0.mk (Kept.below (S := (fun k_ => P0_ k_)) (ky_ HK) hb)
     replace HB := at_ HB hb
     clear hb
     refine hK.out _ _ ⟨HS0_, HS1_, HS2_, HS3_, HS4_, HS5_⟩ (fun hHeld => ?_)
     clear hK K
     refine nz_ 32 ?_
     have H := Hh_.out
     clear Hh_
     by_cases c13 : t458 < 0
     rotate_left
     ·rw [if_neg c13] at H
      have c13b0 : decide (t458 < 0) = false := decide_eq_false c13
      clear c13
      have H' := Aside0.mk H
      clear H
      refine pz_ 15 33 ba19_16 HT_ ?_
      refine pz_ 16 34 ba19_17 HT_ ?_
      refine done_ (done_of HT_.out (by kernel_rfl)) ?_
      go_wp2
      go_roundg k2
      case measure => have := HK1.out; have := HK2.out; omega
      case rel => exact ⟨(x0_2), (wrap64 (x8_1 + 1)), er_, H', ⟨by have := HK1.out; have := HK2.out; omega⟩, ⟨hd_ HO_0⟩, ⟨ky_ HK⟩, ⟨bw112_⟩⟩
     rw [if_pos c13] at H
     have c13b0 : decide (t458 < 0) = true := decide_eq_true c13
     clear c13
     obtain ⟨y461, hy461⟩ : ∃ y_ : List (S30), y_ = (x0_2.set (x9_2 : Int).toNat (⟨(⟨(rd_T30 x0_2 (ji9)).f0.f0, (rd_T30 x0_2 (ji9)).f0.f1⟩ : S28), (rd_T30 x0_2 (ji9)).f1⟩ : S30)) := ⟨_, rfl⟩
     replace H : (slices_insertionSortCmpFunc_impl_Route.l1 k2 (y461.set ((ji9) : Int).toNat (⟨(⟨(rd_T30 x0_2 x9_2).f0.f0, (rd_T30 x0_2 x9_2).f0.f1⟩ : S28), (rd_T30 x0_2 x9_2).f1⟩ : S30)) a1 a2 x8_1 ji9) = some r := by first | (rw [hy461]; with_reducible exact H) | (have H2_ := (Option.bind_some _ _).symm.trans H; rw [hy461]; with_reducible exact H2_) | (have H2_ := (Option.bind_some _ _).symm.trans H; with_reducible exact H2_) | with_reducible exact H | (rw [hy461]; exact H) | exact H
     have Ny461 := Aside0.mk hy461
     clear hy461
     obtain ⟨y462, hy462⟩ : ∃ y_ : List (S30), y_ = (y461.set ((ji9) : Int).toNat (⟨(⟨(rd_T30 x0_2 x9_2).f0.f0, (rd_T30 x0_2 x9_2).f0.f1⟩ : S28), (rd_T30 x0_2 x9_2).f1⟩ : S30)) := ⟨_, rfl⟩
     replace H : (slices_insertionSortCmpFunc_impl_Route.l1 k2 y462 a1 a2 x8_1 ji9) = some r := by first | (rw [hy462]; with_reducible exact H) | (have H2_ := (Option.bind_some _ _).symm.trans H; rw [hy462]; with_reducible exact H2_) | (have H2_ := (Option.bind_some _ _).symm.trans H; with_reducible exact H2_) | with_reducible exact H | (rw [hy462]; exact H) | exact H
     have Ny462 := Aside0.mk hy462
     clear hy462
     have H' := Aside0.mk H
     clear H
     refine pz_ 15 33 ba19_16 HT_ ?_
     refine pz_ 16 34 ba19_17 HT_ ?_
     refine done_ (done_of HT_.out (by kernel_rfl)) ?_
     go_wp2
     replace HO_0 := Aside0.mk (Kd.R_drew HO_0.out)
     replace HK := Aside0.mk (Kept.drew HK.out)
     replace HB := Aside0.mk (below_drew1 HB.out)
     have p459 : 0 ≤ ((ji9) : Int) := oa_
     have q459 : (ji9) < (x0_2.length : Int) := oa_
     obtain ⟨ad459, e459, hx459_0, hx459_1, hx459_2⟩ := at_T30 (Kd.R_reads' HO_0.out).2.2 (ji9) p459 q459
     obtain rfl : ad456 = ad459 := (by injection e459)
     obtain ⟨p459, q459⟩ := et_ p459 q459
     have p460 : 0 ≤ (x9_2 : Int) := oa_
     have q460 : x9_2 < (x0_2.length : Int) := oa_
     obtain ⟨ad460, e460, hx460_0, hx460_1, hx460_2⟩ := at_T30 (Kd.R_reads' HO_0.out).2.2 x9_2 p460 q460
     obtain rfl : ad456 = ad460 := (by injection e460)
     obtain ⟨p460, q460⟩ := et_ p460 q460
     have p14 : 0 ≤ (x9_2 : Int) := oa_
     have q14 : (x9_2 : Int) < ((x0_2.length : Int) : Int) := oa_
     obtain ⟨go14, co14, eo14, gb14, gl14, cl14, HG14⟩ := Kd.R_form HO_0.out (by omega)
     (first | cases eo14 | (injection eo14 with ea_ en_ ec_; (first | subst ea_ | (injection ea_ with ea_; subst ea_)); subst ec_; clear en_))
     have GB14 := Aside0.mk gb14
     have GG14 := Aside0.mk HG14
     clear gb14 gl14 HG14
     have HMgo14 := Aside0.mk (show (P0_ go14 ∨ w.heap.size ≤ go14) from (HO_0.out.1 _ rfl))
     simp only [add_plain] at hx456_0
     simp only [add_plain] at hx456_1
     simp only [add_plain] at hx456_2
     simp only [add_plain] at hx457_0
     simp only [add_plain] at hx457_1
     simp only [add_plain] at hx457_2
     simp only [add_plain] at hx459_0
     simp only [add_plain] at hx459_1
     simp only [add_plain] at hx459_2
     simp only [add_plain] at hx460_0
     simp only [add_plain] at hx460_1
     simp only [add_plain] at hx460_2
     obtain ⟨ce14, hcl14, hM14, hcc14, hfr14⟩ := Kd.R_elem HO_0.out z30 (x9_2 : Int) p14 q14
     obtain rfl := k30_openM hM14
     have hx14_0 : World.cell? _ ⟨go14, (x9_2 : Int).toNat * 3, none⟩ = some (.int .i64 ((rd_T30 x0_2 x9_2).f0.f0)) := hcc14 0 _ rfl
     have hx14_1 : World.cell? _ ⟨go14, (x9_2 : Int).toNat * 3 + 1, none⟩ = some (.int .i64 ((rd_T30 x0_2 x9_2).f0.f1)) := hcc14 1 _ rfl
     have hx14_2 : World.cell? _ ⟨go14, (x9_2 : Int).toNat * 3 + 2, none⟩ = some (.int .i64 ((rd_T30 x0_2 x9_2).f1)) := hcc14 2 _ rfl
     have hf14_0 : World.frozen? _ ⟨go14, (x9_2 : Int).toNat * 3, none⟩ = false := hfr14 0
     have hf14_1 : World.frozen? _ ⟨go14, (x9_2 : Int).toNat * 3 + 1, none⟩ = false := hfr14 1
     have hf14_2 : World.frozen? _ ⟨go14, (x9_2 : Int).toNat * 3 + 2, none⟩ = false := hfr14 2
     clear hcl14 hcc14 hfr14 hM14
     obtain ⟨p14, q14⟩ := et_ p14 q14
     obtain ⟨ce20, hcl20, hM20, hcc20, hfr20⟩ := Kd.R_elem HO_0.out z30 (x9_2 : Int) oa_ (by have h_ : (x9_2 : Int) < ((x0_2.length : Int) : Int) := oa_; first | exact h_ | (have e_ := (Kd.R_reads' HO_0.out).1; omega) | simpa using h_)
     obtain rfl := k30_openM hM20
     have HP20 := (Kd.R_seg HO_0.out (x9_2 : Int) oa_ (by have h_ : (x9_2 : Int) < ((x0_2.length : Int) : Int) := oa_; first | exact h_ | (have e_ := (Kd.R_reads' HO_0.out).1; omega) | simpa using h_) (seg := [.int .i64 ((rd_T30 x0_2 (ji9)).f0.f0), .int .i64 ((rd_T30 x0_2 (ji9)).f0.f1), .int .i64 ((rd_T30 x0_2 (ji9)).f1)]) (j := 0) hcl20 hcc20 (show 3 ≤ 3 from by decide) (x' := (⟨(⟨(rd_T30 x0_2 (ji9)).f0.f0, (rd_T30 x0_2 (ji9)).f0.f1⟩ : S28), (rd_T30 x0_2 (ji9)).f1⟩ : S30)) (k30_mkM _ _ _ (⟨(⟨(rd_T30 x0_2 (ji9)).f0.f0, (rd_T30 x0_2 (ji9)).f0.f1⟩ : S28), (rd_T30 x0_2 (ji9)).f1⟩ : S30) ) (fun _ hk => hk)).1
     rw [← Ny461.out] at HP20
     have HQ20 := Aside0.mk HP20
     clear hcl20 hcc20 hfr20 hM20 HP20
     have p15 : 0 ≤ ((ji9) : Int) := oa_
     have q15 : ((ji9) : Int) < ((x0_2.length : Int) : Int) := oa_
     obtain ⟨ce15, hcl15, hM15, hcc15, hfr15⟩ := Kd.R_elem HQ20.out z30 ((ji9) : Int) p15 q15
     obtain rfl := k30_openM hM15
     have hx15_0 : World.cell? _ ⟨go14, ((ji9) : Int).toNat * 3, none⟩ = some (.int .i64 ((rd_T30 y461 (ji9)).f0.f0)) := hcc15 0 _ rfl
     have hx15_1 : World.cell? _ ⟨go14, ((ji9) : Int).toNat * 3 + 1, none⟩ = some (.int .i64 ((rd_T30 y461 (ji9)).f0.f1)) := hcc15 1 _ rfl
     have hx15_2 : World.cell? _ ⟨go14, ((ji9) : Int).toNat * 3 + 2, none⟩ = some (.int .i64 ((rd_T30 y461 (ji9)).f1)) := hcc15 2 _ rfl
     have hf15_0 : World.frozen? _ ⟨go14, ((ji9) : Int).toNat * 3, none⟩ = false := hfr15 0
     have hf15_1 : World.frozen? _ ⟨go14, ((ji9) : Int).toNat * 3 + 1, none⟩ = false := hfr15 1
     have hf15_2 : World.frozen? _ ⟨go14, ((ji9) : Int).toNat * 3 + 2, none⟩ = false := hfr15 2
     clear hcl15 hcc15 hfr15 hM15
     obtain ⟨p15, q15⟩ := et_ p15 q15
     obtain ⟨ce21, hcl21, hM21, hcc21, hfr21⟩ := Kd.R_elem HQ20.out z30 ((ji9) : Int) oa_ (by have h_ : ((ji9) : Int) < ((x0_2.length : Int) : Int) := oa_; first | exact h_ | (have e_ := (Kd.R_reads' HO_0.out).1; omega) | simpa using h_)
     obtain rfl := k30_openM hM21
     have HP21 := (Kd.R_seg HQ20.out ((ji9) : Int) oa_ (by have h_ : ((ji9) : Int) < ((x0_2.length : Int) : Int) := oa_; first | exact h_ | (have e_ := (Kd.R_reads' HO_0.out).1; omega) | simpa using h_) (seg := [.int .i64 ((rd_T30 x0_2 x9_2).f0.f0), .int .i64 ((rd_T30 x0_2 x9_2).f0.f1), .int .i64 ((rd_T30 x0_2 x9_2).f1)]) (j := 0) hcl21 hcc21 (show 3 ≤ 3 from by decide) (x' := (⟨(⟨(rd_T30 x0_2 x9_2).f0.f0, (rd_T30 x0_2 x9_2).f0.f1⟩ : S28), (rd_T30 x0_2 x9_2).f1⟩ : S30)) (k30_mkM _ _ _ (⟨(⟨(rd_T30 x0_2 x9_2).f0.f0, (rd_T30 x0_2 x9_2).f0.f1⟩ : S28), (rd_T30 x0_2 x9_2).f1⟩ : S30) ) (fun _ hk => hk)).1
     rw [← Ny462.out] at HP21
     have HQ21 := Aside0.mk HP21
     clear hcl21 hcc21 hfr21 hM21 HP21
     refine start_ (n := 18) (S := fun w' => w'.cell? ⟨go14, (((ji9)).toNat * 3), none⟩ = some (.int .i64 ((rd_T30 x0_2 (ji9)).f0.f0)) ∧ w'.cell? ⟨go14, (((ji9)).toNat * 3) + 1, none⟩ = some (.int .i64 ((rd_T30 x0_2 (ji9)).f0.f1)) ∧ w'.cell? ⟨go14, (((ji9)).toNat * 3) + 2, none⟩ = some (.int .i64 ((rd_T30 x0_2 (ji9)).f1)) ∧ w'.cell? ⟨go14, ((x9_2).toNat * 3), none⟩ = some (.int .i64 ((rd_T30 x0_2 x9_2).f0.f0)) ∧ w'.cell? ⟨go14, ((x9_2).toNat * 3) + 1, none⟩ = some (.int .i64 ((rd_T30 x0_2 x9_2).f0.f1)) ∧ w'.cell? ⟨go14, ((x9_2).toNat * 3) + 2, none⟩ = some (.int .i64 ((rd_T30 x0_2 x9_2).f1))) (ds := [15, 17]) ba19_18 (by kernel_rfl) rfl rfl ⟨hx459_0, hx459_1, hx459_2, hx460_0, hx460_1, hx460_2⟩ (fun hHeld => ?_); refine with_tabW slices_insertionSortCmpFunc_impl_Route.tab6 slices_insertionSortCmpFunc_impl_Route.bits6 (fun HT_ HW_ => ?_)
     generalize w18.drew = w19 at HO_0 HK HB GG14 HQ20 HQ21 hf14_0 hf14_1 hf14_2 hf15_0 hf15_1 hf15_2 hx14_0 hx14_1 hx14_2 hx15_0 hx15_1 hx15_2 hx456_0 hx456_1 hx456_2 hx457_0 hx457_1 hx457_2 hx459_0 hx459_1 hx459_2 hx460_0 hx460_1 hx460_2 hHeld ⊢
     refine pz_ 0 37 ba19_19 HT_ ?_
     refine pz_ 1 38 ba19_20 HT_ ?_
     refine pz_ 2 39 ba19_21 HT_ ?_
     refine pz_ 3 40 ba19_22 HT_ ?_
     refine pz_ 4 41 ba19_23 HT_ ?_
     refine pz_ 5 42 ba19_24 HT_ ?_
     refine pz_ 6 43 ba19_25 HT_ ?_
     refine pz_ 7 44 ba19_26 HT_ ?_
     refine pz_ 8 45 ba19_27 HT_ ?_
     refine pz_ 10 47 ba19_28 HT_ ?_
     refine pz_ 11 48 ba19_29 HT_ ?_
     refine pz_ 12 49 ba19_30 HT_ ?_
     refine pt_ 9 46 ba19_31 HT_ HW_ hHeld ?_
     refine pt_ 13 50 ba19_32 HT_ HW_ hHeld ?_
     refine pz_ 14 51 ba19_33 HT_ ?_
     refine last_ (i := 15) (N := none) ba19_34 rfl rfl (one_of HT_.out (by kernel_rfl)) (by decide) (fun K hK => ?_)
     refine skip_ (w1 := ?_) (by rfl) rfl ?_ ?_
     rotate_left; · go_simp; rfl
     refine hK.out _ _ ?_
     clear hK K
     refine pz_ 16 52 ba19_35 HT_ ?_
     generalize hW_ : World.setCell (World.setCell (World.setCell _ _ _) _ _) _ _ = wS_
     have hy_hf15_0 : World.frozen? wS_ _ = false := Eq.trans (congrArg (fun q => World.frozen? q _) hW_).symm hf15_0
     have hy_hf15_1 : World.frozen? wS_ _ = false := Eq.trans (congrArg (fun q => World.frozen? q _) hW_).symm hf15_1
     have hy_hf15_2 : World.frozen? wS_ _ = false := Eq.trans (congrArg (fun q => World.frozen? q _) hW_).symm hf15_2
     have hy_hx15_0 : World.cell? wS_ _ = some _ := Eq.trans (congrArg (fun q => World.cell? q _) hW_).symm hx15_0
     have hy_hx15_1 : World.cell? wS_ _ = some _ := Eq.trans (congrArg (fun q => World.cell? q _) hW_).symm hx15_1
     have hy_hx15_2 : World.cell? wS_ _ = some _ := Eq.trans (congrArg (fun q => World.cell? q _) hW_).symm hx15_2
     refine last_ (i := 17) (N := none) ba19_36 rfl rfl (one_of HT_.out (by kernel_rfl)) (by decide) (fun K hK => ?_)
     refine skip_ (w1 := ?_) (by rfl) rfl ?_ ?_
     rotate_left; · go_simp; rfl
     refine hK.out _ _ ?_
     clear hK K
     subst hW_
     refine done_ (done_of HT_.out (by kernel_rfl)) ?_
     go_wp2
     go_roundg k2
     case measure => have := HK1.out; have := HK2.out; omega
     case rel => exact ⟨(y462), (ji9), (by first | rfl | (simp; done) | (simp only [← hji9] <;> (first | rfl | simp)) | (simp [*]; done)), H', ⟨by have := HK1.out; have := HK2.out; omega⟩, ⟨by (with_reducible repeat (first | apply Kd.R_alloc | apply Kd.R_drewN | apply Kd.R_drew)); exact HQ21.out⟩, ⟨by repeat (first | (with_reducible first | exact HK.out | apply Kept.alloc | apply Kept.drewN | apply Kept.drew | refine Kept.setCell ?_ HMgo14.out _ | refine Kept.setCell ?_ HMgo14.out _ | refine Kept.setCell ?_ HMgo14.out _ | refine Kept.setCell ?_ HMgo14.out _ | refine Kept.setCell ?_ HMgo14.out _ | refine Kept.setCell ?_ HMgo14.out _) | exact HK.out)⟩, ⟨by repeat (first | (with_reducible first | exact HB.out | apply below_alloc | apply pw_below_drewN | apply below_drew1 | refine below_set ?_ GB14.out | refine below_set ?_ GB14.out | refine below_set ?_ GB14.out | refine below_set ?_ GB14.out | refine below_set ?_ GB14.out | refine below_set ?_ GB14.out) | exact HB.out)⟩⟩

end Go.Proofs.Ytjepmdngbafonaa.QFnSqueezed
