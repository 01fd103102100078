/- Contracts of functions that the law reaches: what each call returns and what it leaves in memory. Made by this session over the print of the kit. -/
import Derived.Test.YthmahcohcphljaaQFnCheapestx0
import Derived.Test.YthmahcohcphljaaQFnCheapestx7
import Derived.Test.YthmahcohcphljaaQFnCheapestx11
namespace Go.Proofs.Ythmahcohcphljaa.QFnCheapest
open Go.RowKit Go.Proofs.YthmahcohcphljaaC.PrintWords Go.Proofs.YthmahcohcphljaaC.PrintLast Go.Proofs.YthmahcohcphljaaC.PrintMore
attribute [local go_sem] max2_int min2_int max_two min_two max_three min_three max_four min_four
set_option linter.unusedVariables false
set_option linter.unusedSimpArgs false
def ba12_0 := bs_ 11 0
def ba12_1 := bs_ 11 1
def ba12_2 := bs_ 11 5
def ba12_3 := bs_ 11 13
def ba12_4 := bs_ 11 15
def ba12_5 := bs_ 11 31
def ba12_6 := bs_ 11 63
def ba12_7 := bs_ 11 1023
def ba12_8 := bs_ 11 127
def ba12_9 := bs_ 11 575
def ba12_10 := bs_ 11 255
def ba12_11 := bs_ 11 511
def ba12_12 := bs_ 11 639
def ba12_13 := bs_ 11 767
def ba12_14 := bs_ 11 2047
def ba12_15 := bs_ 8 0
def ba12_16 := bs_ 8 2
def ba12_17 := bs_ 8 10
def ba12_18 := bs_ 8 11
def ba12_19 := bs_ 8 15
def ba12_20 := bs_ 8 31
def ba12_21 := bs_ 8 63
def ba12_22 := bs_ 8 127
def ba12_23 := bs_ 8 255
def ba12_24 := bs_ 10 0
def ba12_25 := bs_ 10 2
def ba12_26 := bs_ 10 18
def ba12_27 := bs_ 10 19
def ba12_28 := bs_ 10 23
def ba12_29 := bs_ 10 55
def ba12_30 := bs_ 10 63
def ba12_31 := bs_ 10 127
def ba12_32 := bs_ 10 255
def ba12_33 := bs_ 10 511
def ba12_34 := bs_ 10 1023
def spec_DrawCostOf.j0 : Nat → Bool → List Int → Int → Int → Int → List (S76) → Option (Int × (List (S76)) × Int × Int)
 | 0, _, _, _, _, _, _ => none
 | k + 1, x20, x385000, x385001, x385002, x390000, x390001 => if x20 = true then ((spec_l01Below.f x385000 x385001 x385002 (x390001.length : Int)).bind fun bt393 => (if 0 ≤ bt393.1 then (if bt393.1 < (x390001.length : Int) then (some (x390000, x390001, (rd_T76 x390001 bt393.1).f0, (rd_T76 x390001 bt393.1).f1)) else (none)) else (none))) else ((spec_l03DrawNode.f k x385000 x385001 x385002 x390000 x390001).bind fun bt398 => ((spec_l03DrawNode.f k x385000 bt398.2.1 bt398.2.2 x390000 x390001).bind fun bt401 => (some (x390000, x390001, bt398.1, bt401.1))))
def spec_DrawCostOf.f (k : Nat) (l0 : List Int) : Option (Int × (List (S76)) × Int × Int) := (spec_l03Draw.f k l0).bind fun bt385 => (if (bt385.2.1.length : Int) > 0 then ((spec_l01Once.f bt385.2.2.1 bt385.2.2.2.1 bt385.2.2.2.2 2).bind fun bt390 => (spec_DrawCostOf.j0 k bt390.1 bt385.2.2.1 bt390.2.1 bt390.2.2 bt385.1 bt385.2.1)) else (spec_DrawCostOf.j0 k false bt385.2.2.1 bt385.2.2.2.1 bt385.2.2.2.2 bt385.1 bt385.2.1))
def spec_DrawCostOf.T3 : Bool × List (List Nat × List Nat) := (true, [([], []), ([0], [0]), ([], []), ([], []), ([3], [3]), ([4], [4]), ([2, 5], [2, 5]), ([1, 6], [1, 6]), ([7], [7]), ([], []), ([9, 8, 6, 0, 1, 2, 3, 4, 5, 6, 7, 8, 9], [8, 9])])
def spec_DrawCostOf.B3 : List Nat := [0, 1, 0, 0, 8, 24, 60, 127, 255, 0, 1023]
theorem spec_DrawCostOf.tab3 : rtab .any (opsOf Try.f70 3) = spec_DrawCostOf.T3 := by kernel_rfl
theorem spec_DrawCostOf.bits3 : waitsOk spec_DrawCostOf.T3.2 spec_DrawCostOf.B3 = true := by kernel_rfl
def spec_DrawCostOf.T4 : Bool × List (List Nat × List Nat) := (true, [([], []), ([], []), ([1], [1]), ([], []), ([3], [3]), ([0, 0], [0]), ([2, 5, 0, 1, 2, 5], [2]), ([4, 6, 0, 1, 2, 3, 4, 5, 6], [4])])
def spec_DrawCostOf.B4 : List Nat := [0, 0, 2, 0, 8, 1, 39, 127]
theorem spec_DrawCostOf.tab4 : rtab .any (opsOf Try.f70 4) = spec_DrawCostOf.T4 := by kernel_rfl
theorem spec_DrawCostOf.bits4 : waitsOk spec_DrawCostOf.T4.2 spec_DrawCostOf.B4 = true := by kernel_rfl
def spec_DrawCostOf.T5 : Bool × List (List Nat × List Nat) := (true, [([], []), ([], []), ([], []), ([1, 2], [1, 2]), ([], []), ([], []), ([4, 5, 3], [4, 5]), ([0, 6, 0], [0]), ([3, 7, 0, 1, 2, 3, 7], [3]), ([6, 8, 0, 1, 2, 3, 4, 5, 6, 7, 8], [6])])
def spec_DrawCostOf.B5 : List Nat := [0, 0, 0, 6, 0, 0, 62, 127, 255, 511]
theorem spec_DrawCostOf.tab5 : rtab .any (opsOf Try.f70 5) = spec_DrawCostOf.T5 := by kernel_rfl
theorem spec_DrawCostOf.bits5 : waitsOk spec_DrawCostOf.T5.2 spec_DrawCostOf.B5 = true := by kernel_rfl
set_option maxHeartbeats 8000000 in
set_option maxRecDepth 100000 in
theorem spec_DrawCostOf.calls (k : Nat) (A0 : Option Addr) (c0 : Nat) (l0 : List Int) (r1 : Int) (r2 : List (S76)) (r3 : Int) (r4 : Int) (w : World) (hr0 : Kd.C (Kd.int .u8) w A0 l0.length l0) (hc0 : l0.length ≤ c0) (h : spec_DrawCostOf.f k l0 = some (r1, r2, r3, r4)) :
  Calls Try.prog 70 #[.slice A0 l0.length c0] w fun e w' => ∃ v1_ : Value, e = .returned (.tuple #[.agg #[.int .i64 r1, v1_], .int .i64 r3, .int .i64 r4]) ∧ Kd.R k76 76 w' w.heap.size (fun _ => True) v1_ r2 ∧ Below w.heap.size w w' := by
 have hu30 := Try.underlying30
 have hu76 := Try.underlying76
 have HR0 := Aside0.mk hr0
 have HC0 := Aside0.mk hc0
 clear hr0 hc0
 have HB := Aside0.mk (Below.refl w.heap.size w)
 have H : ((spec_l03Draw.f k l0).bind fun bt385 => (if (bt385.2.1.length : Int) > 0 then ((spec_l01Once.f bt385.2.2.1 bt385.2.2.2.1 bt385.2.2.2.2 2).bind fun bt390 => (spec_DrawCostOf.j0 k bt390.1 bt385.2.2.1 bt390.2.1 bt390.2.2 bt385.1 bt385.2.1)) else (spec_DrawCostOf.j0 k false bt385.2.2.1 bt385.2.2.2.1 bt385.2.2.2.2 bt385.1 bt385.2.1))) = some (r1, r2, r3, r4) := h
 clear h
 obtain ⟨⟨t385, t386, t381, t382, t383⟩, A2, H⟩ := ob_ H
 have HC3 := Aside0.mk H
 clear H
 go_enter Try.func70, Try.ntmps70
 go_upto_region 2 with (first | ((with_reducible refine gate_dst (N := 2) rfl ?_); refine box_ev2 ?hg (N := 2) ?hd (cs := #[.int .i64 0, .slice none 0 0]) (t := 30) ?hr ?_; (case hd => rfl); (case hg => rfl); (case hr => first | (go_simp; done) | (go_simp; rfl)); intro gb380 hg w4 hbox hb hz_; have HL := Aside0.mk (low_box (w := w) (fun _ _ _ h_ => h_) hg hbox hb hz_); clear hz_; have BK380 := Aside0.mk hbox; have GW380 := ge_ HB hg; have GE380 := ge_ HB hg; replace HB := at_ HB hb; clear hb hbox hg) | ((with_reducible refine gate_callee (f := 65) rfl ?_); refine gl_ (some 10) Try.func65 #[.slice A0 l0.length c0] ?_; (with_reducible refine (spec_l03Draw.calls k _ _ l0 t385 t386 t381 t382 t383 _ ?side1 ?side2 A2.out).mono ?_); (case side1 => exact cb_ HR0 HB); (case side2 => exact HC0.out); rintro e w5 ⟨v387, g384, rfl, ho0, hi, hb⟩; refine ⟨_, rfl, ?_⟩; have HO388 := Aside0.mk (Kd.R_lower ho0 (bz_ HB)); have HI384 := Aside0.mk (IsS115.low hi HB HL); have NB384_380 := Aside0.mk (IsS115.ne_blk hi (bb_ BK380 hb) (by decide)); have NB380_384 := Aside0.mk (Ne.symm (IsS115.ne_blk hi (bb_ BK380 hb) (by decide))); replace HB := at_ HB hb; replace BK380 := ab_ BK380 hb; clear hb hi ho0) | ((with_reducible refine gate_dst (N := 6) rfl ?_); refine be_ 6 #[.int .i64 0, .slice none 0 0] 30 ?_; intro gb389 hg w6 BK389 hb; have GW389 := Aside0.mk ((by rw [hg]; exact (below_size (bw115_)) : w.heap.size ≤ gb389)); have GE389 := Aside0.mk ((by rw [hg]; exact (below_size (bw115_)) : w.heap.size ≤ gb389)); have NB380_389 := nl_ BK380 hg; have NB389_380 := ng_ BK380 hg; have NB384_389 := Aside0.mk ((by rw [hg]; exact Nat.ne_of_lt (IsS115.lt (show IsS115 w _ g384 t381 t382 t383 from is115_)) : g384 ≠ gb389)); have NB389_384 := Aside0.mk ((by rw [hg]; exact Nat.ne_of_gt (IsS115.lt (show IsS115 w _ g384 t381 t382 t383 from is115_)) : gb389 ≠ g384)); replace HO388 := rb_ HO388 hb; replace HB := bs115_ hb; replace BK380 := ab_ BK380 hb; replace HI384 := Aside0.mk (IsS115.below is115_ hb); clear hb hg; have hnb7 := NB389_380.out; have hnc7 := NB380_389.out; have hnb8 := NB389_384.out; have hnc8 := NB384_389.out; have hcz9_0 := cz_ BK389 0 (.int .i64 0); have hcz9_1 := cz_ BK389 1 (.slice none 0 0); have hfz9_0 := fz_ BK389 0; have hfz9_1 := fz_ BK389 1; obtain ⟨Ao10, co10, eo10⟩ := Kd.R_slice HO388.out; subst eo10))
 (try simp only [Act.put, List.setIfInBounds_toArray, List.set_cons_zero, List.set_cons_succ])
 go_cut [20] (fun v20 wc => ∃ (kq : Nat) (x20_2 : Bool) (x385001_2 : Int) (x385002_2 : Int), v20 = .bool x20_2 ∧ Aside0 (spec_DrawCostOf.j0 kq x20_2 t381 x385001_2 x385002_2 t385 t386 = some (r1, r2, r3, r4)) ∧ Aside0 (kq ≤ k) ∧ Aside0 (Kd.R k76 76 wc w.heap.size (fun _ => True) (.slice Ao10 t386.length co10) t386) ∧ Aside0 (wc.heap[gb380]? = some (.cells #[.int .i64 0, (.slice none 0 0)] 30 (0, 0))) ∧ Aside0 (wc.heap[gb389]? = some (.cells #[.int .i64 t385, (.slice Ao10 t386.length co10)] 30 (0, 0))) ∧ Aside0 (IsS115 w wc g384 t381 x385001_2 x385002_2) ∧ Aside0 (Below w.heap.size w wc))
 case first =>
  have H := HC3.out
  clear HC3
  by_cases c11 : (t386.length : Int) > 0
  rotate_left
  ·rw [if_neg c11] at H
   have c11b0 : decide (0 < (t386.length : Int)) = false := decide_eq_false c11
   have c11b1 : decide (0 < t386.length) = false := decide_eq_false (by omega)
   clear c11
   (first | rw [c11b0] | (simp only [i64_w, i32_w]; rw [c11b0]) | skip)
   have H' := Aside0.mk H
   clear H
   have hnb17 := NB389_380.out
   have hnc17 := NB380_389.out
   have hnb18 := NB389_384.out
   have hnc18 := NB384_389.out
   have hcz19_0 := cz_ BK389 0 (.int .i64 0)
   have hcz19_1 := cz_ BK389 1 (.slice none 0 0)
   have hfz19_0 := fz_ BK389 0
   have hfz19_1 := fz_ BK389 1
   go_wp2
   go_meet
   case rel => exact ⟨_, (false), (t382), (t383), er_, H', ⟨by first | omega | exact Nat.le_refl _⟩, ⟨hq_ (Kd.R_mono (Kd.R_far (Kd.R_far (Kd.R_types HO388.out BK389.out (by decide)) (fun _ hk => hk.2) _) (fun _ hk => hk.2) _) (fun _ hk => trivial))⟩, ⟨bc_ BK380⟩, ⟨by refine bd_ ?_; refine blk_put (cs := #[.int .i64 t385, .slice none 0 0]) ?_ 1 _ rfl; refine bd_ ?_; refine blk_put (cs := #[.int .i64 0, .slice none 0 0]) ?_ 0 _ rfl; refine bd_ ?_; exact BK389.out⟩, ⟨is115_⟩, ⟨bw115_⟩⟩
  rw [if_pos c11] at H
  have c11b0 : decide (0 < (t386.length : Int)) = true := decide_eq_true c11
  have c11b1 : decide (0 < t386.length) = true := decide_eq_true (by omega)
  clear c11
  (first | rw [c11b0] | (simp only [i64_w, i32_w]; rw [c11b0]) | skip)
  obtain ⟨⟨t390, t391, t392⟩, A12, H⟩ := ob_ H
  have H' := Aside0.mk H
  clear H
  have hnb13 := NB389_380.out
  have hnc13 := NB380_389.out
  have hnb14 := NB389_384.out
  have hnc14 := NB384_389.out
  have hcz15_0 := cz_ BK389 0 (.int .i64 0)
  have hcz15_1 := cz_ BK389 1 (.slice none 0 0)
  have hfz15_0 := fz_ BK389 0
  have hfz15_1 := fz_ BK389 1
  go_wp2_with (go_at_call 84; (with_reducible refine (spec_l01Once.calls g384 t381 t382 t383 2 t390 t391 t392 w _ ?side1 ?side2 A12.out).mono ?_); (case side1 => exact is115_); (case side2 => exact bw115_); rintro e w16 ⟨rfl, hi, hb, hk⟩; replace BK380 := kc_ BK380 NB380_384 hk; replace HO388 := Aside0.mk (Kd.R_mono (Kd.R_keep (IsS115.apart (show IsS115 w _ g384 t381 t382 t383 from is115_) (hs_ HO388 BK389) (by decide)) hk (fun _ h => h.2)) (fun _ h => h.1)); replace BK389 := Aside0.mk (KeepBut.blk hk (g' := gb389) (o := .cells #[.int .i64 t385, .slice Ao10 t386.length co10] 30 (0, 0)) (by refine bd_ ?_; refine blk_put (cs := #[.int .i64 t385, .slice none 0 0]) ?_ 1 _ rfl; refine bd_ ?_; refine blk_put (cs := #[.int .i64 0, .slice none 0 0]) ?_ 0 _ rfl; refine bd_ ?_; exact BK389.out) NB389_384.out (by simp)); replace HB := Aside0.mk (hb); replace HI384 := Aside0.mk (hi); clear hb hk hi)
  go_meet
  case rel => exact ⟨_, (t390), (t391), (t392), er_, H', ⟨by first | omega | exact Nat.le_refl _⟩, ⟨hd_ HO388⟩, ⟨bx_ BK380⟩, ⟨bx_ BK389⟩, ⟨is115_⟩, ⟨bw115_⟩⟩
 clear HC3 hcz9_0 hcz9_1 hfz9_0 hfz9_1
 obtain ⟨kq, x20_2, x385001_2, x385002_2, rfl, HA, HJ2, HO_390001, BK380, BK389, HI384, HB⟩ := hcut
 cases kq with
 | zero => exact absurd HA.out (by simp [spec_DrawCostOf.j0])
 | succ kj2 =>
  have H := HA.out
  clear HA
  simp only [spec_DrawCostOf.j0] at H
  by_cases c20 : x20_2 = true
  rotate_left
  ·replace c20 := Bool.eq_false_iff.mpr c20
   subst c20
   rw [if_neg (show ¬ (false = true) by decide)] at H
   obtain ⟨⟨t398, t399, t400⟩, A35, H⟩ := ob_ H
   obtain ⟨⟨t401, t402, t403⟩, A36, H⟩ := ob_ H
   simp only [Option.some.injEq, Prod.mk.injEq] at H
   obtain ⟨rfl, rfl, rfl, rfl⟩ := H
   go_wp2
   replace HO_390001 := rw5_ HO_390001
   replace BK380 := ad_ BK380
   replace BK389 := ad_ BK389
   replace HI384 := Aside0.mk (IsS115.drew HI384.out)
   replace HB := Aside0.mk (below_drew1 HB.out)
   refine start_ (n := 10) (S := fun w' => w'.cell? ⟨gb389, 0, none⟩ = some (.int .i64 t385) ∧ w'.cell? ⟨gb389, 1, none⟩ = some (.slice Ao10 t386.length co10)) (ds := []) ba12_24 (by kernel_rfl) rfl rfl ⟨bq5_ BK389 0, bq5_ BK389 1⟩ (fun hHeld => ?_); refine with_tabW spec_DrawCostOf.tab5 spec_DrawCostOf.bits5 (fun HT_ HW_ => ?_)
   generalize wc.drew = w37 at HO_390001 BK380 BK389 HI384 HB hHeld ⊢
   refine pz_ 1 36 ba12_25 HT_ ?_
   refine pz_ 4 39 ba12_26 HT_ ?_
   refine pt_ 0 35 ba12_27 HT_ HW_ hHeld ?_
   refine pt_ 2 37 ba12_28 HT_ HW_ hHeld ?_
   refine pt_ 5 40 ba12_29 HT_ HW_ hHeld ?_
   refine on_ 3 (some 38) ba12_30 HT_ (fun K hK => ?_)
   refine gz_ Try.func66 #[.pointer (some ⟨g384, 0, none⟩), .agg #[.int .i64 t385, .slice Ao10 t386.length co10]] ?_
   with_reducible refine (spec_l03DrawNode.calls kj2 g384 t381 x385001_2 x385002_2 t385 _ _ t386 t398 t399 t400 w _ ?side1 ?side2 ?side3 ?side4 A35.out).mono ?_
   (case side1 => exact is115_)
   (case side2 => exact bw115_)
   (case side3 => exact Kd.C_foot_own (IsS115.apart (show IsS115 w _ g384 t381 x385001_2 x385002_2 from is115_) (hd_ HO_390001) (by decide)) (fun _ h_ => h_.2))
   (case side4 => exact (Kd.R_reads' HO_390001.out).2.1)
   rintro e w38 ⟨rfl, hi, hb, hk⟩
   refine ⟨_, rfl, ?_⟩
   replace HO_390001 := ak115_ HO_390001 (show IsS115 w _ g384 t381 x385001_2 x385002_2 from is115_) hk
   replace BK380 := kb_ BK380 NB380_384 hk
   replace BK389 := kb_ BK389 NB389_384 hk
   replace HB := Aside0.mk (hb)
   replace HI384 := Aside0.mk (hi)
   clear hb hk hi
   refine hK.out _ _ ⟨bq5_ BK389 0, bq5_ BK389 1⟩ (fun hHeld => ?_)
   clear hK K
   refine nz_ 38 ?_
   refine on_ 6 (some 41) ba12_31 HT_ (fun K hK => ?_)
   refine gz_ Try.func66 #[.pointer (some ⟨g384, 0, none⟩), .agg #[.int .i64 t385, .slice Ao10 t386.length co10]] ?_
   with_reducible refine (spec_l03DrawNode.calls kj2 g384 t381 t399 t400 t385 _ _ t386 t401 t402 t403 w _ ?side1 ?side2 ?side3 ?side4 A36.out).mono ?_
   (case side1 => exact is115_)
   (case side2 => exact bw115_)
   (case side3 => exact Kd.C_foot_own (IsS115.apart (show IsS115 w _ g384 t381 t399 t400 from is115_) (hd_ HO_390001) (by decide)) (fun _ h_ => h_.2))
   (case side4 => exact (Kd.R_reads' HO_390001.out).2.1)
   rintro e w39 ⟨rfl, hi, hb, hk⟩
   refine ⟨_, rfl, ?_⟩
   replace HO_390001 := ak115_ HO_390001 (show IsS115 w _ g384 t381 t399 t400 from is115_) hk
   replace BK380 := kb_ BK380 NB380_384 hk
   replace BK389 := kb_ BK389 NB389_384 hk
   replace HB := Aside0.mk (hb)
   replace HI384 := Aside0.mk (hi)
   clear hb hk hi
   refine hK.out _ _ ⟨bq5_ BK389 0, bq5_ BK389 1⟩ (fun hHeld => ?_)
   clear hK K
   refine nz_ 41 ?_
   refine on_ 7 none ba12_32 HT_ (fun K hK => ?_)
   have hs40 : w39.cell? ⟨gb380, 0, none⟩ = some (.int .i64 0) := bq5_ BK380 0
   have hfs40 := fz_ BK380 0
   have hns40_1 := NB389_380.out
   have hms40_1 := NB380_389.out
   have hs41 : w39.cell? ⟨gb380, 1, none⟩ = some (.slice none 0 0) := bq5_ BK380 1
   have hfs41 := fz_ BK380 1
   have hns41_1 := NB389_380.out
   have hms41_1 := NB380_389.out
   refine skip_ (w1 := ?_) (by rfl) rfl ?_ ?_
   rotate_left; · go_simp; rfl
   refine hK.out _ _ ⟨((cell_far (p := ⟨gb380, _, none⟩) NB389_380.out _).trans (((cell_far (p := ⟨gb380, _, none⟩) NB389_380.out _).trans (hHeld.1)))), ((cell_far (p := ⟨gb380, _, none⟩) NB389_380.out _).trans (((cell_far (p := ⟨gb380, _, none⟩) NB389_380.out _).trans (hHeld.2))))⟩ (fun hHeld => ?_)
   clear hK K
   refine pz_ 8 3 ba12_33 HT_ ?_
   refine pz_ 9 4 ba12_34 HT_ ?_
   refine done_ (done_of HT_.out (by kernel_rfl)) ?_
   go_wp2
   refine bodyPost_ret (results_ctt rfl _ _ gb380 30 #[.int .i64 t385, .slice Ao10 t386.length co10] (0, 0) _ rfl (by refine bd_ ?_; refine blk_put (cs := #[.int .i64 t385, .slice none 0 0]) ?_ 1 _ rfl; refine bd_ ?_; refine blk_put (cs := #[.int .i64 0, .slice none 0 0]) ?_ 0 _ rfl; refine bd_ ?_; exact BK380.out) Try.underlying30 rfl (by kernel_rfl)) rfl ?_
   exact ⟨_, ew_, by (with_reducible repeat (first | apply Kd.R_alloc | apply Kd.R_drewN | apply Kd.R_drew)); exact Kd.R_mono (Kd.R_far (Kd.R_far (Kd.R_types HO_390001.out BK380.out (by decide)) (fun _ hk => hk.2) _) (fun _ hk => hk.2) _) (fun _ hk => trivial), bw115_⟩
  subst c20
  rw [if_pos rfl] at H
  obtain ⟨⟨t393, t394, t395⟩, A21, H⟩ := ob_ H
  obtain ⟨c22b0, H⟩ := iq_ H
  obtain ⟨c23b0, H⟩ := iq_ H
  simp only [Option.some.injEq, Prod.mk.injEq] at H
  obtain ⟨rfl, rfl, rfl, rfl⟩ := H
  go_wp2
  replace HO_390001 := rw5_ HO_390001
  replace BK380 := ad_ BK380
  replace BK389 := ad_ BK389
  replace HI384 := Aside0.mk (IsS115.drew HI384.out)
  replace HB := Aside0.mk (below_drew1 HB.out)
  have p396 : 0 ≤ (t393 : Int) := oa_
  have q396 : t393 < (t386.length : Int) := oa_
  obtain ⟨ad396, e396, hx396_0, hx396_1, hx396_2⟩ := at_T76 (Kd.R_reads' HO_390001.out).2.2 t393 p396 q396
  cases e396
  obtain ⟨p396, q396⟩ := et_ p396 q396
  refine start_ (n := 11) (S := fun w' => w'.cell? ⟨gb389, 0, none⟩ = some (.int .i64 t385) ∧ w'.cell? ⟨gb389, 1, none⟩ = some (.slice (some ad396) t386.length co10) ∧ w'.cell? (ad396.add ((t393).toNat * 3)) = some (.int .i64 ((rd_T76 t386 t393).f0)) ∧ w'.cell? ⟨(ad396.add ((t393).toNat * 3)).block, (ad396.add ((t393).toNat * 3)).off + 1, none⟩ = some (.int .i64 ((rd_T76 t386 t393).f1)) ∧ w'.cell? ⟨(ad396.add ((t393).toNat * 3)).block, (ad396.add ((t393).toNat * 3)).off + 2, none⟩ = some (.int .i64 ((rd_T76 t386 t393).f2))) (ds := []) ba12_0 (by kernel_rfl) rfl rfl ⟨bq5_ BK389 0, bq5_ BK389 1, hx396_0, hx396_1, hx396_2⟩ (fun hHeld => ?_); refine with_tabW spec_DrawCostOf.tab3 spec_DrawCostOf.bits3 (fun HT_ HW_ => ?_)
  generalize wc.drew = w24 at HO_390001 BK380 BK389 HI384 HB hx396_0 hx396_1 hx396_2 hHeld ⊢
  refine pz_ 0 21 ba12_1 HT_ ?_
  refine pz_ 2 23 ba12_2 HT_ ?_
  refine pz_ 3 24 ba12_3 HT_ ?_
  refine pt_ 1 22 ba12_4 HT_ HW_ hHeld ?_
  refine pt_ 4 25 ba12_5 HT_ HW_ hHeld ?_
  refine pz_ 5 26 ba12_6 HT_ ?_
  refine join_ (σ := Nat) 1 ba12_7 (fun s_ => [(27, .int .i64 t393), (7, .pointer (some ⟨s_, 0, none⟩)), (28, .pointer (some (ad396.add ((t393).toNat * 3)))), (29, .agg #[.int .i64 ((rd_T76 t386 t393).f0), .int .i64 ((rd_T76 t386 t393).f1), .int .i64 ((rd_T76 t386 t393).f2)])]) (fun s_ w' => (w'.cell? ⟨gb389, 0, none⟩ = some (.int .i64 t385) ∧ w'.cell? ⟨gb389, 1, none⟩ = some (.slice (some ad396) t386.length co10) ∧ w'.cell? (ad396.add ((t393).toNat * 3)) = some (.int .i64 ((rd_T76 t386 t393).f0)) ∧ w'.cell? ⟨(ad396.add ((t393).toNat * 3)).block, (ad396.add ((t393).toNat * 3)).off + 1, none⟩ = some (.int .i64 ((rd_T76 t386 t393).f1)) ∧ w'.cell? ⟨(ad396.add ((t393).toNat * 3)).block, (ad396.add ((t393).toNat * 3)).off + 2, none⟩ = some (.int .i64 ((rd_T76 t386 t393).f2))) ∧ (Kd.R k76 76 w' w.heap.size (fun k_ => k_ ≠ s_) (.slice (some ad396) t386.length co10) t386) ∧ (w'.heap[gb380]? = some (.cells #[.int .i64 0, .slice none 0 0] 30 (0, 0))) ∧ (w'.heap[gb389]? = some (.cells #[.int .i64 t385, .slice (some ad396) t386.length co10] 30 (0, 0))) ∧ (w'.heap[s_]? = some (.cells #[.int .i64 0, .int .i64 0, .int .i64 0] 76 (0, 0))) ∧ (w.heap.size ≤ s_) ∧ (w.heap.size ≤ s_) ∧ (g384 ≠ s_) ∧ (s_ ≠ g384) ∧ (gb380 ≠ s_) ∧ (s_ ≠ gb380) ∧ (gb389 ≠ s_) ∧ (s_ ≠ gb389) ∧ (IsS115 w w' g384 t381 t394 t395) ∧ (Below w.heap.size w w')) ?_ ?_
  rotate_left
  ·intro hCont
   refine two_ (i := 6) (j := 9) (Ni := some 27) (Nj := some 7) ba12_8 ba12_9 rfl rfl rfl rfl (two_of HT_.out (by kernel_rfl)) (by decide) (by decide) (fun K hK => ?_) (fun K hK => ?_)
   ·skip
    refine gz_ Try.func68 #[.pointer (some ⟨g384, 0, none⟩), .int .i64 (t386.length : Int)] ?_
    with_reducible refine (spec_l01Below.calls g384 t381 x385001_2 x385002_2 (t386.length : Int) t393 t394 t395 w _ ?side1 ?side2 A21.out).mono ?_
    (case side1 => exact is115_)
    (case side2 => exact bw115_)
    rintro e w25 ⟨rfl, hi, hb, hk⟩
    have HS2_ := keep_cell hk (hHeld.2.2.1) (by first | (rw [add_block]; exact Kd.own_blk (IsS115.own_ne HI384.out HO_390001.out (by decide))) | (show (Addr.add _ _).block ≠ _; rw [add_block]; exact Kd.own_blk (IsS115.own_ne HI384.out HO_390001.out (by decide))) | exact Kd.own_blk (IsS115.own_ne HI384.out HO_390001.out (by decide)))
    have HS3_ := keep_cell hk (hHeld.2.2.2.1) (by first | (rw [add_block]; exact Kd.own_blk (IsS115.own_ne HI384.out HO_390001.out (by decide))) | (show (Addr.add _ _).block ≠ _; rw [add_block]; exact Kd.own_blk (IsS115.own_ne HI384.out HO_390001.out (by decide))) | exact Kd.own_blk (IsS115.own_ne HI384.out HO_390001.out (by decide)))
    have HS4_ := keep_cell hk (hHeld.2.2.2.2) (by first | (rw [add_block]; exact Kd.own_blk (IsS115.own_ne HI384.out HO_390001.out (by decide))) | (show (Addr.add _ _).block ≠ _; rw [add_block]; exact Kd.own_blk (IsS115.own_ne HI384.out HO_390001.out (by decide))) | exact Kd.own_blk (IsS115.own_ne HI384.out HO_390001.out (by decide)))
    refine ⟨_, rfl, ?_⟩
    replace HO_390001 := ak115_ HO_390001 (show IsS115 w _ g384 t381 x385001_2 x385002_2 from is115_) hk
    replace BK380 := kb_ BK380 NB380_384 hk
    replace BK389 := kb_ BK389 NB389_384 hk
    replace HB := Aside0.mk (hb)
    replace HI384 := Aside0.mk (hi)
    clear hb hk hi
    refine hK.out _ _ ⟨bq5_ BK389 0, bq5_ BK389 1, HS2_, HS3_, HS4_⟩ (fun hHeld => ?_)
    clear hK K
    refine nz_ 27 ?_
    refine pz_ 7 28 ba12_10 HT_ ?_
    refine pt_ 8 29 ba12_11 HT_ HW_ hHeld ?_
    refine on_ 9 (some 7) ba12_7 HT_ (fun K hK => ?_)
    refine box_step ?hg (N := 7) ?hd (cs := #[.int .i64 0, .int .i64 0, .int .i64 0]) (t := 76) ?hr ?_; (case hd => rfl); (case hg => rfl); (case hr => first | (go_simp; done) | (go_simp; rfl))
    intro gb397 hg w26 hbox hb
    have HS2_ := (hb.cell (World.block_lt_of_cell? _ _ (hHeld.2.2.1))).trans (hHeld.2.2.1)
    have HS3_ := (hb.cell (World.block_lt_of_cell? _ _ (hHeld.2.2.2.1))).trans (hHeld.2.2.2.1)
    have HS4_ := (hb.cell (World.block_lt_of_cell? _ _ (hHeld.2.2.2.2))).trans (hHeld.2.2.2.2)
    have BK397 := Aside0.mk hbox
    have GW397 := Aside0.mk ((by rw [hg]; exact (below_size (bw115_)) : w.heap.size ≤ gb397))
    have GE397 := Aside0.mk ((by rw [hg]; exact (below_size (bw115_)) : w.heap.size ≤ gb397))
    have NB380_397 := nl_ BK380 hg
    have NB397_380 := ng_ BK380 hg
    have NB389_397 := nl_ BK389 hg
    have NB397_389 := ng_ BK389 hg
    have NB384_397 := Aside0.mk ((by rw [hg]; exact Nat.ne_of_lt (IsS115.lt (show IsS115 w _ g384 t381 t394 t395 from is115_)) : g384 ≠ gb397))
    have NB397_384 := Aside0.mk ((by rw [hg]; exact Nat.ne_of_gt (IsS115.lt (show IsS115 w _ g384 t381 t394 t395 from is115_)) : gb397 ≠ g384))
    replace HO_390001 := Aside0.mk (Kd.R_below (Kd.R_elderB (hd_ HO_390001) gb397 (Nat.le_of_eq hg.symm)) hb)
    replace HB := bs115_ hb
    replace BK380 := ab_ BK380 hb
    replace BK389 := ab_ BK389 hb
    replace HI384 := Aside0.mk (IsS115.below is115_ hb)
    clear hb hbox hg
    refine hK.out _ _ ⟨bq5_ BK389 0, bq5_ BK389 1, HS2_, HS3_, HS4_⟩ (fun hHeld => ?_)
    clear hK K
    refine nz_ 7 ?_
    exact norm_ (by simp only [putAll, Act.put, List.setIfInBounds_toArray, List.set_cons_zero, List.set_cons_succ]) (hCont (gb397) _ ⟨hHeld, (hq_ (Kd.R_mono HO_390001.out (fun _ hk => hk.2))), (bx_ BK380), (bx_ BK389), (bx_ BK397), GW397.out, GE397.out, NB384_397.out, NB397_384.out, NB380_397.out, NB397_380.out, NB389_397.out, NB397_389.out, (is115_), (bw115_)⟩)
   ·skip
    refine box_step ?hg (N := 7) ?hd (cs := #[.int .i64 0, .int .i64 0, .int .i64 0]) (t := 76) ?hr ?_; (case hd => rfl); (case hg => rfl); (case hr => first | (go_simp; done) | (go_simp; rfl))
    intro gb397 hg w25 hbox hb
    have HS2_ := (hb.cell (World.block_lt_of_cell? _ _ (hHeld.2.2.1))).trans (hHeld.2.2.1)
    have HS3_ := (hb.cell (World.block_lt_of_cell? _ _ (hHeld.2.2.2.1))).trans (hHeld.2.2.2.1)
    have HS4_ := (hb.cell (World.block_lt_of_cell? _ _ (hHeld.2.2.2.2))).trans (hHeld.2.2.2.2)
    have BK397 := Aside0.mk hbox
    have GW397 := Aside0.mk ((by rw [hg]; exact (below_size (bw115_)) : w.heap.size ≤ gb397))
    have GE397 := Aside0.mk ((by rw [hg]; exact (below_size (bw115_)) : w.heap.size ≤ gb397))
    have NB380_397 := nl_ BK380 hg
    have NB397_380 := ng_ BK380 hg
    have NB389_397 := nl_ BK389 hg
    have NB397_389 := ng_ BK389 hg
    have NB384_397 := Aside0.mk ((by rw [hg]; exact Nat.ne_of_lt (IsS115.lt (show IsS115 w _ g384 t381 x385001_2 x385002_2 from is115_)) : g384 ≠ gb397))
    have NB397_384 := Aside0.mk ((by rw [hg]; exact Nat.ne_of_gt (IsS115.lt (show IsS115 w _ g384 t381 x385001_2 x385002_2 from is115_)) : gb397 ≠ g384))
    replace HO_390001 := Aside0.mk (Kd.R_below (Kd.R_elderB (hd_ HO_390001) gb397 (Nat.le_of_eq hg.symm)) hb)
    replace HB := bs115_ hb
    replace BK380 := ab_ BK380 hb
    replace BK389 := ab_ BK389 hb
    replace HI384 := Aside0.mk (IsS115.below is115_ hb)
    clear hb hbox hg
    refine hK.out _ _ ⟨bq5_ BK389 0, bq5_ BK389 1, HS2_, HS3_, HS4_⟩ (fun hHeld => ?_)
    clear hK K
    refine nz_ 7 ?_
    refine on_ 6 (some 27) ba12_12 HT_ (fun K hK => ?_)
    refine gz_ Try.func68 #[.pointer (some ⟨g384, 0, none⟩), .int .i64 (t386.length : Int)] ?_
    with_reducible refine (spec_l01Below.calls g384 t381 x385001_2 x385002_2 (t386.length : Int) t393 t394 t395 w _ ?side1 ?side2 A21.out).mono ?_
    (case side1 => exact is115_)
    (case side2 => exact bw115_)
    rintro e w26 ⟨rfl, hi, hb, hk⟩
    have HS2_ := keep_cell hk (hHeld.2.2.1) (by first | (rw [add_block]; exact Kd.own_blk (IsS115.own_ne HI384.out HO_390001.out (by decide))) | (show (Addr.add _ _).block ≠ _; rw [add_block]; exact Kd.own_blk (IsS115.own_ne HI384.out HO_390001.out (by decide))) | exact Kd.own_blk (IsS115.own_ne HI384.out HO_390001.out (by decide)))
    have HS3_ := keep_cell hk (hHeld.2.2.2.1) (by first | (rw [add_block]; exact Kd.own_blk (IsS115.own_ne HI384.out HO_390001.out (by decide))) | (show (Addr.add _ _).block ≠ _; rw [add_block]; exact Kd.own_blk (IsS115.own_ne HI384.out HO_390001.out (by decide))) | exact Kd.own_blk (IsS115.own_ne HI384.out HO_390001.out (by decide)))
    have HS4_ := keep_cell hk (hHeld.2.2.2.2) (by first | (rw [add_block]; exact Kd.own_blk (IsS115.own_ne HI384.out HO_390001.out (by decide))) | (show (Addr.add _ _).block ≠ _; rw [add_block]; exact Kd.own_blk (IsS115.own_ne HI384.out HO_390001.out (by decide))) | exact Kd.own_blk (IsS115.own_ne HI384.out HO_390001.out (by decide)))
    refine ⟨_, rfl, ?_⟩
    replace HO_390001 := ak115_ HO_390001 (show IsS115 w _ g384 t381 x385001_2 x385002_2 from is115_) hk
    replace BK380 := kb_ BK380 NB380_384 hk
    replace BK389 := kb_ BK389 NB389_384 hk
    replace BK397 := kb_ BK397 NB397_384 hk
    replace HB := Aside0.mk (hb)
    replace HI384 := Aside0.mk (hi)
    clear hb hk hi
    refine hK.out _ _ ⟨bq5_ BK389 0, bq5_ BK389 1, HS2_, HS3_, HS4_⟩ (fun hHeld => ?_)
    clear hK K
    refine nz_ 27 ?_
    refine pz_ 7 28 ba12_13 HT_ ?_
    refine pt_ 8 29 ba12_7 HT_ HW_ hHeld ?_
    exact norm_ (by simp only [putAll, Act.put, List.setIfInBounds_toArray, List.set_cons_zero, List.set_cons_succ]) (hCont (gb397) _ ⟨hHeld, (hq_ (Kd.R_mono HO_390001.out (fun _ hk => hk.2))), (bx_ BK380), (bx_ BK389), (bx_ BK397), GW397.out, GE397.out, NB384_397.out, NB397_384.out, NB380_397.out, NB397_380.out, NB389_397.out, NB397_389.out, (is115_), (bw115_)⟩)
  rintro gb397 w27 ⟨hS_, h0_, h1_, h2_, h3_, h4_, h5_, h6_, h7_, h8_, h9_, h10_, h11_, h12_, h13_⟩
  have BK397 : Aside0 (w27.heap[gb397]? = some (.cells #[.int .i64 0, .int .i64 0, .int .i64 0] 76 (0, 0))) := ⟨h3_⟩
  have GW397 : Aside0 (w.heap.size ≤ gb397) := ⟨h4_⟩
  have GE397 : Aside0 (w.heap.size ≤ gb397) := ⟨h5_⟩
  have NB384_397 : Aside0 (g384 ≠ gb397) := ⟨h6_⟩
  have NB397_384 : Aside0 (gb397 ≠ g384) := ⟨h7_⟩
  have NB380_397 : Aside0 (gb380 ≠ gb397) := ⟨h8_⟩
  have NB397_380 : Aside0 (gb397 ≠ gb380) := ⟨h9_⟩
  have NB389_397 : Aside0 (gb389 ≠ gb397) := ⟨h10_⟩
  have NB397_389 : Aside0 (gb397 ≠ gb389) := ⟨h11_⟩
  replace HO_390001 : Aside0 (Kd.R k76 76 w27 w.heap.size (fun k_ => k_ ≠ gb397) (.slice (some ad396) t386.length co10) t386) := ⟨h0_⟩
  replace BK380 : Aside0 (w27.heap[gb380]? = some (.cells #[.int .i64 0, .slice none 0 0] 30 (0, 0))) := ⟨h1_⟩
  replace BK389 : Aside0 (w27.heap[gb389]? = some (.cells #[.int .i64 t385, .slice (some ad396) t386.length co10] 30 (0, 0))) := ⟨h2_⟩
  replace HI384 : Aside0 (IsS115 w w27 g384 t381 t394 t395) := ⟨h12_⟩
  replace HB : Aside0 (Below w.heap.size w w27) := ⟨h13_⟩
  clear h0_ h1_ h2_ h3_ h4_ h5_ h6_ h7_ h8_ h9_ h10_ h11_ h12_ h13_
  have hHeld : w27.cell? ⟨gb389, 0, none⟩ = some (.int .i64 t385) ∧ w27.cell? ⟨gb389, 1, none⟩ = some (.slice (some ad396) t386.length co10) ∧ w27.cell? (ad396.add ((t393).toNat * 3)) = some (.int .i64 ((rd_T76 t386 t393).f0)) ∧ w27.cell? ⟨(ad396.add ((t393).toNat * 3)).block, (ad396.add ((t393).toNat * 3)).off + 1, none⟩ = some (.int .i64 ((rd_T76 t386 t393).f1)) ∧ w27.cell? ⟨(ad396.add ((t393).toNat * 3)).block, (ad396.add ((t393).toNat * 3)).off + 2, none⟩ = some (.int .i64 ((rd_T76 t386 t393).f2)) := hS_
  refine norm_ (a' := ?_) ?_ ?_
  rotate_left; · simp only [putAll, Act.put, List.setIfInBounds_toArray, List.set_cons_zero, List.set_cons_succ]; rfl
  refine on_ 10 none ba12_14 HT_ (fun K hK => ?_)
  have hs28 : w27.cell? ⟨gb397, 0, none⟩ = some (.int .i64 0) := bq5_ BK397 0
  have hfs28 := fz_ BK397 0
  have hns28_0 := NB380_397.out
  have hns28_1 := NB389_397.out
  have hms28_0 := NB397_380.out
  have hms28_1 := NB397_389.out
  have hs29 : w27.cell? ⟨gb397, 1, none⟩ = some (.int .i64 0) := bq5_ BK397 1
  have hfs29 := fz_ BK397 1
  have hns29_0 := NB380_397.out
  have hns29_1 := NB389_397.out
  have hms29_0 := NB397_380.out
  have hms29_1 := NB397_389.out
  have hs30 : w27.cell? ⟨gb397, 2, none⟩ = some (.int .i64 0) := bq5_ BK397 2
  have hfs30 := fz_ BK397 2
  have hns30_0 := NB380_397.out
  have hns30_1 := NB389_397.out
  have hms30_0 := NB397_380.out
  have hms30_1 := NB397_389.out
  refine skip_ (w1 := ?_) (by rfl) rfl ?_ ?_
  rotate_left; · go_simp; rfl
  refine hK.out _ _ ⟨((cell_far (p := ⟨gb397, _, none⟩) NB389_397.out _).trans (((cell_far (p := ⟨gb397, _, none⟩) NB389_397.out _).trans (((cell_far (p := ⟨gb397, _, none⟩) NB389_397.out _).trans (hHeld.1)))))), ((cell_far (p := ⟨gb397, _, none⟩) NB389_397.out _).trans (((cell_far (p := ⟨gb397, _, none⟩) NB389_397.out _).trans (((cell_far (p := ⟨gb397, _, none⟩) NB389_397.out _).trans (hHeld.2.1)))))), ((cell_far (p := ⟨gb397, _, none⟩) (by first | exact Kd.own_blk (Kd.R_away HO_390001.out (fun _ hk => hk)) | (rw [add_block]; exact Kd.own_blk (Kd.R_away HO_390001.out (fun _ hk => hk))) | (show (Addr.add _ _).block ≠ _; rw [add_block]; exact Kd.own_blk (Kd.R_away HO_390001.out (fun _ hk => hk))) | (dsimp only; exact Kd.own_blk (Kd.R_away HO_390001.out (fun _ hk => hk)))) _).trans (((cell_far (p := ⟨gb397, _, none⟩) (by first | exact Kd.own_blk (Kd.R_away HO_390001.out (fun _ hk => hk)) | (rw [add_block]; exact Kd.own_blk (Kd.R_away HO_390001.out (fun _ hk => hk))) | (show (Addr.add _ _).block ≠ _; rw [add_block]; exact Kd.own_blk (Kd.R_away HO_390001.out (fun _ hk => hk))) | (dsimp only; exact Kd.own_blk (Kd.R_away HO_390001.out (fun _ hk => hk)))) _).trans (((cell_far (p := ⟨gb397, _, none⟩) (by first | exact Kd.own_blk (Kd.R_away HO_390001.out (fun _ hk => hk)) | (rw [add_block]; exact Kd.own_blk (Kd.R_away HO_390001.out (fun _ hk => hk))) | (show (Addr.add _ _).block ≠ _; rw [add_block]; exact Kd.own_blk (Kd.R_away HO_390001.out (fun _ hk => hk))) | (dsimp only; exact Kd.own_blk (Kd.R_away HO_390001.out (fun _ hk => hk)))) _).trans (hHeld.2.2.1)))))), ((cell_far (p := ⟨gb397, _, none⟩) (by first | exact Kd.own_blk (Kd.R_away HO_390001.out (fun _ hk => hk)) | (rw [add_block]; exact Kd.own_blk (Kd.R_away HO_390001.out (fun _ hk => hk))) | (show (Addr.add _ _).block ≠ _; rw [add_block]; exact Kd.own_blk (Kd.R_away HO_390001.out (fun _ hk => hk))) | (dsimp only; exact Kd.own_blk (Kd.R_away HO_390001.out (fun _ hk => hk)))) _).trans (((cell_far (p := ⟨gb397, _, none⟩) (by first | exact Kd.own_blk (Kd.R_away HO_390001.out (fun _ hk => hk)) | (rw [add_block]; exact Kd.own_blk (Kd.R_away HO_390001.out (fun _ hk => hk))) | (show (Addr.add _ _).block ≠ _; rw [add_block]; exact Kd.own_blk (Kd.R_away HO_390001.out (fun _ hk => hk))) | (dsimp only; exact Kd.own_blk (Kd.R_away HO_390001.out (fun _ hk => hk)))) _).trans (((cell_far (p := ⟨gb397, _, none⟩) (by first | exact Kd.own_blk (Kd.R_away HO_390001.out (fun _ hk => hk)) | (rw [add_block]; exact Kd.own_blk (Kd.R_away HO_390001.out (fun _ hk => hk))) | (show (Addr.add _ _).block ≠ _; rw [add_block]; exact Kd.own_blk (Kd.R_away HO_390001.out (fun _ hk => hk))) | (dsimp only; exact Kd.own_blk (Kd.R_away HO_390001.out (fun _ hk => hk)))) _).trans (hHeld.2.2.2.1)))))), ((cell_far (p := ⟨gb397, _, none⟩) (by first | exact Kd.own_blk (Kd.R_away HO_390001.out (fun _ hk => hk)) | (rw [add_block]; exact Kd.own_blk (Kd.R_away HO_390001.out (fun _ hk => hk))) | (show (Addr.add _ _).block ≠ _; rw [add_block]; exact Kd.own_blk (Kd.R_away HO_390001.out (fun _ hk => hk))) | (dsimp only; exact Kd.own_blk (Kd.R_away HO_390001.out (fun _ hk => hk)))) _).trans (((cell_far (p := ⟨gb397, _, none⟩) (by first | exact Kd.own_blk (Kd.R_away HO_390001.out (fun _ hk => hk)) | (rw [add_block]; exact Kd.own_blk (Kd.R_away HO_390001.out (fun _ hk => hk))) | (show (Addr.add _ _).block ≠ _; rw [add_block]; exact Kd.own_blk (Kd.R_away HO_390001.out (fun _ hk => hk))) | (dsimp only; exact Kd.own_blk (Kd.R_away HO_390001.out (fun _ hk => hk)))) _).trans (((cell_far (p := ⟨gb397, _, none⟩) (by first | exact Kd.own_blk (Kd.R_away HO_390001.out (fun _ hk => hk)) | (rw [add_block]; exact Kd.own_blk (Kd.R_away HO_390001.out (fun _ hk => hk))) | (show (Addr.add _ _).block ≠ _; rw [add_block]; exact Kd.own_blk (Kd.R_away HO_390001.out (fun _ hk => hk))) | (dsimp only; exact Kd.own_blk (Kd.R_away HO_390001.out (fun _ hk => hk)))) _).trans (hHeld.2.2.2.2))))))⟩ (fun hHeld => ?_)
  clear hK K
  refine done_ (done_of HT_.out (by kernel_rfl)) ?_
  go_wp2
  generalize hW_ : (((w27.setCell ⟨gb397, 0, none⟩ (.int .i64 ((rd_T76 t386 t393).f0))).setCell ⟨gb397, 1, none⟩ (.int .i64 ((rd_T76 t386 t393).f1))).setCell ⟨gb397, 2, none⟩ (.int .i64 ((rd_T76 t386 t393).f2))) = w31
  have n0_ : Aside0 (Kd.R k76 76 w31 w.heap.size (fun k_ => k_ ≠ gb397) (.slice (some ad396) t386.length co10) t386) := by subst hW_; exact ⟨hq_ (Kd.R_mono (Kd.R_far (Kd.R_far (Kd.R_far (Kd.R_mono HO_390001.out (fun k_ hk => (⟨hk, hk⟩ : _ ∧ k_ ≠ gb397))) (fun _ hk => hk.2) _) (fun _ hk => hk.2) _) (fun _ hk => hk.2) _) (fun _ hk => hk.1))⟩
  have n1_ : Aside0 (w31.heap[gb380]? = some (.cells #[.int .i64 0, .slice none 0 0] 30 (0, 0))) := by subst hW_; exact ⟨bc_ BK380⟩
  have n2_ : Aside0 (w31.heap[gb389]? = some (.cells #[.int .i64 t385, .slice (some ad396) t386.length co10] 30 (0, 0))) := by subst hW_; exact ⟨bc_ BK389⟩
  have n3_ : Aside0 (w31.heap[gb397]? = some (.cells #[.int .i64 ((rd_T76 t386 t393).f0), .int .i64 ((rd_T76 t386 t393).f1), .int .i64 ((rd_T76 t386 t393).f2)] 76 (0, 0))) := by subst hW_; exact ⟨by refine bd_ ?_; refine blk_put (cs := #[.int .i64 ((rd_T76 t386 t393).f0), .int .i64 ((rd_T76 t386 t393).f1), .int .i64 0]) ?_ 2 _ rfl; refine bd_ ?_; refine blk_put (cs := #[.int .i64 ((rd_T76 t386 t393).f0), .int .i64 0, .int .i64 0]) ?_ 1 _ rfl; refine bd_ ?_; refine blk_put (cs := #[.int .i64 0, .int .i64 0, .int .i64 0]) ?_ 0 _ rfl; refine bd_ ?_; exact BK397.out⟩
  have n4_ : Aside0 (IsS115 w w31 g384 t381 t394 t395) := by subst hW_; exact ⟨is115_⟩
  have n5_ : Aside0 (Below w.heap.size w w31) := by subst hW_; exact ⟨bw115_⟩
  clear hW_ HO_390001 BK380 BK389 BK397 HI384 HB
  have HO_390001 := n0_
  have BK380 := n1_
  have BK389 := n2_
  have BK397 := n3_
  have HI384 := n4_
  have HB := n5_
  clear n0_ n1_ n2_ n3_ n4_ n5_
  replace HO_390001 := rw5_ HO_390001
  replace BK380 := ad_ BK380
  replace BK389 := ad_ BK389
  replace BK397 := ad_ BK397
  replace HI384 := Aside0.mk (IsS115.drew HI384.out)
  replace HB := Aside0.mk (below_drew1 HB.out)
  refine start_ (n := 8) (S := fun w' => w'.cell? ⟨gb389, 0, none⟩ = some (.int .i64 t385) ∧ w'.cell? ⟨gb389, 1, none⟩ = some (.slice (some ad396) t386.length co10) ∧ w'.cell? ⟨gb397, 0, none⟩ = some (.int .i64 ((rd_T76 t386 t393).f0)) ∧ w'.cell? ⟨gb397, 1, none⟩ = some (.int .i64 ((rd_T76 t386 t393).f1)) ∧ w'.cell? ⟨gb397, 2, none⟩ = some (.int .i64 ((rd_T76 t386 t393).f2))) (ds := []) ba12_15 (by kernel_rfl) rfl rfl ⟨bq5_ BK389 0, bq5_ BK389 1, bq5_ BK397 0, bq5_ BK397 1, bq5_ BK397 2⟩ (fun hHeld => ?_); refine with_tabW spec_DrawCostOf.tab4 spec_DrawCostOf.bits4 (fun HT_ HW_ => ?_)
  generalize w31.drew = w32 at HO_390001 BK380 BK389 BK397 HI384 HB hHeld ⊢
  refine pz_ 1 31 ba12_16 HT_ ?_
  refine pz_ 3 33 ba12_17 HT_ ?_
  refine pt_ 0 30 ba12_18 HT_ HW_ hHeld ?_
  refine pt_ 2 32 ba12_19 HT_ HW_ hHeld ?_
  refine pt_ 4 34 ba12_20 HT_ HW_ hHeld ?_
  refine on_ 5 none ba12_21 HT_ (fun K hK => ?_)
  have hs33 : w32.cell? ⟨gb380, 0, none⟩ = some (.int .i64 0) := bq5_ BK380 0
  have hfs33 := fz_ BK380 0
  have hns33_1 := NB389_380.out
  have hns33_2 := NB397_380.out
  have hms33_1 := NB380_389.out
  have hms33_2 := NB380_397.out
  have hs34 : w32.cell? ⟨gb380, 1, none⟩ = some (.slice none 0 0) := bq5_ BK380 1
  have hfs34 := fz_ BK380 1
  have hns34_1 := NB389_380.out
  have hns34_2 := NB397_380.out
  have hms34_1 := NB380_389.out
  have hms34_2 := NB380_397.out
  refine skip_ (w1 := ?_) (by rfl) rfl ?_ ?_
  rotate_left; · go_simp; rfl
  refine hK.out _ _ ⟨((cell_far (p := ⟨gb380, _, none⟩) NB389_380.out _).trans (((cell_far (p := ⟨gb380, _, none⟩) NB389_380.out _).trans (hHeld.1)))), ((cell_far (p := ⟨gb380, _, none⟩) NB389_380.out _).trans (((cell_far (p := ⟨gb380, _, none⟩) NB389_380.out _).trans (hHeld.2.1)))), ((cell_far (p := ⟨gb380, _, none⟩) NB397_380.out _).trans (((cell_far (p := ⟨gb380, _, none⟩) NB397_380.out _).trans (hHeld.2.2.1)))), ((cell_far (p := ⟨gb380, _, none⟩) NB397_380.out _).trans (((cell_far (p := ⟨gb380, _, none⟩) NB397_380.out _).trans (hHeld.2.2.2.1)))), ((cell_far (p := ⟨gb380, _, none⟩) NB397_380.out _).trans (((cell_far (p := ⟨gb380, _, none⟩) NB397_380.out _).trans (hHeld.2.2.2.2))))⟩ (fun hHeld => ?_)
  clear hK K
  refine pz_ 6 3 ba12_22 HT_ ?_
  refine pz_ 7 4 ba12_23 HT_ ?_
  refine done_ (done_of HT_.out (by kernel_rfl)) ?_
  go_wp2
  refine bodyPost_ret (results_ctt rfl _ _ gb380 30 #[.int .i64 t385, .slice (some ad396) t386.length co10] (0, 0) _ rfl (by refine bd_ ?_; refine blk_put (cs := #[.int .i64 t385, .slice none 0 0]) ?_ 1 _ rfl; refine bd_ ?_; refine blk_put (cs := #[.int .i64 0, .slice none 0 0]) ?_ 0 _ rfl; refine bd_ ?_; exact BK380.out) Try.underlying30 rfl (by kernel_rfl)) rfl ?_
  exact ⟨_, ew_, by (with_reducible repeat (first | apply Kd.R_alloc | apply Kd.R_drewN | apply Kd.R_drew)); exact Kd.R_mono (Kd.R_far (Kd.R_far (Kd.R_types HO_390001.out BK380.out (by decide)) (fun _ hk => hk.2) _) (fun _ hk => hk.2) _) (fun _ hk => trivial), bw115_⟩
def spec_DrawCheapestWay.f (k : Nat) (l0 : List Int) : Option (Int × (List (S76)) × Int × Int) := (spec_DrawCostOf.f k l0).bind fun bt405 => (some (bt405.1, bt405.2.1, bt405.2.2.1, bt405.2.2.2))
set_option maxHeartbeats 8000000 in
set_option maxRecDepth 100000 in
theorem spec_DrawCheapestWay.calls (k : Nat) (A0 : Option Addr) (c0 : Nat) (l0 : List Int) (r1 : Int) (r2 : List (S76)) (r3 : Int) (r4 : Int) (w : World) (hr0 : Kd.C (Kd.int .u8) w A0 l0.length l0) (hc0 : l0.length ≤ c0) (h : spec_DrawCheapestWay.f k l0 = some (r1, r2, r3, r4)) :
  Calls Try.prog 38 #[.slice A0 l0.length c0] w fun e w' => ∃ v1_ : Value, e = .returned (.tuple #[.agg #[.int .i64 r1, v1_], .int .i64 r3, .int .i64 r4]) ∧ Kd.R k76 76 w' w.heap.size (fun _ => True) v1_ r2 ∧ Below w.heap.size w w' := by
 have hu30 := Try.underlying30
 have HR0 := Aside0.mk hr0
 have HC0 := Aside0.mk hc0
 clear hr0 hc0
 have HB := Aside0.mk (Below.refl w.heap.size w)
 have H : ((spec_DrawCostOf.f k l0).bind fun bt405 => (some (bt405.1, bt405.2.1, bt405.2.2.1, bt405.2.2.2))) = some (r1, r2, r3, r4) := h
 clear h
 obtain ⟨⟨t405, t406, t409, t410⟩, A2, H⟩ := ob_ H
 simp only [Option.some.injEq, Prod.mk.injEq] at H
 obtain ⟨rfl, rfl, rfl, rfl⟩ := H
 go_enter Try.func38, Try.ntmps38
 go_wp2_with (first | ((with_reducible refine gate_dst (N := 2) rfl ?_); refine be_ 2 #[.int .i64 0, .slice none 0 0] 30 ?_; intro gb404 hg w3 BK404 hb; have GW404 := ge_ HB hg; have GE404 := ge_ HB hg; replace HB := at_ HB hb; clear hb hg) | ((with_reducible refine gate_callee (f := 70) rfl ?_); refine gl_ (some 6) Try.func70 #[.slice A0 l0.length c0] ?_; (with_reducible refine (spec_DrawCostOf.calls k _ _ l0 t405 t406 t409 t410 _ ?side1 ?side2 A2.out).mono ?_); (case side1 => exact cb_ HR0 HB); (case side2 => exact HC0.out); rintro e w4 ⟨v407, rfl, ho0, hb⟩; refine ⟨_, rfl, ?_⟩; have HO408 := Aside0.mk (Kd.R_lower ho0 (bz_ HB)); replace BK404 := ab_ BK404 hb; replace HB := at_ HB hb; clear hb ho0; have hcz5_0 := cz_ BK404 0 (.int .i64 0); have hcz5_1 := cz_ BK404 1 (.slice none 0 0); have hfz5_0 := fz_ BK404 0; have hfz5_1 := fz_ BK404 1; obtain ⟨Ao6, co6, eo6⟩ := Kd.R_slice HO408.out; subst eo6))
 refine bodyPost_ret (results_ctt rfl _ _ gb404 30 #[.int .i64 t405, .slice Ao6 t406.length co6] (0, 0) _ rfl (by refine bd_ ?_; refine blk_put (cs := #[.int .i64 t405, .slice none 0 0]) ?_ 1 _ rfl; refine bd_ ?_; refine blk_put (cs := #[.int .i64 0, .slice none 0 0]) ?_ 0 _ rfl; refine bd_ ?_; exact BK404.out) Try.underlying30 rfl (by kernel_rfl)) rfl ?_
 exact ⟨_, ew_, by (with_reducible repeat (first | apply Kd.R_alloc | apply Kd.R_drewN | apply Kd.R_drew)); exact Kd.R_mono (Kd.R_far (Kd.R_far (Kd.R_types HO408.out BK404.out (by decide)) (fun _ hk => hk.2) _) (fun _ hk => hk.2) _) (fun _ hk => trivial), bw115_⟩
end Go.Proofs.Ythmahcohcphljaa.QFnCheapest
