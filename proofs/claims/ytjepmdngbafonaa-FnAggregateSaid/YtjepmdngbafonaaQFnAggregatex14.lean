/- Contracts of functions that the law reaches: what each call returns and what it leaves in memory. Made by this session over the print of the kit. -/
import Derived.Test.YtjepmdngbafonaaQFnAggregatex0
import Derived.Test.YtjepmdngbafonaaQFnAggregatex13
namespace Go.Proofs.Ytjepmdngbafonaa.QFnAggregate
open Go.RowKit Go.Proofs.YtjepmdngbafonaaB.PrintWords Go.Proofs.YtjepmdngbafonaaB.PrintLast Go.Proofs.YtjepmdngbafonaaB.PrintMore
attribute [local go_sem] max2_int min2_int max_two min_two max_three min_three max_four min_four   -- for this text's walks alone
set_option linter.unusedVariables false
set_option linter.unusedSimpArgs false

/-! ### spec_l01Blocks: function 71 -/
mutual
def spec_l01Blocks.l0 : Nat → List (List Bool) → Int → Option ((List (S28)))
 | 0, _, _ => none
 | k + 1, x3, x4 => if x4 ≥ 0 then (if 0 ≤ (wrap64 (x4 + 1)) then (if (wrap64 (x4 + 1)) < (x3.length : Int) then (if 0 ≤ (wrap64 (((rd_L5 x3 (wrap64 (x4 + 1))).length : Int) / 2)) then (if (wrap64 (((rd_L5 x3 (wrap64 (x4 + 1))).length : Int) / 2) : Int).toNat ≤ 281474976710656 then (spec_l01Blocks.l1 k x3 x4 (rd_L5 x3 (wrap64 (x4 + 1))) (List.replicate (wrap64 (((rd_L5 x3 (wrap64 (x4 + 1))).length : Int) / 2) : Int).toNat false) 0) else (none)) else (none)) else (none)) else (none)) else (spec_l01Blocks.l2 k x3 (([] : List (S28))) 0)
def spec_l01Blocks.l1 : Nat → List (List Bool) → Int → List Bool → List Bool → Int → Option ((List (S28)))
 | 0, _, _, _, _, _ => none
 | k + 1, x3, x4, x5, x6, x7 => if x7 < (x6.length : Int) then (if 0 ≤ (wrap64 (2 * x7)) then (if (wrap64 (2 * x7)) < (x5.length : Int) then (if rdOf false x5 (wrap64 (2 * x7)) = true then (if 0 ≤ (wrap64 ((wrap64 (2 * x7)) + 1)) then (if (wrap64 ((wrap64 (2 * x7)) + 1)) < (x5.length : Int) then (if 0 ≤ x7 then (spec_l01Blocks.l1 k x3 x4 x5 (x6.set (x7 : Int).toNat (rdOf false x5 (wrap64 ((wrap64 (2 * x7)) + 1)))) (wrap64 (x7 + 1))) else (none)) else (none)) else (none)) else (if 0 ≤ x7 then (spec_l01Blocks.l1 k x3 x4 x5 (x6.set (x7 : Int).toNat false) (wrap64 (x7 + 1))) else (none))) else (none)) else (none)) else (if 0 ≤ x4 then (if x4 < (x3.length : Int) then (spec_l01Blocks.l0 k (x3.set (x4 : Int).toNat x6) (wrap64 (x4 - 1))) else (none)) else (none))
def spec_l01Blocks.l2 : Nat → List (List Bool) → List (S28) → Int → Option ((List (S28)))
 | 0, _, _, _ => none
 | k + 1, x3, x8, x9 => if x9 < 65536 then (spec_l01Blocks.l3 k x3 x8 x9 0) else (some x8)
def spec_l01Blocks.j4 : Nat → List (List Bool) → List (S28) → Int → Int → Option ((List (S28)))
 | 0, _, _, _, _ => none
 | k + 1, x3, x8, x9, x10 => if 0 ≤ x10 then (if x10 < (x3.length : Int) then ((spec_l01Size2.f x10).bind fun t333 => (if t333 = 0 then (none) else (if 0 ≤ (wrap64 (Int.tdiv x9 t333)) then (if (wrap64 (Int.tdiv x9 t333)) < ((rd_L5 x3 x10).length : Int) then (if rdOf false (rd_L5 x3 x10) (wrap64 (Int.tdiv x9 t333)) = true then (if x8.length < 8796093022208 then (spec_l01Blocks.l2 k x3 (x8 ++ [(⟨x9, x10⟩ : S28)]) (wrap64 (x9 + t333))) else (none)) else (spec_l01Blocks.l2 k x3 x8 (wrap64 (x9 + 1)))) else (none)) else (none)))) else (none)) else (none)
def spec_l01Blocks.l3 : Nat → List (List Bool) → List (S28) → Int → Int → Option ((List (S28)))
 | 0, _, _, _, _ => none
 | k + 1, x3, x8, x9, x10 => if x10 < 16 then ((spec_l01Size2.f x10).bind fun t329 => (if t329 = 0 then (none) else (if (Int.tmod x9 t329) = 0 then (if 0 ≤ x10 then (if x10 < (x3.length : Int) then (if 0 ≤ (wrap64 (Int.tdiv x9 t329)) then (if (wrap64 (Int.tdiv x9 t329)) < ((rd_L5 x3 x10).length : Int) then (if (rdOf false (rd_L5 x3 x10) (wrap64 (Int.tdiv x9 t329)) = true) then (spec_l01Blocks.j4 k x3 x8 x9 x10) else (spec_l01Blocks.l3 k x3 x8 x9 (wrap64 (x10 + 1)))) else (none)) else (none)) else (none)) else (none)) else (spec_l01Blocks.l3 k x3 x8 x9 (wrap64 (x10 + 1)))))) else (spec_l01Blocks.j4 k x3 x8 x9 x10)
end
def spec_l01Blocks.f (k : Nat) (l0 : List Bool) : Option ((List (S28))) := if 17 ≤ 11728124029610 then ((some (List.replicate 17 [] : List (List Bool))).bind fun y313 => (if 16 < (y313.length : Int) then (spec_l01Blocks.l0 k (y313.set (16 : Int).toNat l0) 15) else (none))) else (none)
theorem spec_l01Blocks.mono_l : ∀ k, (∀ y0 y1, LeO (spec_l01Blocks.l0 k y0 y1) (spec_l01Blocks.l0 (k + 1) y0 y1)) ∧ (∀ y0 y1 y2 y3 y4, LeO (spec_l01Blocks.l1 k y0 y1 y2 y3 y4) (spec_l01Blocks.l1 (k + 1) y0 y1 y2 y3 y4)) ∧ (∀ y0 y1 y2, LeO (spec_l01Blocks.l2 k y0 y1 y2) (spec_l01Blocks.l2 (k + 1) y0 y1 y2)) ∧ (∀ y0 y1 y2 y3, LeO (spec_l01Blocks.j4 k y0 y1 y2 y3) (spec_l01Blocks.j4 (k + 1) y0 y1 y2 y3)) ∧ (∀ y0 y1 y2 y3, LeO (spec_l01Blocks.l3 k y0 y1 y2 y3) (spec_l01Blocks.l3 (k + 1) y0 y1 y2 y3))
 | 0 => ⟨fun _ _ r h => by simp [spec_l01Blocks.l0] at h, fun _ _ _ _ _ r h => by simp [spec_l01Blocks.l1] at h, fun _ _ _ r h => by simp [spec_l01Blocks.l2] at h, fun _ _ _ _ r h => by simp [spec_l01Blocks.j4] at h, fun _ _ _ _ r h => by simp [spec_l01Blocks.l3] at h⟩
 | k + 1 => by
  obtain ⟨ih0, ih1, ih2, ih3, ih4⟩ := spec_l01Blocks.mono_l k
  refine ⟨?_, ?_, ?_, ?_, ?_⟩
  ·intro y0 y1
   unfold spec_l01Blocks.l0
   repeat' first
   | (with_reducible exact ih0 _ _)
   | (with_reducible exact ih1 _ _ _ _ _)
   | (with_reducible exact ih2 _ _ _)
   | (with_reducible exact ih3 _ _ _ _)
   | (with_reducible exact ih4 _ _ _ _)
   | (with_reducible exact LeO.refl _)
   | (with_reducible exact LeO.none _)
   | (with_reducible refine LeO.ite ?_ ?_)
   | (with_reducible refine LeO.bind ?_ (fun _ => ?_))
   | exact ih0 _ _
   | exact ih1 _ _ _ _ _
   | exact ih2 _ _ _
   | exact ih3 _ _ _ _
   | exact ih4 _ _ _ _
   | exact LeO.none _
   | refine LeO.ite ?_ ?_
   | refine LeO.bind ?_ (fun _ => ?_)
  ·intro y0 y1 y2 y3 y4
   unfold spec_l01Blocks.l1
   repeat' first
   | (with_reducible exact ih0 _ _)
   | (with_reducible exact ih1 _ _ _ _ _)
   | (with_reducible exact ih2 _ _ _)
   | (with_reducible exact ih3 _ _ _ _)
   | (with_reducible exact ih4 _ _ _ _)
   | (with_reducible exact LeO.refl _)
   | (with_reducible exact LeO.none _)
   | (with_reducible refine LeO.ite ?_ ?_)
   | (with_reducible refine LeO.bind ?_ (fun _ => ?_))
   | exact ih0 _ _
   | exact ih1 _ _ _ _ _
   | exact ih2 _ _ _
   | exact ih3 _ _ _ _
   | exact ih4 _ _ _ _
   | exact LeO.none _
   | refine LeO.ite ?_ ?_
   | refine LeO.bind ?_ (fun _ => ?_)
  ·intro y0 y1 y2
   unfold spec_l01Blocks.l2
   repeat' first
   | (with_reducible exact ih0 _ _)
   | (with_reducible exact ih1 _ _ _ _ _)
   | (with_reducible exact ih2 _ _ _)
   | (with_reducible exact ih3 _ _ _ _)
   | (with_reducible exact ih4 _ _ _ _)
   | (with_reducible exact LeO.refl _)
   | (with_reducible exact LeO.none _)
   | (with_reducible refine LeO.ite ?_ ?_)
   | (with_reducible refine LeO.bind ?_ (fun _ => ?_))
   | exact ih0 _ _
   | exact ih1 _ _ _ _ _
   | exact ih2 _ _ _
   | exact ih3 _ _ _ _
   | exact ih4 _ _ _ _
   | exact LeO.none _
   | refine LeO.ite ?_ ?_
   | refine LeO.bind ?_ (fun _ => ?_)
  ·intro y0 y1 y2 y3
   unfold spec_l01Blocks.j4
   repeat' first
   | (with_reducible exact ih0 _ _)
   | (with_reducible exact ih1 _ _ _ _ _)
   | (with_reducible exact ih2 _ _ _)
   | (with_reducible exact ih3 _ _ _ _)
   | (with_reducible exact ih4 _ _ _ _)
   | (with_reducible exact LeO.refl _)
   | (with_reducible exact LeO.none _)
   | (with_reducible refine LeO.ite ?_ ?_)
   | (with_reducible refine LeO.bind ?_ (fun _ => ?_))
   | exact ih0 _ _
   | exact ih1 _ _ _ _ _
   | exact ih2 _ _ _
   | exact ih3 _ _ _ _
   | exact ih4 _ _ _ _
   | exact LeO.none _
   | refine LeO.ite ?_ ?_
   | refine LeO.bind ?_ (fun _ => ?_)
  ·intro y0 y1 y2 y3
   unfold spec_l01Blocks.l3
   repeat' first
   | (with_reducible exact ih0 _ _)
   | (with_reducible exact ih1 _ _ _ _ _)
   | (with_reducible exact ih2 _ _ _)
   | (with_reducible exact ih3 _ _ _ _)
   | (with_reducible exact ih4 _ _ _ _)
   | (with_reducible exact LeO.refl _)
   | (with_reducible exact LeO.none _)
   | (with_reducible refine LeO.ite ?_ ?_)
   | (with_reducible refine LeO.bind ?_ (fun _ => ?_))
   | exact ih0 _ _
   | exact ih1 _ _ _ _ _
   | exact ih2 _ _ _
   | exact ih3 _ _ _ _
   | exact ih4 _ _ _ _
   | exact LeO.none _
   | refine LeO.ite ?_ ?_
   | refine LeO.bind ?_ (fun _ => ?_)
theorem spec_l01Blocks.mono : ∀ a0 k, LeO (spec_l01Blocks.f k a0) (spec_l01Blocks.f (k + 1) a0) := by
 intro a0 k
 obtain ⟨ih0, ih1, ih2, ih3, ih4⟩ := spec_l01Blocks.mono_l k
 unfold spec_l01Blocks.f
 repeat' first
   | (with_reducible exact ih0 _ _)
   | (with_reducible exact ih1 _ _ _ _ _)
   | (with_reducible exact ih2 _ _ _)
   | (with_reducible exact ih3 _ _ _ _)
   | (with_reducible exact ih4 _ _ _ _)
   | (with_reducible exact LeO.refl _)
   | (with_reducible exact LeO.none _)
   | (with_reducible refine LeO.ite ?_ ?_)
   | (with_reducible refine LeO.bind ?_ (fun _ => ?_))
   | exact ih0 _ _
   | exact ih1 _ _ _ _ _
   | exact ih2 _ _ _
   | exact ih3 _ _ _ _
   | exact ih4 _ _ _ _
   | exact LeO.none _
   | refine LeO.ite ?_ ?_
   | refine LeO.bind ?_ (fun _ => ?_)
set_option maxHeartbeats 8000000 in
set_option maxRecDepth 100000 in
theorem spec_l01Blocks.calls (k : Nat) (P0_ : Nat → Prop) (A0 : Option Addr) (c0 : Nat) (l0 : List Bool) (r : List (S28)) (w : World) (hs0 : Kd.V Kd.bool 4 w w.heap.size (fun k_ => P0_ k_) (.slice A0 l0.length c0) l0) (h : spec_l01Blocks.f k l0 = some r) :
  Calls Try.prog 71 #[.slice A0 l0.length c0] w fun e w' => ∃ v0_ : Value, e = .returned (v0_) ∧ Kd.R k28 28 w' w.heap.size (fun k_ => (w.heap.size ≤ k_)) v0_ r ∧ Below w.heap.size w w' := by
 have hu28 := Try.underlying28
 have HO0 := Aside0.mk (show Kd.V Kd.bool 4 w w.heap.size (fun k_ => (P0_ k_ ∨ w.heap.size ≤ k_)) (.slice A0 l0.length c0) l0 from Kd.V_mono hs0 (fun k_ hk => .inl hk))
 have HB := Aside0.mk (Below.refl w.heap.size w)
 have H : (if 17 ≤ 11728124029610 then ((some (List.replicate 17 [] : List (List Bool))).bind fun y313 => (if 16 < (y313.length : Int) then (spec_l01Blocks.l0 k (y313.set (16 : Int).toNat l0) 15) else (none))) else (none)) = some r := h
 clear h
 by_cases c2 : 17 ≤ 11728124029610
 rotate_left
 ·rw [if_neg c2] at H
  exact absurd H (by simp)
 rw [if_pos c2] at H
 have c2b0 := eq_true c2
 have c2b1 : decide (17 ≤ 11728124029610) = true := decide_eq_true c2
 clear c2
 obtain ⟨y313, hy313⟩ : ∃ y_ : List (List Bool), y_ = (List.replicate 17 []) := ⟨_, rfl⟩
 replace H : (if 16 < (y313.length : Int) then (spec_l01Blocks.l0 k (y313.set (16 : Int).toNat l0) 15) else (none)) = some r := by first | (rw [hy313]; with_reducible exact H) | (have H2_ := (Option.bind_some _ _).symm.trans H; rw [hy313]; with_reducible exact H2_) | (have H2_ := (Option.bind_some _ _).symm.trans H; with_reducible exact H2_) | with_reducible exact H | (rw [hy313]; exact H) | exact H
 have Ny313 := Aside0.mk hy313
 clear hy313
 by_cases c3 : 16 < (y313.length : Int)
 rotate_left
 ·rw [if_neg c3] at H
  exact absurd H (by simp)
 rw [if_pos c3] at H
 have c3b0 : decide (16 < (y313.length : Int)) = true := decide_eq_true c3
 have c3b1 : decide (16 < y313.length) = true := decide_eq_true (by omega)
 clear c3
 obtain ⟨y316, hy316⟩ : ∃ y_ : List (List Bool), y_ = (y313.set (16 : Int).toNat l0) := ⟨_, rfl⟩
 replace H : (spec_l01Blocks.l0 k y316 15) = some r := by first | (rw [hy316]; with_reducible exact H) | (have H2_ := (Option.bind_some _ _).symm.trans H; rw [hy316]; with_reducible exact H2_) | (have H2_ := (Option.bind_some _ _).symm.trans H; with_reducible exact H2_) | with_reducible exact H | (rw [hy316]; exact H) | exact H
 have Ny316 := Aside0.mk hy316
 clear hy316
 have H' := Aside0.mk H
 clear H
 go_enter Try.func71, Try.ntmps71
 go_wp2_with (first | ((with_reducible refine gate_dst (N := 11) rfl ?_); refine Kd.N_make (Kd.slice 4 Kd.bool) _ 88 rfl (N' := 11) rfl 119 _ _ rfl 17 rfl rfl Try.underlying119 (.slice none 0 0) 24 info88 rfl (by decide) (by omega) [] (ok := fun k_ => w.heap.size ≤ k_) (okp := fun _ => False) (Kd.FK_slice_mk (Nat.le_refl _) (Kd.F_nil _ _ _)) (fun _ hk => hk.elim) (Nat.le_refl _) (by omega) (by omega) (Below.refl _ _) (Nat.le_refl _) ?_; intro v314 w5 ho6 hb hg_ hnew_; clear hg_ hnew_; (first | rw [← Ny313.out] at ho6 | (simp only [Int.reduceToNat] at ho6; rw [← Ny313.out] at ho6)); have HO315 := Aside0.mk (Kd.N_lower (Kd.N_mono (ok' := fun k_ => (P0_ k_ ∨ w.heap.size ≤ k_)) ho6 (fun k_ hk_ => (.inr (Nat.le_trans (bz_ HB) hk_)))) (bz_ HB)); replace HO0 := Aside0.mk (Kd.V_elder' (by (with_reducible repeat (first | apply Kd.V_alloc | apply Kd.V_drewN | apply Kd.V_drew)); exact HO0.out) (Kd.N_base ho6) hb); replace HB := Aside0.mk (bt_ HB hb); clear hb ho6; have p4 : 0 ≤ (16 : Int) := (by omega); have q4 : (16 : Int) < ((y313.length : Int) : Int) := of_decide_eq_true (by first | (with_reducible assumption) | assumption); have qi4 : (16 < y313.length) = True := eq_true (by omega); obtain ⟨go4, co4, eo4, gb4, gl4, cl4, HG4⟩ := Kd.N_form HO315.out (by omega); (first | cases eo4 | (injection eo4 with ea_ en_ ec_; (first | subst ea_ | (injection ea_ with ea_; subst ea_)); subst ec_; clear en_)); have GB4 := Aside0.mk gb4; have GG4 := Aside0.mk HG4; clear gb4 gl4 HG4; obtain ⟨ce4, hcl4, hM4, hcc4, hfr4⟩ := Kd.N_elem HO315.out [] (16 : Int) p4 q4; obtain ⟨ua4_0, uc4_0, rfl, ul4_0, ge4_0⟩ := Kd.FK_slice_open hM4; have hx4_0 := hcc4 0 _ rfl; have hf4_0 := hfr4 0; (try simp only [show ((Kd.slice 4 Kd.bool)).sz = 1 from rfl, Nat.mul_one, Nat.add_zero] at hx4_0); (try simp only [show ((Kd.slice 4 Kd.bool)).sz = 1 from rfl, Nat.mul_one, Nat.add_zero] at hf4_0); clear hcl4 hcc4 hfr4 hM4; (try rw [show ((16 : Int)).toNat = 16 from rfl] at hx4_0); (try simp only [Nat.reduceMul, Nat.zero_mul, Nat.zero_add, Nat.reduceAdd] at hx4_0); (try rw [show ((16 : Int)).toNat = 16 from rfl] at hf4_0); (try simp only [Nat.reduceMul, Nat.zero_mul, Nat.zero_add, Nat.reduceAdd] at hf4_0); replace p4 := eq_true p4; replace q4 := eq_true q4; have HX7 := Aside0.mk (show Kd.N (Kd.slice 4 Kd.bool) 88 w5 w.heap.size (fun k_ => (P0_ k_ ∨ w.heap.size ≤ k_)) (.slice (some ⟨go4, 0, none⟩) y313.length co4) y313 from (by (with_reducible repeat (first | apply Kd.N_alloc | apply Kd.N_drewN | apply Kd.N_drew)); exact HO315.out)); obtain ⟨ce7, hcl7, hM7, hcc7, hfr7⟩ := Kd.N_elem HX7.out [] (16 : Int) (by omega) (by have h_ : (16 : Int) < ((y313.length : Int) : Int) := of_decide_eq_true (by first | (with_reducible assumption) | assumption); first | exact h_ | (have e_ := (Kd.N_reads' HO315.out).1; omega) | simpa using h_); obtain ⟨ua7_0, uc7_0, rfl, ul7_0, ge7_0⟩ := Kd.FK_slice_open hM7; have HP7 := Kd.N_seg HX7.out (16 : Int) (by omega) (by have h_ : (16 : Int) < ((y313.length : Int) : Int) := of_decide_eq_true (by first | (with_reducible assumption) | assumption); first | exact h_ | (have e_ := (Kd.N_reads' HO315.out).1; omega) | simpa using h_) (seg := [.slice A0 l0.length c0]) (j := 0) hcl7 hcc7 (show 1 ≤ 1 from by decide) (x' := l0) (Kd.FK_slice_mk (Kd.V_reads' (Kd.V_mono (ok' := (fun k_ => ((fun k_ => (P0_ k_ ∨ w.heap.size ≤ k_))) k_ ∧ k_ ≠ go4)) (HO0.out) (fun k_ hk => ⟨hk.1, fun e_ => (hk.2) (by rw [e_]; rfl)⟩))).2.1 (Kd.V_F (Kd.V_mono (ok' := (fun k_ => ((fun k_ => (P0_ k_ ∨ w.heap.size ≤ k_))) k_ ∧ k_ ≠ go4)) (HO0.out) (fun k_ hk => ⟨hk.1, fun e_ => (hk.2) (by rw [e_]; rfl)⟩)))) (fun _ hk => hk); have hx7_0 := hcc7 0 _ rfl; (try simp only [show ((Kd.slice 4 Kd.bool)).sz = 1 from rfl, Nat.mul_one, Nat.add_zero] at hx7_0); (try rw [show ((16 : Int)).toNat = 16 from rfl] at hx7_0); (try simp only [Nat.reduceMul, Nat.zero_mul, Nat.zero_add, Nat.reduceAdd] at hx7_0); have hf7_0 := hfr7 0; (try simp only [show ((Kd.slice 4 Kd.bool)).sz = 1 from rfl, Nat.mul_one, Nat.add_zero] at hf7_0); (try rw [show ((16 : Int)).toNat = 16 from rfl] at hf7_0); (try simp only [Nat.reduceMul, Nat.zero_mul, Nat.zero_add, Nat.reduceAdd] at hf7_0); clear hcl7 hcc7 hfr7 hM7; (try simp only [show ((Kd.slice 4 Kd.bool)).sz = 1 from rfl, Nat.mul_one, Nat.add_zero] at HP7); (try simp only [show ((Kd.slice 4 Kd.bool)).sz = 1 from rfl, Nat.mul_one, Nat.add_zero] at HP7)) | ((with_reducible refine gate_store (t := 88) (p := 14) rfl ?_); (try (rw [drewN_self w5]; generalize hq_ : World.drewN w5 _ = w5; replace HO0 := Aside0.mk (Kd.V_at hq_ HO0.out); replace HO315 := Aside0.mk (Kd.N_at hq_ HO315.out); replace HB := Aside0.mk (below_at hq_ HB.out); clear hq_; (try (have HX7 := Aside0.mk (show Kd.N (Kd.slice 4 Kd.bool) 88 w5 w.heap.size (fun k_ => (P0_ k_ ∨ w.heap.size ≤ k_)) (.slice (some ⟨go4, 0, none⟩) y313.length co4) y313 from (by (with_reducible repeat (first | apply Kd.N_alloc | apply Kd.N_drewN | apply Kd.N_drew)); exact HO315.out)))); (try (obtain ⟨ce7, hcl7, hM7, hcc7, hfr7⟩ := Kd.N_elem HX7.out [] (16 : Int) (by omega) (by have h_ : (16 : Int) < ((y313.length : Int) : Int) := of_decide_eq_true (by first | (with_reducible assumption) | assumption); first | exact h_ | (have e_ := (Kd.N_reads' HO315.out).1; omega) | simpa using h_))); (try (obtain ⟨ua7_0, uc7_0, rfl, ul7_0, ge7_0⟩ := Kd.FK_slice_open hM7)); (try (have HP7 := Kd.N_seg HX7.out (16 : Int) (by omega) (by have h_ : (16 : Int) < ((y313.length : Int) : Int) := of_decide_eq_true (by first | (with_reducible assumption) | assumption); first | exact h_ | (have e_ := (Kd.N_reads' HO315.out).1; omega) | simpa using h_) (seg := [.slice A0 l0.length c0]) (j := 0) hcl7 hcc7 (show 1 ≤ 1 from by decide) (x' := l0) (Kd.FK_slice_mk (Kd.V_reads' (Kd.V_mono (ok' := (fun k_ => ((fun k_ => (P0_ k_ ∨ w.heap.size ≤ k_))) k_ ∧ k_ ≠ go4)) (HO0.out) (fun k_ hk => ⟨hk.1, fun e_ => (hk.2) (by rw [e_]; rfl)⟩))).2.1 (Kd.V_F (Kd.V_mono (ok' := (fun k_ => ((fun k_ => (P0_ k_ ∨ w.heap.size ≤ k_))) k_ ∧ k_ ≠ go4)) (HO0.out) (fun k_ hk => ⟨hk.1, fun e_ => (hk.2) (by rw [e_]; rfl)⟩)))) (fun _ hk => hk))); (try (have hx7_0 := hcc7 0 _ rfl)); (try (try simp only [show ((Kd.slice 4 Kd.bool)).sz = 1 from rfl, Nat.mul_one, Nat.add_zero] at hx7_0)); (try (try rw [show ((16 : Int)).toNat = 16 from rfl] at hx7_0)); (try (try simp only [Nat.reduceMul, Nat.zero_mul, Nat.zero_add, Nat.reduceAdd] at hx7_0)); (try (have hf7_0 := hfr7 0)); (try (try simp only [show ((Kd.slice 4 Kd.bool)).sz = 1 from rfl, Nat.mul_one, Nat.add_zero] at hf7_0)); (try (try rw [show ((16 : Int)).toNat = 16 from rfl] at hf7_0)); (try (try simp only [Nat.reduceMul, Nat.zero_mul, Nat.zero_add, Nat.reduceAdd] at hf7_0)); (try (clear hcl7 hcc7 hfr7 hM7)); (try (try simp only [show ((Kd.slice 4 Kd.bool)).sz = 1 from rfl, Nat.mul_one, Nat.add_zero] at HP7)); (try (try simp only [show ((Kd.slice 4 Kd.bool)).sz = 1 from rfl, Nat.mul_one, Nat.add_zero] at HP7)))); refine store_event (t := 88) (p := 14) (v := ?vo_w8) (w1 := (w5.setCell ⟨go4, 16, none⟩ (.slice A0 l0.length c0))) ?hg ?ho ?hn ?hr ?_; (case ho => rfl); (case hg => rfl); (case hn => rfl); (case hr => first | (go_simp; done) | (go_simp; rfl)); intro w8 hw; have hg : w5.grownBy w8 (some go4) := (by rw [hw]; exact HP7.2); have hp_ : Kd.N (Kd.slice 4 Kd.bool) 88 w8 w.heap.size (fun k_ => (P0_ k_ ∨ w.heap.size ≤ k_)) (.slice (some ⟨go4, 0, none⟩) y313.length co4) y316 := (by rw [hw, Ny316.out]; exact HP7.1); clear HP7; replace HO0 := Aside0.mk (Kd.V_afterv (v := (.slice (some ⟨go4, 0, none⟩) y313.length co4)) (v1 := (.slice (some ⟨go4, 0, none⟩) y313.length co4)) (ok := (fun k_ => (P0_ k_ ∨ w.heap.size ≤ k_))) (by (with_reducible repeat (first | apply Kd.V_alloc | apply Kd.V_drewN | apply Kd.V_drew)); exact HO0.out) hg (.inl rfl)); replace HO315 := Aside0.mk (hp_); replace HB := Aside0.mk ((by rw [hw]; exact below_set (HB.out) GB4.out : Below w.heap.size w w8)); clear hg hw hp_))
 repeat (go_quiet (first | ((with_reducible refine gate_dst (N := 11) rfl ?_); refine Kd.N_make (Kd.slice 4 Kd.bool) _ 88 rfl (N' := 11) rfl 119 _ _ rfl 17 rfl rfl Try.underlying119 (.slice none 0 0) 24 info88 rfl (by decide) (by omega) [] (ok := fun k_ => w.heap.size ≤ k_) (okp := fun _ => False) (Kd.FK_slice_mk (Nat.le_refl _) (Kd.F_nil _ _ _)) (fun _ hk => hk.elim) (Nat.le_refl _) (by omega) (by omega) (Below.refl _ _) (Nat.le_refl _) ?_; intro v314 w5 ho6 hb hg_ hnew_; clear hg_ hnew_; (first | rw [← Ny313.out] at ho6 | (simp only [Int.reduceToNat] at ho6; rw [← Ny313.out] at ho6)); have HO315 := Aside0.mk (Kd.N_lower (Kd.N_mono (ok' := fun k_ => (P0_ k_ ∨ w.heap.size ≤ k_)) ho6 (fun k_ hk_ => (.inr (Nat.le_trans (bz_ HB) hk_)))) (bz_ HB)); replace HO0 := Aside0.mk (Kd.V_elder' (by (with_reducible repeat (first | apply Kd.V_alloc | apply Kd.V_drewN | apply Kd.V_drew)); exact HO0.out) (Kd.N_base ho6) hb); replace HB := Aside0.mk (bt_ HB hb); clear hb ho6; have p4 : 0 ≤ (16 : Int) := (by omega); have q4 : (16 : Int) < ((y313.length : Int) : Int) := of_decide_eq_true (by first | (with_reducible assumption) | assumption); have qi4 : (16 < y313.length) = True := eq_true (by omega); obtain ⟨go4, co4, eo4, gb4, gl4, cl4, HG4⟩ := Kd.N_form HO315.out (by omega); (first | cases eo4 | (injection eo4 with ea_ en_ ec_; (first | subst ea_ | (injection ea_ with ea_; subst ea_)); subst ec_; clear en_)); have GB4 := Aside0.mk gb4; have GG4 := Aside0.mk HG4; clear gb4 gl4 HG4; obtain ⟨ce4, hcl4, hM4, hcc4, hfr4⟩ := Kd.N_elem HO315.out [] (16 : Int) p4 q4; obtain ⟨ua4_0, uc4_0, rfl, ul4_0, ge4_0⟩ := Kd.FK_slice_open hM4; have hx4_0 := hcc4 0 _ rfl; have hf4_0 := hfr4 0; (try simp only [show ((Kd.slice 4 Kd.bool)).sz = 1 from rfl, Nat.mul_one, Nat.add_zero] at hx4_0); (try simp only [show ((Kd.slice 4 Kd.bool)).sz = 1 from rfl, Nat.mul_one, Nat.add_zero] at hf4_0); clear hcl4 hcc4 hfr4 hM4; (try rw [show ((16 : Int)).toNat = 16 from rfl] at hx4_0); (try simp only [Nat.reduceMul, Nat.zero_mul, Nat.zero_add, Nat.reduceAdd] at hx4_0); (try rw [show ((16 : Int)).toNat = 16 from rfl] at hf4_0); (try simp only [Nat.reduceMul, Nat.zero_mul, Nat.zero_add, Nat.reduceAdd] at hf4_0); replace p4 := eq_true p4; replace q4 := eq_true q4; have HX7 := Aside0.mk (show Kd.N (Kd.slice 4 Kd.bool) 88 w5 w.heap.size (fun k_ => (P0_ k_ ∨ w.heap.size ≤ k_)) (.slice (some ⟨go4, 0, none⟩) y313.length co4) y313 from (by (with_reducible repeat (first | apply Kd.N_alloc | apply Kd.N_drewN | apply Kd.N_drew)); exact HO315.out)); obtain ⟨ce7, hcl7, hM7, hcc7, hfr7⟩ := Kd.N_elem HX7.out [] (16 : Int) (by omega) (by have h_ : (16 : Int) < ((y313.length : Int) : Int) := of_decide_eq_true (by first | (with_reducible assumption) | assumption); first | exact h_ | (have e_ := (Kd.N_reads' HO315.out).1; omega) | simpa using h_); obtain ⟨ua7_0, uc7_0, rfl, ul7_0, ge7_0⟩ := Kd.FK_slice_open hM7; have HP7 := Kd.N_seg HX7.out (16 : Int) (by omega) (by have h_ : (16 : Int) < ((y313.length : Int) : Int) := of_decide_eq_true (by first | (with_reducible assumption) | assumption); first | exact h_ | (have e_ := (Kd.N_reads' HO315.out).1; omega) | simpa using h_) (seg := [.slice A0 l0.length c0]) (j := 0) hcl7 hcc7 (show 1 ≤ 1 from by decide) (x' := l0) (Kd.FK_slice_mk (Kd.V_reads' (Kd.V_mono (ok' := (fun k_ => ((fun k_ => (P0_ k_ ∨ w.heap.size ≤ k_))) k_ ∧ k_ ≠ go4)) (HO0.out) (fun k_ hk => ⟨hk.1, fun e_ => (hk.2) (by rw [e_]; rfl)⟩))).2.1 (Kd.V_F (Kd.V_mono (ok' := (fun k_ => ((fun k_ => (P0_ k_ ∨ w.heap.size ≤ k_))) k_ ∧ k_ ≠ go4)) (HO0.out) (fun k_ hk => ⟨hk.1, fun e_ => (hk.2) (by rw [e_]; rfl)⟩)))) (fun _ hk => hk); have hx7_0 := hcc7 0 _ rfl; (try simp only [show ((Kd.slice 4 Kd.bool)).sz = 1 from rfl, Nat.mul_one, Nat.add_zero] at hx7_0); (try rw [show ((16 : Int)).toNat = 16 from rfl] at hx7_0); (try simp only [Nat.reduceMul, Nat.zero_mul, Nat.zero_add, Nat.reduceAdd] at hx7_0); have hf7_0 := hfr7 0; (try simp only [show ((Kd.slice 4 Kd.bool)).sz = 1 from rfl, Nat.mul_one, Nat.add_zero] at hf7_0); (try rw [show ((16 : Int)).toNat = 16 from rfl] at hf7_0); (try simp only [Nat.reduceMul, Nat.zero_mul, Nat.zero_add, Nat.reduceAdd] at hf7_0); clear hcl7 hcc7 hfr7 hM7; (try simp only [show ((Kd.slice 4 Kd.bool)).sz = 1 from rfl, Nat.mul_one, Nat.add_zero] at HP7); (try simp only [show ((Kd.slice 4 Kd.bool)).sz = 1 from rfl, Nat.mul_one, Nat.add_zero] at HP7)) | ((with_reducible refine gate_store (t := 88) (p := 14) rfl ?_); (try (rw [drewN_self w5]; generalize hq_ : World.drewN w5 _ = w5; replace HO0 := Aside0.mk (Kd.V_at hq_ HO0.out); replace HO315 := Aside0.mk (Kd.N_at hq_ HO315.out); replace HB := Aside0.mk (below_at hq_ HB.out); clear hq_; (try (have HX7 := Aside0.mk (show Kd.N (Kd.slice 4 Kd.bool) 88 w5 w.heap.size (fun k_ => (P0_ k_ ∨ w.heap.size ≤ k_)) (.slice (some ⟨go4, 0, none⟩) y313.length co4) y313 from (by (with_reducible repeat (first | apply Kd.N_alloc | apply Kd.N_drewN | apply Kd.N_drew)); exact HO315.out)))); (try (obtain ⟨ce7, hcl7, hM7, hcc7, hfr7⟩ := Kd.N_elem HX7.out [] (16 : Int) (by omega) (by have h_ : (16 : Int) < ((y313.length : Int) : Int) := of_decide_eq_true (by first | (with_reducible assumption) | assumption); first | exact h_ | (have e_ := (Kd.N_reads' HO315.out).1; omega) | simpa using h_))); (try (obtain ⟨ua7_0, uc7_0, rfl, ul7_0, ge7_0⟩ := Kd.FK_slice_open hM7)); (try (have HP7 := Kd.N_seg HX7.out (16 : Int) (by omega) (by have h_ : (16 : Int) < ((y313.length : Int) : Int) := of_decide_eq_true (by first | (with_reducible assumption) | assumption); first | exact h_ | (have e_ := (Kd.N_reads' HO315.out).1; omega) | simpa using h_) (seg := [.slice A0 l0.length c0]) (j := 0) hcl7 hcc7 (show 1 ≤ 1 from by decide) (x' := l0) (Kd.FK_slice_mk (Kd.V_reads' (Kd.V_mono (ok' := (fun k_ => ((fun k_ => (P0_ k_ ∨ w.heap.size ≤ k_))) k_ ∧ k_ ≠ go4)) (HO0.out) (fun k_ hk => ⟨hk.1, fun e_ => (hk.2) (by rw [e_]; rfl)⟩))).2.1 (Kd.V_F (Kd.V_mono (ok' := (fun k_ => ((fun k_ => (P0_ k_ ∨ w.heap.size ≤ k_))) k_ ∧ k_ ≠ go4)) (HO0.out) (fun k_ hk => ⟨hk.1, fun e_ => (hk.2) (by rw [e_]; rfl)⟩)))) (fun _ hk => hk))); (try (have hx7_0 := hcc7 0 _ rfl)); (try (try simp only [show ((Kd.slice 4 Kd.bool)).sz = 1 from rfl, Nat.mul_one, Nat.add_zero] at hx7_0)); (try (try rw [show ((16 : Int)).toNat = 16 from rfl] at hx7_0)); (try (try simp only [Nat.reduceMul, Nat.zero_mul, Nat.zero_add, Nat.reduceAdd] at hx7_0)); (try (have hf7_0 := hfr7 0)); (try (try simp only [show ((Kd.slice 4 Kd.bool)).sz = 1 from rfl, Nat.mul_one, Nat.add_zero] at hf7_0)); (try (try rw [show ((16 : Int)).toNat = 16 from rfl] at hf7_0)); (try (try simp only [Nat.reduceMul, Nat.zero_mul, Nat.zero_add, Nat.reduceAdd] at hf7_0)); (try (clear hcl7 hcc7 hfr7 hM7)); (try (try simp only [show ((Kd.slice 4 Kd.bool)).sz = 1 from rfl, Nat.mul_one, Nat.add_zero] at HP7)); (try (try simp only [show ((Kd.slice 4 Kd.bool)).sz = 1 from rfl, Nat.mul_one, Nat.add_zero] at HP7)))); refine store_event (t := 88) (p := 14) (v := ?vo_w8) (w1 := (w5.setCell ⟨go4, 16, none⟩ (.slice A0 l0.length c0))) ?hg ?ho ?hn ?hr ?_; (case ho => rfl); (case hg => rfl); (case hn => rfl); (case hr => first | (go_simp; done) | (go_simp; rfl)); intro w8 hw; have hg : w5.grownBy w8 (some go4) := (by rw [hw]; exact HP7.2); have hp_ : Kd.N (Kd.slice 4 Kd.bool) 88 w8 w.heap.size (fun k_ => (P0_ k_ ∨ w.heap.size ≤ k_)) (.slice (some ⟨go4, 0, none⟩) y313.length co4) y316 := (by rw [hw, Ny316.out]; exact HP7.1); clear HP7; replace HO0 := Aside0.mk (Kd.V_afterv (v := (.slice (some ⟨go4, 0, none⟩) y313.length co4)) (v1 := (.slice (some ⟨go4, 0, none⟩) y313.length co4)) (ok := (fun k_ => (P0_ k_ ∨ w.heap.size ≤ k_))) (by (with_reducible repeat (first | apply Kd.V_alloc | apply Kd.V_drewN | apply Kd.V_drew)); exact HO0.out) hg (.inl rfl)); replace HO315 := Aside0.mk (hp_); replace HB := Aside0.mk ((by rw [hw]; exact below_set (HB.out) GB4.out : Below w.heap.size w w8)); clear hg hw hp_)); try go_wp2_with (first | ((with_reducible refine gate_dst (N := 11) rfl ?_); refine Kd.N_make (Kd.slice 4 Kd.bool) _ 88 rfl (N' := 11) rfl 119 _ _ rfl 17 rfl rfl Try.underlying119 (.slice none 0 0) 24 info88 rfl (by decide) (by omega) [] (ok := fun k_ => w.heap.size ≤ k_) (okp := fun _ => False) (Kd.FK_slice_mk (Nat.le_refl _) (Kd.F_nil _ _ _)) (fun _ hk => hk.elim) (Nat.le_refl _) (by omega) (by omega) (Below.refl _ _) (Nat.le_refl _) ?_; intro v314 w5 ho6 hb hg_ hnew_; clear hg_ hnew_; (first | rw [← Ny313.out] at ho6 | (simp only [Int.reduceToNat] at ho6; rw [← Ny313.out] at ho6)); have HO315 := Aside0.mk (Kd.N_lower (Kd.N_mono (ok' := fun k_ => (P0_ k_ ∨ w.heap.size ≤ k_)) ho6 (fun k_ hk_ => (.inr (Nat.le_trans (bz_ HB) hk_)))) (bz_ HB)); replace HO0 := Aside0.mk (Kd.V_elder' (by (with_reducible repeat (first | apply Kd.V_alloc | apply Kd.V_drewN | apply Kd.V_drew)); exact HO0.out) (Kd.N_base ho6) hb); replace HB := Aside0.mk (bt_ HB hb); clear hb ho6; have p4 : 0 ≤ (16 : Int) := (by omega); have q4 : (16 : Int) < ((y313.length : Int) : Int) := of_decide_eq_true (by first | (with_reducible assumption) | assumption); have qi4 : (16 < y313.length) = True := eq_true (by omega); obtain ⟨go4, co4, eo4, gb4, gl4, cl4, HG4⟩ := Kd.N_form HO315.out (by omega); (first | cases eo4 | (injection eo4 with ea_ en_ ec_; (first | subst ea_ | (injection ea_ with ea_; subst ea_)); subst ec_; clear en_)); have GB4 := Aside0.mk gb4; have GG4 := Aside0.mk HG4; clear gb4 gl4 HG4; obtain ⟨ce4, hcl4, hM4, hcc4, hfr4⟩ := Kd.N_elem HO315.out [] (16 : Int) p4 q4; obtain ⟨ua4_0, uc4_0, rfl, ul4_0, ge4_0⟩ := Kd.FK_slice_open hM4; have hx4_0 := hcc4 0 _ rfl; have hf4_0 := hfr4 0; (try simp only [show ((Kd.slice 4 Kd.bool)).sz = 1 from rfl, Nat.mul_one, Nat.add_zero] at hx4_0); (try simp only [show ((Kd.slice 4 Kd.bool)).sz = 1 from rfl, Nat.mul_one, Nat.add_zero] at hf4_0); clear hcl4 hcc4 hfr4 hM4; (try rw [show ((16 : Int)).toNat = 16 from rfl] at hx4_0); (try simp only [Nat.reduceMul, Nat.zero_mul, Nat.zero_add, Nat.reduceAdd] at hx4_0); (try rw [show ((16 : Int)).toNat = 16 from rfl] at hf4_0); (try simp only [Nat.reduceMul, Nat.zero_mul, Nat.zero_add, Nat.reduceAdd] at hf4_0); replace p4 := eq_true p4; replace q4 := eq_true q4; have HX7 := Aside0.mk (show Kd.N (Kd.slice 4 Kd.bool) 88 w5 w.heap.size (fun k_ => (P0_ k_ ∨ w.heap.size ≤ k_)) (.slice (some ⟨go4, 0, none⟩) y313.length co4) y313 from (by (with_reducible repeat (first | apply Kd.N_alloc | apply Kd.N_drewN | apply Kd.N_drew)); exact HO315.out)); obtain ⟨ce7, hcl7, hM7, hcc7, hfr7⟩ := Kd.N_elem HX7.out [] (16 : Int) (by omega) (by have h_ : (16 : Int) < ((y313.length : Int) : Int) := of_decide_eq_true (by first | (with_reducible assumption) | assumption); first | exact h_ | (have e_ := (Kd.N_reads' HO315.out).1; omega) | simpa using h_); obtain ⟨ua7_0, uc7_0, rfl, ul7_0, ge7_0⟩ := Kd.FK_slice_open hM7; have HP7 := Kd.N_seg HX7.out (16 : Int) (by omega) (by have h_ : (16 : Int) < ((y313.length : Int) : Int) := of_decide_eq_true (by first | (with_reducible assumption) | assumption); first | exact h_ | (have e_ := (Kd.N_reads' HO315.out).1; omega) | simpa using h_) (seg := [.slice A0 l0.length c0]) (j := 0) hcl7 hcc7 (show 1 ≤ 1 from by decide) (x' := l0) (Kd.FK_slice_mk (Kd.V_reads' (Kd.V_mono (ok' := (fun k_ => ((fun k_ => (P0_ k_ ∨ w.heap.size ≤ k_))) k_ ∧ k_ ≠ go4)) (HO0.out) (fun k_ hk => ⟨hk.1, fun e_ => (hk.2) (by rw [e_]; rfl)⟩))).2.1 (Kd.V_F (Kd.V_mono (ok' := (fun k_ => ((fun k_ => (P0_ k_ ∨ w.heap.size ≤ k_))) k_ ∧ k_ ≠ go4)) (HO0.out) (fun k_ hk => ⟨hk.1, fun e_ => (hk.2) (by rw [e_]; rfl)⟩)))) (fun _ hk => hk); have hx7_0 := hcc7 0 _ rfl; (try simp only [show ((Kd.slice 4 Kd.bool)).sz = 1 from rfl, Nat.mul_one, Nat.add_zero] at hx7_0); (try rw [show ((16 : Int)).toNat = 16 from rfl] at hx7_0); (try simp only [Nat.reduceMul, Nat.zero_mul, Nat.zero_add, Nat.reduceAdd] at hx7_0); have hf7_0 := hfr7 0; (try simp only [show ((Kd.slice 4 Kd.bool)).sz = 1 from rfl, Nat.mul_one, Nat.add_zero] at hf7_0); (try rw [show ((16 : Int)).toNat = 16 from rfl] at hf7_0); (try simp only [Nat.reduceMul, Nat.zero_mul, Nat.zero_add, Nat.reduceAdd] at hf7_0); clear hcl7 hcc7 hfr7 hM7; (try simp only [show ((Kd.slice 4 Kd.bool)).sz = 1 from rfl, Nat.mul_one, Nat.add_zero] at HP7); (try simp only [show ((Kd.slice 4 Kd.bool)).sz = 1 from rfl, Nat.mul_one, Nat.add_zero] at HP7)) | ((with_reducible refine gate_store (t := 88) (p := 14) rfl ?_); (try (rw [drewN_self w5]; generalize hq_ : World.drewN w5 _ = w5; replace HO0 := Aside0.mk (Kd.V_at hq_ HO0.out); replace HO315 := Aside0.mk (Kd.N_at hq_ HO315.out); replace HB := Aside0.mk (below_at hq_ HB.out); clear hq_; (try (have HX7 := Aside0.mk (show Kd.N (Kd.slice 4 Kd.bool) 88 w5 w.heap.size (fun k_ => (P0_ k_ ∨ w.heap.size ≤ k_)) (.slice (some ⟨go4, 0, none⟩) y313.length co4) y313 from (by (with_reducible repeat (first | apply Kd.N_alloc | apply Kd.N_drewN | apply Kd.N_drew)); exact HO315.out)))); (try (obtain ⟨ce7, hcl7, hM7, hcc7, hfr7⟩ := Kd.N_elem HX7.out [] (16 : Int) (by omega) (by have h_ : (16 : Int) < ((y313.length : Int) : Int) := of_decide_eq_true (by first | (with_reducible assumption) | assumption); first | exact h_ | (have e_ := (Kd.N_reads' HO315.out).1; omega) | simpa using h_))); (try (obtain ⟨ua7_0, uc7_0, rfl, ul7_0, ge7_0⟩ := Kd.FK_slice_open hM7)); (try (have HP7 := Kd.N_seg HX7.out (16 : Int) (by omega) (by have h_ : (16 : Int) < ((y313.length : Int) : Int) := of_decide_eq_true (by first | (with_reducible assumption) | assumption); first | exact h_ | (have e_ := (Kd.N_reads' HO315.out).1; omega) | simpa using h_) (seg := [.slice A0 l0.length c0]) (j := 0) hcl7 hcc7 (show 1 ≤ 1 from by decide) (x' := l0) (Kd.FK_slice_mk (Kd.V_reads' (Kd.V_mono (ok' := (fun k_ => ((fun k_ => (P0_ k_ ∨ w.heap.size ≤ k_))) k_ ∧ k_ ≠ go4)) (HO0.out) (fun k_ hk => ⟨hk.1, fun e_ => (hk.2) (by rw [e_]; rfl)⟩))).2.1 (Kd.V_F (Kd.V_mono (ok' := (fun k_ => ((fun k_ => (P0_ k_ ∨ w.heap.size ≤ k_))) k_ ∧ k_ ≠ go4)) (HO0.out) (fun k_ hk => ⟨hk.1, fun e_ => (hk.2) (by rw [e_]; rfl)⟩)))) (fun _ hk => hk))); (try (have hx7_0 := hcc7 0 _ rfl)); (try (try simp only [show ((Kd.slice 4 Kd.bool)).sz = 1 from rfl, Nat.mul_one, Nat.add_zero] at hx7_0)); (try (try rw [show ((16 : Int)).toNat = 16 from rfl] at hx7_0)); (try (try simp only [Nat.reduceMul, Nat.zero_mul, Nat.zero_add, Nat.reduceAdd] at hx7_0)); (try (have hf7_0 := hfr7 0)); (try (try simp only [show ((Kd.slice 4 Kd.bool)).sz = 1 from rfl, Nat.mul_one, Nat.add_zero] at hf7_0)); (try (try rw [show ((16 : Int)).toNat = 16 from rfl] at hf7_0)); (try (try simp only [Nat.reduceMul, Nat.zero_mul, Nat.zero_add, Nat.reduceAdd] at hf7_0)); (try (clear hcl7 hcc7 hfr7 hM7)); (try (try simp only [show ((Kd.slice 4 Kd.bool)).sz = 1 from rfl, Nat.mul_one, Nat.add_zero] at HP7)); (try (try simp only [show ((Kd.slice 4 Kd.bool)).sz = 1 from rfl, Nat.mul_one, Nat.add_zero] at HP7)))); refine store_event (t := 88) (p := 14) (v := ?vo_w8) (w1 := (w5.setCell ⟨go4, 16, none⟩ (.slice A0 l0.length c0))) ?hg ?ho ?hn ?hr ?_; (case ho => rfl); (case hg => rfl); (case hn => rfl); (case hr => first | (go_simp; done) | (go_simp; rfl)); intro w8 hw; have hg : w5.grownBy w8 (some go4) := (by rw [hw]; exact HP7.2); have hp_ : Kd.N (Kd.slice 4 Kd.bool) 88 w8 w.heap.size (fun k_ => (P0_ k_ ∨ w.heap.size ≤ k_)) (.slice (some ⟨go4, 0, none⟩) y313.length co4) y316 := (by rw [hw, Ny316.out]; exact HP7.1); clear HP7; replace HO0 := Aside0.mk (Kd.V_afterv (v := (.slice (some ⟨go4, 0, none⟩) y313.length co4)) (v1 := (.slice (some ⟨go4, 0, none⟩) y313.length co4)) (ok := (fun k_ => (P0_ k_ ∨ w.heap.size ≤ k_))) (by (with_reducible repeat (first | apply Kd.V_alloc | apply Kd.V_drewN | apply Kd.V_drew)); exact HO0.out) hg (.inl rfl)); replace HO315 := Aside0.mk (hp_); replace HB := Aside0.mk ((by rw [hw]; exact below_set (HB.out) GB4.out : Below w.heap.size w w8)); clear hg hw hp_)))
 go_loopg [4] k (fun kq v4 w' => ∃ (x3_1 : List (List Bool)) (x4_1 : Int), v4 = .int .i64 x4_1 ∧ Aside0 (spec_l01Blocks.l0 kq x3_1 x4_1 = some r) ∧ Aside0 (kq ≤ k) ∧ Aside0 (Kd.N (Kd.slice 4 Kd.bool) 88 w' w.heap.size (fun k_ => (P0_ k_ ∨ w.heap.size ≤ k_)) (.slice (some ⟨go4, 0, none⟩) y313.length co4) x3_1) ∧ Aside0 (Below w.heap.size w w'))
 case atStart => exact ⟨(y316), (15), (by first | rfl | (simp; done) | (simp [*]; done)), H', ⟨Nat.le_refl _⟩, ⟨by (with_reducible repeat (first | apply Kd.N_alloc | apply Kd.N_drewN | apply Kd.N_drew)); exact HO315.out⟩, ⟨by repeat (first | (with_reducible first | exact HB.out | apply below_alloc | apply pw_below_drewN | apply below_drew1) | exact HB.out)⟩⟩
 case round =>
  clear H'
  try clear c2
  try clear c2b0
  try clear c2b1
  try clear p2
  try clear c3
  try clear c3b0
  try clear c3b1
  try clear c4
  try clear p4
  try clear q4
  try clear hx4
  try clear qi4
  try clear hf4
  try clear c7
  try clear hx7
  try clear hf7
  try clear hx4_0
  try clear hx7_0
  try clear p4
  try clear q4
  obtain ⟨x3_1, x4_1, rfl, HA, HK1, HO_3, HB⟩ := hrel
  have hl3_1 := (Kd.N_reads' HO_3.out).1
  rw [hl3_1] at HO_3
  (try simp only [hl3_1])
  cases gk with
  | zero => exact absurd HA.out (by simp [spec_l01Blocks.l0])
  | succ k1 =>
   have H := HA.out
   clear HA
   simp only [spec_l01Blocks.l0] at H
   by_cases c9 : x4_1 ≥ 0
   ·rw [if_pos c9] at H
    have c9b0 : decide (0 ≤ x4_1) = true := decide_eq_true c9
    clear c9
    obtain ⟨ji10, hji10⟩ : ∃ j_ : Int, (wrap64 (x4_1 + 1)) = j_ := ⟨_, rfl⟩
    first | rw [hji10] at H | simp only [hji10] at H
    have hji10w : (IntKind.i64.wrap (x4_1 + 1)) = ji10 := (i64_w _).trans hji10
    by_cases c11 : 0 ≤ (ji10)
    rotate_left
    ·rw [if_neg c11] at H
     exact absurd H (by simp)
    rw [if_pos c11] at H
    have c11b0 : decide (0 ≤ (ji10)) = true := decide_eq_true c11
    clear c11
    by_cases c12 : (ji10) < (x3_1.length : Int)
    rotate_left
    ·rw [if_neg c12] at H
     exact absurd H (by simp)
    rw [if_pos c12] at H
    have c12b0 : decide ((ji10) < (x3_1.length : Int)) = true := decide_eq_true c12
    clear c12
    obtain ⟨ji13, hji13⟩ : ∃ j_ : Int, (wrap64 (((rd_L5 x3_1 (ji10)).length : Int) / 2)) = j_ := ⟨_, rfl⟩
    first | rw [hji13] at H | simp only [hji13] at H
    have hji13w : (IntKind.i64.wrap (((rd_L5 x3_1 (ji10)).length : Int) / 2)) = ji13 := (i64_w _).trans hji13
    by_cases c14 : 0 ≤ (ji13)
    rotate_left
    ·rw [if_neg c14] at H
     exact absurd H (by simp)
    rw [if_pos c14] at H
    have c14b0 := eq_true c14
    have c14b1 : decide (0 ≤ (ji13)) = true := decide_eq_true c14
    clear c14
    by_cases c15 : (ji13 : Int).toNat ≤ 281474976710656
    rotate_left
    ·rw [if_neg c15] at H
     exact absurd H (by simp)
    rw [if_pos c15] at H
    have c15b0 := eq_true c15
    have c15b1 : decide ((ji13 : Int).toNat ≤ 281474976710656) = true := decide_eq_true c15
    clear c15
    obtain ⟨y318, hy318⟩ : ∃ y_ : List Bool, y_ = (List.replicate (ji13 : Int).toNat false) := ⟨_, rfl⟩
    replace H : (spec_l01Blocks.l1 k1 x3_1 x4_1 (rd_L5 x3_1 (ji10)) y318 0) = some r := by first | (rw [hy318]; with_reducible exact H) | (have H2_ := (Option.bind_some _ _).symm.trans H; rw [hy318]; with_reducible exact H2_) | (have H2_ := (Option.bind_some _ _).symm.trans H; with_reducible exact H2_) | with_reducible exact H | (rw [hy318]; exact H) | exact H
    have Ny318 := Aside0.mk hy318
    clear hy318
    have H' := Aside0.mk H
    clear H
    have p317 : 0 ≤ ((ji10) : Int) := of_decide_eq_true (by first | (with_reducible assumption) | assumption)
    have q317 : (ji10) < (x3_1.length : Int) := of_decide_eq_true (by first | (with_reducible assumption) | assumption)
    obtain ⟨ad317, A317_0, c317_0, e317, hx317_0, hl317_0, hi317_0⟩ := at_L5 (Kd.N_reads' HO_3.out).2.2 (ji10) p317 q317
    obtain rfl : (⟨go4, 0, none⟩ : Addr) = ad317 := (by injection e317)
    obtain ⟨ce317, hce317, hMe317, hcc317⟩ := Kd.N_get HO_3.out [] (ji10) p317 (by first | exact q317 | exact of_decide_eq_true (by first | (with_reducible assumption) | assumption) | (have e_ := (Kd.N_reads' HO_3.out).1; omega))
    obtain ⟨ua317_0, uc317_0, rfl, ul317_0, ge317_0⟩ := Kd.FK_slice_open hMe317
    have hv317_0 := hcc317 0 _ rfl
    rw [Nat.add_zero, show ((Kd.slice 4 Kd.bool)).sz = 1 from rfl, Nat.mul_one] at hv317_0
    replace hv317_0 := Option.some.inj (hv317_0.symm.trans hx317_0)
    injection hv317_0 with hva_ hvn_ hvc_
    rw [hva_] at ge317_0
    rw [hvc_] at ul317_0
    have HL317_0 := Aside0.mk (show Kd.V Kd.bool 4 _ w.heap.size _ _ (rd_L5 x3_1 (ji10)) from Kd.V_mk ul317_0 ge317_0)
    clear hva_ hvn_ hvc_ ge317_0 ul317_0
    clear hcc317 hce317
    (first | simp only [add_plain] at hx317_0 | simp only [add_at] at hx317_0 | simp only [Addr.add, Nat.zero_add] at hx317_0 | skip)
    have HR317_0 := Aside0.mk hi317_0
    have HC317_0 := Aside0.mk hl317_0
    clear hi317_0 hl317_0
    replace p317 := eq_true p317
    replace q317 := eq_true q317
    go_wp2_with (first | ((with_reducible refine gate_dst (N := 27) rfl ?_); refine Kd.R_make Kd.bool _ 4 rfl (N := 27) rfl 88 _ _ rfl ji13 rfl rfl Try.underlying88 (.bool false) 1 info4 rfl (by decide) (by omega) false (ok := fun _ => True) (okp := fun _ => True) rfl (fun _ hk => hk) trivial (of_decide_eq_true (by first | (with_reducible assumption) | assumption)) (Nat.le_trans (Nat.mul_le_mul_right _ (of_decide_eq_true (by first | (with_reducible assumption) | assumption) : ji13.toNat ≤ 281474976710656)) (by omega)) (Below.refl _ _) (Nat.le_refl _) ?_; intro v319 w16 ho17 hb hg_ hnew_; clear hg_ hnew_; (first | rw [← Ny318.out] at ho17 | (simp only [Int.reduceToNat] at ho17; rw [← Ny318.out] at ho17)); have HO320 := Aside0.mk (Kd.R_lower (Kd.R_newM (M := fun k_ => (w.heap.size ≤ k_)) ho17 (bz_ HB) (fun k_ h_ => h_)) (bz_ HB)); replace HO_3 := Aside0.mk (Kd.N_elder' (by (with_reducible repeat (first | apply Kd.N_alloc | apply Kd.N_drewN | apply Kd.N_drew)); exact HO_3.out) (Kd.R_base ho17) hb); replace HL317_0 := Aside0.mk (Kd.V_elder' (by (with_reducible repeat (first | apply Kd.V_alloc | apply Kd.V_drewN | apply Kd.V_drew)); exact HL317_0.out) (Kd.R_base ho17) hb); replace HR317_0 := Aside0.mk (Kd.C_below (by repeat (first | (with_reducible exact HR317_0.out) | (with_reducible refine Kd.C_alloc ?_ _) | (with_reducible refine Kd.C_drewN ?_ _) | (with_reducible refine Kd.C_drew ?_) | exact HR317_0.out)) hb); replace HB := Aside0.mk (bt_ HB hb); clear hb ho17))
    repeat (go_quiet (first | ((with_reducible refine gate_dst (N := 27) rfl ?_); refine Kd.R_make Kd.bool _ 4 rfl (N := 27) rfl 88 _ _ rfl ji13 rfl rfl Try.underlying88 (.bool false) 1 info4 rfl (by decide) (by omega) false (ok := fun _ => True) (okp := fun _ => True) rfl (fun _ hk => hk) trivial (of_decide_eq_true (by first | (with_reducible assumption) | assumption)) (Nat.le_trans (Nat.mul_le_mul_right _ (of_decide_eq_true (by first | (with_reducible assumption) | assumption) : ji13.toNat ≤ 281474976710656)) (by omega)) (Below.refl _ _) (Nat.le_refl _) ?_; intro v319 w16 ho17 hb hg_ hnew_; clear hg_ hnew_; (first | rw [← Ny318.out] at ho17 | (simp only [Int.reduceToNat] at ho17; rw [← Ny318.out] at ho17)); have HO320 := Aside0.mk (Kd.R_lower (Kd.R_newM (M := fun k_ => (w.heap.size ≤ k_)) ho17 (bz_ HB) (fun k_ h_ => h_)) (bz_ HB)); replace HO_3 := Aside0.mk (Kd.N_elder' (by (with_reducible repeat (first | apply Kd.N_alloc | apply Kd.N_drewN | apply Kd.N_drew)); exact HO_3.out) (Kd.R_base ho17) hb); replace HL317_0 := Aside0.mk (Kd.V_elder' (by (with_reducible repeat (first | apply Kd.V_alloc | apply Kd.V_drewN | apply Kd.V_drew)); exact HL317_0.out) (Kd.R_base ho17) hb); replace HR317_0 := Aside0.mk (Kd.C_below (by repeat (first | (with_reducible exact HR317_0.out) | (with_reducible refine Kd.C_alloc ?_ _) | (with_reducible refine Kd.C_drewN ?_ _) | (with_reducible refine Kd.C_drew ?_) | exact HR317_0.out)) hb); replace HB := Aside0.mk (bt_ HB hb); clear hb ho17)); try go_wp2_with (first | ((with_reducible refine gate_dst (N := 27) rfl ?_); refine Kd.R_make Kd.bool _ 4 rfl (N := 27) rfl 88 _ _ rfl ji13 rfl rfl Try.underlying88 (.bool false) 1 info4 rfl (by decide) (by omega) false (ok := fun _ => True) (okp := fun _ => True) rfl (fun _ hk => hk) trivial (of_decide_eq_true (by first | (with_reducible assumption) | assumption)) (Nat.le_trans (Nat.mul_le_mul_right _ (of_decide_eq_true (by first | (with_reducible assumption) | assumption) : ji13.toNat ≤ 281474976710656)) (by omega)) (Below.refl _ _) (Nat.le_refl _) ?_; intro v319 w16 ho17 hb hg_ hnew_; clear hg_ hnew_; (first | rw [← Ny318.out] at ho17 | (simp only [Int.reduceToNat] at ho17; rw [← Ny318.out] at ho17)); have HO320 := Aside0.mk (Kd.R_lower (Kd.R_newM (M := fun k_ => (w.heap.size ≤ k_)) ho17 (bz_ HB) (fun k_ h_ => h_)) (bz_ HB)); replace HO_3 := Aside0.mk (Kd.N_elder' (by (with_reducible repeat (first | apply Kd.N_alloc | apply Kd.N_drewN | apply Kd.N_drew)); exact HO_3.out) (Kd.R_base ho17) hb); replace HL317_0 := Aside0.mk (Kd.V_elder' (by (with_reducible repeat (first | apply Kd.V_alloc | apply Kd.V_drewN | apply Kd.V_drew)); exact HL317_0.out) (Kd.R_base ho17) hb); replace HR317_0 := Aside0.mk (Kd.C_below (by repeat (first | (with_reducible exact HR317_0.out) | (with_reducible refine Kd.C_alloc ?_ _) | (with_reducible refine Kd.C_drewN ?_ _) | (with_reducible refine Kd.C_drew ?_) | exact HR317_0.out)) hb); replace HB := Aside0.mk (bt_ HB hb); clear hb ho17)))
    go_loopg [7] k1 (fun kq v7 w' => ∃ (x6_2 : List Bool) (x7_2 : Int), v7 = .int .i64 x7_2 ∧ Aside0 (spec_l01Blocks.l1 kq x3_1 x4_1 (rd_L5 x3_1 (ji10)) x6_2 x7_2 = some r) ∧ Aside0 (kq ≤ k1) ∧ Aside0 (Kd.N (Kd.slice 4 Kd.bool) 88 w' w.heap.size (fun k_ => (P0_ k_ ∨ w.heap.size ≤ k_) ∧ some k_ ≠ (v319 : Value).ownBlock) (.slice (some ⟨go4, 0, none⟩) x3_1.length co4) x3_1) ∧ Aside0 (Kd.V Kd.bool 4 w' w.heap.size (fun k_ => (P0_ k_ ∨ w.heap.size ≤ k_) ∧ some k_ ≠ (v319 : Value).ownBlock) (.slice A317_0 (rd_L5 x3_1 (ji10)).length c317_0) (rd_L5 x3_1 (ji10))) ∧ Aside0 (Kd.R Kd.bool 4 w' w.heap.size (fun k_ => (w.heap.size ≤ k_)) v319 x6_2) ∧ Aside0 (Below w.heap.size w w'))
    case atStart => exact ⟨(y318), (0), (by first | rfl | (simp; done) | (simp [*]; done)), H', ⟨Nat.le_refl _⟩, ⟨by (try simp only [hl3_1]); (with_reducible repeat (first | apply Kd.N_alloc | apply Kd.N_drewN | apply Kd.N_drew)); exact HO_3.out⟩, ⟨by apply Kd.V_mono; (· (with_reducible repeat (first | apply Kd.V_alloc | apply Kd.V_drewN | apply Kd.V_drew)); exact HL317_0.out); intro k_ hk_; exact ⟨hk_.1.1, hk_.2⟩⟩, ⟨by (try simp only [hl3_1]); (with_reducible repeat (first | apply Kd.R_alloc | apply Kd.R_drewN | apply Kd.R_drew)); exact Kd.R_mono HO320.out (fun _ hk => hk.1)⟩, ⟨by repeat (first | (with_reducible first | exact HB.out | apply below_alloc | apply pw_below_drewN | apply below_drew1) | exact HB.out)⟩⟩
    case round =>
     clear H'
     try clear c1
     try clear c2
     try clear c2b0
     try clear c2b1
     try clear p2
     try clear c3
     try clear c3b0
     try clear c3b1
     try clear p3
     try clear q3
     try clear hx3
     try clear c4
     try clear p4
     try clear q4
     try clear hx4
     try clear qi4
     try clear hf4
     try clear p6
     try clear c7
     try clear hx7
     try clear hf7
     try clear c9
     try clear c9b0
     try clear c11
     try clear c11b0
     try clear c12
     try clear c12b0
     try clear c14
     try clear c14b0
     try clear c14b1
     try clear c15
     try clear c15b0
     try clear c15b1
     try clear hx317_0
     try clear hx4_0
     try clear hx7_0
     try clear p2
     try clear p317
     try clear p4
     try clear q317
     try clear q4
     obtain ⟨x6_2, x7_2, rfl, HA, HK2, HO_3, HL317_0, HO_6, HB⟩ := hrel
     have HR317_0 := Aside0.mk (Kd.V_reads' HL317_0.out).2.2
     cases gk with
     | zero => exact absurd HA.out (by simp [spec_l01Blocks.l1])
     | succ k2 =>
      have H := HA.out
      clear HA
      simp only [spec_l01Blocks.l1] at H
      by_cases c18 : x7_2 < (x6_2.length : Int)
      rotate_left
      ·rw [if_neg c18] at H
       have c18b0 : decide (x7_2 < (x6_2.length : Int)) = false := decide_eq_false c18
       clear c18
       by_cases c37 : 0 ≤ x4_1
       rotate_left
       ·rw [if_neg c37] at H
        exact absurd H (by simp)
       rw [if_pos c37] at H
       have c37b0 : decide (0 ≤ x4_1) = true := decide_eq_true c37
       clear c37
       by_cases c38 : x4_1 < (x3_1.length : Int)
       rotate_left
       ·rw [if_neg c38] at H
        exact absurd H (by simp)
       rw [if_pos c38] at H
       have c38b0 : decide (x4_1 < (x3_1.length : Int)) = true := decide_eq_true c38
       clear c38
       obtain ⟨y325, hy325⟩ : ∃ y_ : List (List Bool), y_ = (x3_1.set (x4_1 : Int).toNat x6_2) := ⟨_, rfl⟩
       replace H : (spec_l01Blocks.l0 k2 y325 (wrap64 (x4_1 - 1))) = some r := by first | (rw [hy325]; with_reducible exact H) | (have H2_ := (Option.bind_some _ _).symm.trans H; rw [hy325]; with_reducible exact H2_) | (have H2_ := (Option.bind_some _ _).symm.trans H; with_reducible exact H2_) | with_reducible exact H | (rw [hy325]; exact H) | exact H
       have Ny325 := Aside0.mk hy325
       clear hy325
       have H' := Aside0.mk H
       clear H
       obtain ⟨Ao40, co40, eo40⟩ := Kd.R_slice HO_6.out
       subst eo40
       have p39 : 0 ≤ (x4_1 : Int) := of_decide_eq_true (by first | (with_reducible assumption) | assumption)
       have q39 : (x4_1 : Int) < ((x3_1.length : Int) : Int) := of_decide_eq_true (by first | (with_reducible assumption) | assumption)
       obtain ⟨ce39, hcl39, hM39, hcc39, hfr39⟩ := Kd.N_elem HO_3.out [] (x4_1 : Int) p39 q39
       obtain ⟨ua39_0, uc39_0, rfl, ul39_0, ge39_0⟩ := Kd.FK_slice_open hM39
       have hx39_0 := hcc39 0 _ rfl
       have hf39_0 := hfr39 0
       (try simp only [show ((Kd.slice 4 Kd.bool)).sz = 1 from rfl, Nat.mul_one, Nat.add_zero] at hx39_0)
       (try simp only [show ((Kd.slice 4 Kd.bool)).sz = 1 from rfl, Nat.mul_one, Nat.add_zero] at hf39_0)
       clear hcl39 hcc39 hfr39 hM39
       replace p39 := eq_true p39
       replace q39 := eq_true q39
       have HX41 := Aside0.mk (show Kd.N (Kd.slice 4 Kd.bool) 88 wr w.heap.size (fun k_ => (P0_ k_ ∨ w.heap.size ≤ k_)) (.slice (some ⟨go4, 0, none⟩) x3_1.length co4) x3_1 from (by (with_reducible repeat (first | apply Kd.N_alloc | apply Kd.N_drewN | apply Kd.N_drew)); exact Kd.N_mono HO_3.out (fun _ hk => hk.1)))
       obtain ⟨ce41, hcl41, hM41, hcc41, hfr41⟩ := Kd.N_elem HX41.out [] (x4_1 : Int) (of_decide_eq_true (by first | (with_reducible assumption) | assumption)) (by have h_ : (x4_1 : Int) < ((x3_1.length : Int) : Int) := of_decide_eq_true (by first | (with_reducible assumption) | assumption); first | exact h_ | (have e_ := (Kd.N_reads' HO_3.out).1; omega) | simpa using h_)
       obtain ⟨ua41_0, uc41_0, rfl, ul41_0, ge41_0⟩ := Kd.FK_slice_open hM41
       have HP41 := Kd.N_seg HX41.out (x4_1 : Int) (of_decide_eq_true (by first | (with_reducible assumption) | assumption)) (by have h_ : (x4_1 : Int) < ((x3_1.length : Int) : Int) := of_decide_eq_true (by first | (with_reducible assumption) | assumption); first | exact h_ | (have e_ := (Kd.N_reads' HO_3.out).1; omega) | simpa using h_) (seg := [.slice Ao40 x6_2.length co40]) (j := 0) hcl41 hcc41 (show 1 ≤ 1 from by decide) (x' := x6_2) (Kd.FK_slice_mk (Kd.R_reads' (Kd.R_mono (ok' := (fun k_ => ((fun k_ => (P0_ k_ ∨ w.heap.size ≤ k_))) k_ ∧ k_ ≠ go4)) (Kd.R_apart' (HO_6.out) (Kd.N_typed HO_3.out) (by decide)) (fun k_ hk => ⟨(.inr (hk.1)), fun e_ => (hk.2) (by rw [e_]; rfl)⟩))).2.1 (Kd.R_F (Kd.R_mono (ok' := (fun k_ => ((fun k_ => (P0_ k_ ∨ w.heap.size ≤ k_))) k_ ∧ k_ ≠ go4)) (Kd.R_apart' (HO_6.out) (Kd.N_typed HO_3.out) (by decide)) (fun k_ hk => ⟨(.inr (hk.1)), fun e_ => (hk.2) (by rw [e_]; rfl)⟩)))) (fun _ hk => hk)
       have hx41_0 := hcc41 0 _ rfl
       (try simp only [show ((Kd.slice 4 Kd.bool)).sz = 1 from rfl, Nat.mul_one, Nat.add_zero] at hx41_0)
       have hf41_0 := hfr41 0
       (try simp only [show ((Kd.slice 4 Kd.bool)).sz = 1 from rfl, Nat.mul_one, Nat.add_zero] at hf41_0)
       clear hcl41 hcc41 hfr41 hM41
       (try simp only [show ((Kd.slice 4 Kd.bool)).sz = 1 from rfl, Nat.mul_one, Nat.add_zero] at HP41)
       (try simp only [show ((Kd.slice 4 Kd.bool)).sz = 1 from rfl, Nat.mul_one, Nat.add_zero] at HP41)
       go_wp2_with (first | ((with_reducible refine gate_store (t := 88) (p := 53) rfl ?_); (try (rw [drewN_self wr]; generalize hq_ : World.drewN wr _ = wr; replace HO_3 := Aside0.mk (Kd.N_at hq_ HO_3.out); replace HL317_0 := Aside0.mk (by rw [← hq_]; exact Kd.V_drewN HL317_0.out _); replace HB := Aside0.mk (below_at hq_ HB.out); clear hq_; (try (have HX41 := Aside0.mk (show Kd.N (Kd.slice 4 Kd.bool) 88 wr w.heap.size (fun k_ => (P0_ k_ ∨ w.heap.size ≤ k_)) (.slice (some ⟨go4, 0, none⟩) x3_1.length co4) x3_1 from (by (with_reducible repeat (first | apply Kd.N_alloc | apply Kd.N_drewN | apply Kd.N_drew)); exact Kd.N_mono HO_3.out (fun _ hk => hk.1))))); (try (obtain ⟨ce41, hcl41, hM41, hcc41, hfr41⟩ := Kd.N_elem HX41.out [] (x4_1 : Int) (of_decide_eq_true (by first | (with_reducible assumption) | assumption)) (by have h_ : (x4_1 : Int) < ((x3_1.length : Int) : Int) := of_decide_eq_true (by first | (with_reducible assumption) | assumption); first | exact h_ | (have e_ := (Kd.N_reads' HO_3.out).1; omega) | simpa using h_))); (try (obtain ⟨ua41_0, uc41_0, rfl, ul41_0, ge41_0⟩ := Kd.FK_slice_open hM41)); (try (have HP41 := Kd.N_seg HX41.out (x4_1 : Int) (of_decide_eq_true (by first | (with_reducible assumption) | assumption)) (by have h_ : (x4_1 : Int) < ((x3_1.length : Int) : Int) := of_decide_eq_true (by first | (with_reducible assumption) | assumption); first | exact h_ | (have e_ := (Kd.N_reads' HO_3.out).1; omega) | simpa using h_) (seg := [.slice Ao40 x6_2.length co40]) (j := 0) hcl41 hcc41 (show 1 ≤ 1 from by decide) (x' := x6_2) (Kd.FK_slice_mk (Kd.R_reads' (Kd.R_mono (ok' := (fun k_ => ((fun k_ => (P0_ k_ ∨ w.heap.size ≤ k_))) k_ ∧ k_ ≠ go4)) (Kd.R_apart' (HO_6.out) (Kd.N_typed HO_3.out) (by decide)) (fun k_ hk => ⟨(.inr (hk.1)), fun e_ => (hk.2) (by rw [e_]; rfl)⟩))).2.1 (Kd.R_F (Kd.R_mono (ok' := (fun k_ => ((fun k_ => (P0_ k_ ∨ w.heap.size ≤ k_))) k_ ∧ k_ ≠ go4)) (Kd.R_apart' (HO_6.out) (Kd.N_typed HO_3.out) (by decide)) (fun k_ hk => ⟨(.inr (hk.1)), fun e_ => (hk.2) (by rw [e_]; rfl)⟩)))) (fun _ hk => hk))); (try (have hx41_0 := hcc41 0 _ rfl)); (try (try simp only [show ((Kd.slice 4 Kd.bool)).sz = 1 from rfl, Nat.mul_one, Nat.add_zero] at hx41_0)); (try (have hf41_0 := hfr41 0)); (try (try simp only [show ((Kd.slice 4 Kd.bool)).sz = 1 from rfl, Nat.mul_one, Nat.add_zero] at hf41_0)); (try (clear hcl41 hcc41 hfr41 hM41)); (try (try simp only [show ((Kd.slice 4 Kd.bool)).sz = 1 from rfl, Nat.mul_one, Nat.add_zero] at HP41)); (try (try simp only [show ((Kd.slice 4 Kd.bool)).sz = 1 from rfl, Nat.mul_one, Nat.add_zero] at HP41)))); refine store_event (t := 88) (p := 53) (v := ?vo_w42) (w1 := (wr.setCell ⟨go4, (x4_1 : Int).toNat, none⟩ (.slice Ao40 x6_2.length co40))) ?hg ?ho ?hn ?hr ?_; (case ho => rfl); (case hg => rfl); (case hn => rfl); (case hr => first | (go_simp; done) | (go_simp; rfl)); intro w42 hw; have hg : wr.grownBy w42 (some go4) := (by rw [hw]; exact HP41.2); have hp_ : Kd.N (Kd.slice 4 Kd.bool) 88 w42 w.heap.size (fun k_ => (P0_ k_ ∨ w.heap.size ≤ k_)) (.slice (some ⟨go4, 0, none⟩) x3_1.length co4) y325 := (by rw [hw, Ny325.out]; exact HP41.1); clear HP41; replace HO_3 := Aside0.mk (hp_); replace HB := Aside0.mk ((by rw [hw]; exact below_set (HB.out) GB4.out : Below w.heap.size w w42)); clear HO_6; clear hg hw hp_))
       repeat (go_quiet (first | ((with_reducible refine gate_store (t := 88) (p := 53) rfl ?_); (try (rw [drewN_self wr]; generalize hq_ : World.drewN wr _ = wr; replace HO_3 := Aside0.mk (Kd.N_at hq_ HO_3.out); replace HL317_0 := Aside0.mk (by rw [← hq_]; exact Kd.V_drewN HL317_0.out _); replace HB := Aside0.mk (below_at hq_ HB.out); clear hq_; (try (have HX41 := Aside0.mk (show Kd.N (Kd.slice 4 Kd.bool) 88 wr w.heap.size (fun k_ => (P0_ k_ ∨ w.heap.size ≤ k_)) (.slice (some ⟨go4, 0, none⟩) x3_1.length co4) x3_1 from (by (with_reducible repeat (first | apply Kd.N_alloc | apply Kd.N_drewN | apply Kd.N_drew)); exact Kd.N_mono HO_3.out (fun _ hk => hk.1))))); (try (obtain ⟨ce41, hcl41, hM41, hcc41, hfr41⟩ := Kd.N_elem HX41.out [] (x4_1 : Int) (of_decide_eq_true (by first | (with_reducible assumption) | assumption)) (by have h_ : (x4_1 : Int) < ((x3_1.length : Int) : Int) := of_decide_eq_true (by first | (with_reducible assumption) | assumption); first | exact h_ | (have e_ := (Kd.N_reads' HO_3.out).1; omega) | simpa using h_))); (try (obtain ⟨ua41_0, uc41_0, rfl, ul41_0, ge41_0⟩ := Kd.FK_slice_open hM41)); (try (have HP41 := Kd.N_seg HX41.out (x4_1 : Int) (of_decide_eq_true (by first | (with_reducible assumption) | assumption)) (by have h_ : (x4_1 : Int) < ((x3_1.length : Int) : Int) := of_decide_eq_true (by first | (with_reducible assumption) | assumption); first | exact h_ | (have e_ := (Kd.N_reads' HO_3.out).1; omega) | simpa using h_) (seg := [.slice Ao40 x6_2.length co40]) (j := 0) hcl41 hcc41 (show 1 ≤ 1 from by decide) (x' := x6_2) (Kd.FK_slice_mk (Kd.R_reads' (Kd.R_mono (ok' := (fun k_ => ((fun k_ => (P0_ k_ ∨ w.heap.size ≤ k_))) k_ ∧ k_ ≠ go4)) (Kd.R_apart' (HO_6.out) (Kd.N_typed HO_3.out) (by decide)) (fun k_ hk => ⟨(.inr (hk.1)), fun e_ => (hk.2) (by rw [e_]; rfl)⟩))).2.1 (Kd.R_F (Kd.R_mono (ok' := (fun k_ => ((fun k_ => (P0_ k_ ∨ w.heap.size ≤ k_))) k_ ∧ k_ ≠ go4)) (Kd.R_apart' (HO_6.out) (Kd.N_typed HO_3.out) (by decide)) (fun k_ hk => ⟨(.inr (hk.1)), fun e_ => (hk.2) (by rw [e_]; rfl)⟩)))) (fun _ hk => hk))); (try (have hx41_0 := hcc41 0 _ rfl)); (try (try simp only [show ((Kd.slice 4 Kd.bool)).sz = 1 from rfl, Nat.mul_one, Nat.add_zero] at hx41_0)); (try (have hf41_0 := hfr41 0)); (try (try simp only [show ((Kd.slice 4 Kd.bool)).sz = 1 from rfl, Nat.mul_one, Nat.add_zero] at hf41_0)); (try (clear hcl41 hcc41 hfr41 hM41)); (try (try simp only [show ((Kd.slice 4 Kd.bool)).sz = 1 from rfl, Nat.mul_one, Nat.add_zero] at HP41)); (try (try simp only [show ((Kd.slice 4 Kd.bool)).sz = 1 from rfl, Nat.mul_one, Nat.add_zero] at HP41)))); refine store_event (t := 88) (p := 53) (v := ?vo_w42) (w1 := (wr.setCell ⟨go4, (x4_1 : Int).toNat, none⟩ (.slice Ao40 x6_2.length co40))) ?hg ?ho ?hn ?hr ?_; (case ho => rfl); (case hg => rfl); (case hn => rfl); (case hr => first | (go_simp; done) | (go_simp; rfl)); intro w42 hw; have hg : wr.grownBy w42 (some go4) := (by rw [hw]; exact HP41.2); have hp_ : Kd.N (Kd.slice 4 Kd.bool) 88 w42 w.heap.size (fun k_ => (P0_ k_ ∨ w.heap.size ≤ k_)) (.slice (some ⟨go4, 0, none⟩) x3_1.length co4) y325 := (by rw [hw, Ny325.out]; exact HP41.1); clear HP41; replace HO_3 := Aside0.mk (hp_); replace HB := Aside0.mk ((by rw [hw]; exact below_set (HB.out) GB4.out : Below w.heap.size w w42)); clear HO_6; clear hg hw hp_)); try go_wp2_with (first | ((with_reducible refine gate_store (t := 88) (p := 53) rfl ?_); (try (rw [drewN_self wr]; generalize hq_ : World.drewN wr _ = wr; replace HO_3 := Aside0.mk (Kd.N_at hq_ HO_3.out); replace HL317_0 := Aside0.mk (by rw [← hq_]; exact Kd.V_drewN HL317_0.out _); replace HB := Aside0.mk (below_at hq_ HB.out); clear hq_; (try (have HX41 := Aside0.mk (show Kd.N (Kd.slice 4 Kd.bool) 88 wr w.heap.size (fun k_ => (P0_ k_ ∨ w.heap.size ≤ k_)) (.slice (some ⟨go4, 0, none⟩) x3_1.length co4) x3_1 from (by (with_reducible repeat (first | apply Kd.N_alloc | apply Kd.N_drewN | apply Kd.N_drew)); exact Kd.N_mono HO_3.out (fun _ hk => hk.1))))); (try (obtain ⟨ce41, hcl41, hM41, hcc41, hfr41⟩ := Kd.N_elem HX41.out [] (x4_1 : Int) (of_decide_eq_true (by first | (with_reducible assumption) | assumption)) (by have h_ : (x4_1 : Int) < ((x3_1.length : Int) : Int) := of_decide_eq_true (by first | (with_reducible assumption) | assumption); first | exact h_ | (have e_ := (Kd.N_reads' HO_3.out).1; omega) | simpa using h_))); (try (obtain ⟨ua41_0, uc41_0, rfl, ul41_0, ge41_0⟩ := Kd.FK_slice_open hM41)); (try (have HP41 := Kd.N_seg HX41.out (x4_1 : Int) (of_decide_eq_true (by first | (with_reducible assumption) | assumption)) (by have h_ : (x4_1 : Int) < ((x3_1.length : Int) : Int) := of_decide_eq_true (by first | (with_reducible assumption) | assumption); first | exact h_ | (have e_ := (Kd.N_reads' HO_3.out).1; omega) | simpa using h_) (seg := [.slice Ao40 x6_2.length co40]) (j := 0) hcl41 hcc41 (show 1 ≤ 1 from by decide) (x' := x6_2) (Kd.FK_slice_mk (Kd.R_reads' (Kd.R_mono (ok' := (fun k_ => ((fun k_ => (P0_ k_ ∨ w.heap.size ≤ k_))) k_ ∧ k_ ≠ go4)) (Kd.R_apart' (HO_6.out) (Kd.N_typed HO_3.out) (by decide)) (fun k_ hk => ⟨(.inr (hk.1)), fun e_ => (hk.2) (by rw [e_]; rfl)⟩))).2.1 (Kd.R_F (Kd.R_mono (ok' := (fun k_ => ((fun k_ => (P0_ k_ ∨ w.heap.size ≤ k_))) k_ ∧ k_ ≠ go4)) (Kd.R_apart' (HO_6.out) (Kd.N_typed HO_3.out) (by decide)) (fun k_ hk => ⟨(.inr (hk.1)), fun e_ => (hk.2) (by rw [e_]; rfl)⟩)))) (fun _ hk => hk))); (try (have hx41_0 := hcc41 0 _ rfl)); (try (try simp only [show ((Kd.slice 4 Kd.bool)).sz = 1 from rfl, Nat.mul_one, Nat.add_zero] at hx41_0)); (try (have hf41_0 := hfr41 0)); (try (try simp only [show ((Kd.slice 4 Kd.bool)).sz = 1 from rfl, Nat.mul_one, Nat.add_zero] at hf41_0)); (try (clear hcl41 hcc41 hfr41 hM41)); (try (try simp only [show ((Kd.slice 4 Kd.bool)).sz = 1 from rfl, Nat.mul_one, Nat.add_zero] at HP41)); (try (try simp only [show ((Kd.slice 4 Kd.bool)).sz = 1 from rfl, Nat.mul_one, Nat.add_zero] at HP41)))); refine store_event (t := 88) (p := 53) (v := ?vo_w42) (w1 := (wr.setCell ⟨go4, (x4_1 : Int).toNat, none⟩ (.slice Ao40 x6_2.length co40))) ?hg ?ho ?hn ?hr ?_; (case ho => rfl); (case hg => rfl); (case hn => rfl); (case hr => first | (go_simp; done) | (go_simp; rfl)); intro w42 hw; have hg : wr.grownBy w42 (some go4) := (by rw [hw]; exact HP41.2); have hp_ : Kd.N (Kd.slice 4 Kd.bool) 88 w42 w.heap.size (fun k_ => (P0_ k_ ∨ w.heap.size ≤ k_)) (.slice (some ⟨go4, 0, none⟩) x3_1.length co4) y325 := (by rw [hw, Ny325.out]; exact HP41.1); clear HP41; replace HO_3 := Aside0.mk (hp_); replace HB := Aside0.mk ((by rw [hw]; exact below_set (HB.out) GB4.out : Below w.heap.size w w42)); clear HO_6; clear hg hw hp_)))
       (try simp only [← hl3_1])
       go_roundg k2
       case measure => have := HK1.out; have := HK2.out; omega
       case rel => exact ⟨(y325), (wrap64 (x4_1 - 1)), (by first | rfl | (simp; done) | (simp [*]; done)), H', ⟨by have := HK1.out; have := HK2.out; omega⟩, ⟨by (try simp only [hl3_1]); (with_reducible repeat (first | apply Kd.N_alloc | apply Kd.N_drewN | apply Kd.N_drew)); exact HO_3.out⟩, ⟨by repeat (first | (with_reducible first | exact HB.out | apply below_alloc | apply pw_below_drewN | apply below_drew1) | exact HB.out)⟩⟩
      rw [if_pos c18] at H
      have c18b0 : decide (x7_2 < (x6_2.length : Int)) = true := decide_eq_true c18
      clear c18
      obtain ⟨ji19, hji19⟩ : ∃ j_ : Int, (wrap64 (2 * x7_2)) = j_ := ⟨_, rfl⟩
      first | rw [hji19] at H | simp only [hji19] at H
      have hji19w : (IntKind.i64.wrap (2 * x7_2)) = ji19 := (i64_w _).trans hji19
      by_cases c20 : 0 ≤ (ji19)
      rotate_left
      ·rw [if_neg c20] at H
       exact absurd H (by simp)
      rw [if_pos c20] at H
      have c20b0 : decide (0 ≤ (ji19)) = true := decide_eq_true c20
      clear c20
      by_cases c21 : (ji19) < ((rd_L5 x3_1 (ji10)).length : Int)
      rotate_left
      ·rw [if_neg c21] at H
       exact absurd H (by simp)
      rw [if_pos c21] at H
      have c21b0 : decide ((ji19) < ((rd_L5 x3_1 (ji10)).length : Int)) = true := decide_eq_true c21
      clear c21
      obtain ⟨bq22, hbq22⟩ : ∃ b_ : Bool, b_ = (rdOf false (rd_L5 x3_1 (ji10)) (ji19)) := ⟨_, rfl⟩
      replace H : (if bq22 = true then (if 0 ≤ (wrap64 ((ji19) + 1)) then (if (wrap64 ((ji19) + 1)) < ((rd_L5 x3_1 (ji10)).length : Int) then (if 0 ≤ x7_2 then (spec_l01Blocks.l1 k2 x3_1 x4_1 (rd_L5 x3_1 (ji10)) (x6_2.set (x7_2 : Int).toNat (rdOf false (rd_L5 x3_1 (ji10)) (wrap64 ((ji19) + 1)))) (wrap64 (x7_2 + 1))) else (none)) else (none)) else (none)) else (if 0 ≤ x7_2 then (spec_l01Blocks.l1 k2 x3_1 x4_1 (rd_L5 x3_1 (ji10)) (x6_2.set (x7_2 : Int).toNat false) (wrap64 (x7_2 + 1))) else (none))) = some r := by rw [← hbq22] at H; exact H
      have Nbq22 := Aside0.mk hbq22
      clear hbq22
      by_cases c23 : bq22 = true
      rotate_left
      ·replace c23 := Bool.eq_false_iff.mpr c23
       subst c23
       rw [if_neg (show ¬ (false = true) by decide)] at H
       by_cases c32 : 0 ≤ x7_2
       rotate_left
       ·rw [if_neg c32] at H
        exact absurd H (by simp)
       rw [if_pos c32] at H
       have c32b0 : decide (0 ≤ x7_2) = true := decide_eq_true c32
       clear c32
       obtain ⟨y324, hy324⟩ : ∃ y_ : List Bool, y_ = (x6_2.set (x7_2 : Int).toNat false) := ⟨_, rfl⟩
       replace H : (spec_l01Blocks.l1 k2 x3_1 x4_1 (rd_L5 x3_1 (ji10)) y324 (wrap64 (x7_2 + 1))) = some r := by first | (rw [hy324]; with_reducible exact H) | (have H2_ := (Option.bind_some _ _).symm.trans H; rw [hy324]; with_reducible exact H2_) | (have H2_ := (Option.bind_some _ _).symm.trans H; with_reducible exact H2_) | with_reducible exact H | (rw [hy324]; exact H) | exact H
       have Ny324 := Aside0.mk hy324
       clear hy324
       have H' := Aside0.mk H
       clear H
       obtain ⟨Ao34, co34, eo34⟩ := Kd.R_slice HO_6.out
       subst eo34
       have p321 : 0 ≤ ((ji19) : Int) := of_decide_eq_true (by first | (with_reducible assumption) | assumption)
       have q321 : (ji19) < ((rd_L5 x3_1 (ji10)).length : Int) := of_decide_eq_true (by first | (with_reducible assumption) | assumption)
       obtain ⟨ad321, e321, hx321_0⟩ := Kd.at_bool HR317_0.out (ji19) p321 q321
       (try rw [← Nbq22.out] at hx321_0)
       cases e321
       replace p321 := eq_true p321
       replace q321 := eq_true q321
       have p33 : 0 ≤ (x7_2 : Int) := of_decide_eq_true (by first | (with_reducible assumption) | assumption)
       have q33 : (x7_2 : Int) < ((x6_2.length : Int) : Int) := of_decide_eq_true (by first | (with_reducible assumption) | assumption)
       obtain ⟨go33, co33, eo33, gb33, gl33, cl33, HG33⟩ := Kd.R_form HO_6.out (by omega)
       (first | cases eo33 | (injection eo33 with ea_ en_ ec_; (first | subst ea_ | (injection ea_ with ea_; subst ea_)); subst ec_; clear en_))
       have GB33 := Aside0.mk gb33
       have GG33 := Aside0.mk HG33
       clear gb33 gl33 HG33
       obtain ⟨hx33_0, hf33_0⟩ := Kd.R_celln false HO_6.out (x7_2 : Int) p33 q33
       replace p33 := eq_true p33
       replace q33 := eq_true q33
       have HP35 := Kd.R_putg HO_6.out (x7_2 : Int) false
       go_wp2_with (first | ((with_reducible refine gate_store (t := 4) (p := 49) rfl ?_); (try (rw [drewN_self wr]; generalize hq_ : World.drewN wr _ = wr; replace HO_3 := Aside0.mk (Kd.N_at hq_ HO_3.out); replace HL317_0 := Aside0.mk (by rw [← hq_]; exact Kd.V_drewN HL317_0.out _); replace HO_6 := Aside0.mk (Kd.R_at hq_ HO_6.out); replace HB := Aside0.mk (below_at hq_ HB.out); clear hq_; (try (have HP35 := Kd.R_putg HO_6.out (x7_2 : Int) false)))); refine store_event (t := 4) (p := 49) (v := ?vo_w36) (w1 := (wr.setCell ⟨go33, (x7_2 : Int).toNat, none⟩ (.bool false))) ?hg ?ho ?hn ?hr ?_; (case ho => rfl); (case hg => rfl); (case hn => rfl); (case hr => first | (go_simp; done) | (go_simp; rfl)); intro w36 hw; have hg : wr.grownBy w36 (some go33) := (by rw [hw]; exact HP35.2); have hp_ : Kd.R Kd.bool 4 w36 w.heap.size (fun k_ => (w.heap.size ≤ k_)) (.slice (some ⟨go33, 0, none⟩) x6_2.length co34) y324 := (by rw [hw, Ny324.out]; exact HP35.1); clear HP35; replace HO_3 := Aside0.mk (Kd.N_afterv (v := (.slice (some ⟨go33, 0, none⟩) x6_2.length co34)) (v1 := (.slice (some ⟨go33, 0, none⟩) x6_2.length co34)) (ok := (fun k_ => (P0_ k_ ∨ w.heap.size ≤ k_))) (by (with_reducible repeat (first | apply Kd.N_alloc | apply Kd.N_drewN | apply Kd.N_drew)); exact HO_3.out) hg (.inl rfl)); replace HL317_0 := Aside0.mk (Kd.V_afterv (v := (.slice (some ⟨go33, 0, none⟩) x6_2.length co34)) (v1 := (.slice (some ⟨go33, 0, none⟩) x6_2.length co34)) (ok := (fun k_ => (P0_ k_ ∨ w.heap.size ≤ k_))) (by (with_reducible repeat (first | apply Kd.V_alloc | apply Kd.V_drewN | apply Kd.V_drew)); exact HL317_0.out) hg (.inl rfl)); replace HO_6 := Aside0.mk (hp_); replace HB := Aside0.mk ((by rw [hw]; exact below_set (HB.out) GB33.out : Below w.heap.size w w36)); clear hg hw hp_))
       repeat (go_quiet (first | ((with_reducible refine gate_store (t := 4) (p := 49) rfl ?_); (try (rw [drewN_self wr]; generalize hq_ : World.drewN wr _ = wr; replace HO_3 := Aside0.mk (Kd.N_at hq_ HO_3.out); replace HL317_0 := Aside0.mk (by rw [← hq_]; exact Kd.V_drewN HL317_0.out _); replace HO_6 := Aside0.mk (Kd.R_at hq_ HO_6.out); replace HB := Aside0.mk (below_at hq_ HB.out); clear hq_; (try (have HP35 := Kd.R_putg HO_6.out (x7_2 : Int) false)))); refine store_event (t := 4) (p := 49) (v := ?vo_w36) (w1 := (wr.setCell ⟨go33, (x7_2 : Int).toNat, none⟩ (.bool false))) ?hg ?ho ?hn ?hr ?_; (case ho => rfl); (case hg => rfl); (case hn => rfl); (case hr => first | (go_simp; done) | (go_simp; rfl)); intro w36 hw; have hg : wr.grownBy w36 (some go33) := (by rw [hw]; exact HP35.2); have hp_ : Kd.R Kd.bool 4 w36 w.heap.size (fun k_ => (w.heap.size ≤ k_)) (.slice (some ⟨go33, 0, none⟩) x6_2.length co34) y324 := (by rw [hw, Ny324.out]; exact HP35.1); clear HP35; replace HO_3 := Aside0.mk (Kd.N_afterv (v := (.slice (some ⟨go33, 0, none⟩) x6_2.length co34)) (v1 := (.slice (some ⟨go33, 0, none⟩) x6_2.length co34)) (ok := (fun k_ => (P0_ k_ ∨ w.heap.size ≤ k_))) (by (with_reducible repeat (first | apply Kd.N_alloc | apply Kd.N_drewN | apply Kd.N_drew)); exact HO_3.out) hg (.inl rfl)); replace HL317_0 := Aside0.mk (Kd.V_afterv (v := (.slice (some ⟨go33, 0, none⟩) x6_2.length co34)) (v1 := (.slice (some ⟨go33, 0, none⟩) x6_2.length co34)) (ok := (fun k_ => (P0_ k_ ∨ w.heap.size ≤ k_))) (by (with_reducible repeat (first | apply Kd.V_alloc | apply Kd.V_drewN | apply Kd.V_drew)); exact HL317_0.out) hg (.inl rfl)); replace HO_6 := Aside0.mk (hp_); replace HB := Aside0.mk ((by rw [hw]; exact below_set (HB.out) GB33.out : Below w.heap.size w w36)); clear hg hw hp_)); try go_wp2_with (first | ((with_reducible refine gate_store (t := 4) (p := 49) rfl ?_); (try (rw [drewN_self wr]; generalize hq_ : World.drewN wr _ = wr; replace HO_3 := Aside0.mk (Kd.N_at hq_ HO_3.out); replace HL317_0 := Aside0.mk (by rw [← hq_]; exact Kd.V_drewN HL317_0.out _); replace HO_6 := Aside0.mk (Kd.R_at hq_ HO_6.out); replace HB := Aside0.mk (below_at hq_ HB.out); clear hq_; (try (have HP35 := Kd.R_putg HO_6.out (x7_2 : Int) false)))); refine store_event (t := 4) (p := 49) (v := ?vo_w36) (w1 := (wr.setCell ⟨go33, (x7_2 : Int).toNat, none⟩ (.bool false))) ?hg ?ho ?hn ?hr ?_; (case ho => rfl); (case hg => rfl); (case hn => rfl); (case hr => first | (go_simp; done) | (go_simp; rfl)); intro w36 hw; have hg : wr.grownBy w36 (some go33) := (by rw [hw]; exact HP35.2); have hp_ : Kd.R Kd.bool 4 w36 w.heap.size (fun k_ => (w.heap.size ≤ k_)) (.slice (some ⟨go33, 0, none⟩) x6_2.length co34) y324 := (by rw [hw, Ny324.out]; exact HP35.1); clear HP35; replace HO_3 := Aside0.mk (Kd.N_afterv (v := (.slice (some ⟨go33, 0, none⟩) x6_2.length co34)) (v1 := (.slice (some ⟨go33, 0, none⟩) x6_2.length co34)) (ok := (fun k_ => (P0_ k_ ∨ w.heap.size ≤ k_))) (by (with_reducible repeat (first | apply Kd.N_alloc | apply Kd.N_drewN | apply Kd.N_drew)); exact HO_3.out) hg (.inl rfl)); replace HL317_0 := Aside0.mk (Kd.V_afterv (v := (.slice (some ⟨go33, 0, none⟩) x6_2.length co34)) (v1 := (.slice (some ⟨go33, 0, none⟩) x6_2.length co34)) (ok := (fun k_ => (P0_ k_ ∨ w.heap.size ≤ k_))) (by (with_reducible repeat (first | apply Kd.V_alloc | apply Kd.V_drewN | apply Kd.V_drew)); exact HL317_0.out) hg (.inl rfl)); replace HO_6 := Aside0.mk (hp_); replace HB := Aside0.mk ((by rw [hw]; exact below_set (HB.out) GB33.out : Below w.heap.size w w36)); clear hg hw hp_)))
       go_roundg k2
       case measure => have := HK1.out; have := HK2.out; omega
       case rel => exact ⟨(y324), (wrap64 (x7_2 + 1)), (by first | rfl | (simp; done) | (simp [*]; done)), H', ⟨by have := HK1.out; have := HK2.out; omega⟩, ⟨by (try simp only [hl3_1]); (with_reducible repeat (first | apply Kd.N_alloc | apply Kd.N_drewN | apply Kd.N_drew)); exact HO_3.out⟩, ⟨by (with_reducible repeat (first | apply Kd.V_alloc | apply Kd.V_drewN | apply Kd.V_drew)); exact HL317_0.out⟩, ⟨by (try simp only [hl3_1]); (with_reducible repeat (first | apply Kd.R_alloc | apply Kd.R_drewN | apply Kd.R_drew)); exact HO_6.out⟩, ⟨by repeat (first | (with_reducible first | exact HB.out | apply below_alloc | apply pw_below_drewN | apply below_drew1) | exact HB.out)⟩⟩
      subst c23
      rw [if_pos rfl] at H
      obtain ⟨ji24, hji24⟩ : ∃ j_ : Int, (wrap64 ((ji19) + 1)) = j_ := ⟨_, rfl⟩
      first | rw [hji24] at H | simp only [hji24] at H
      have hji24w : (IntKind.i64.wrap ((ji19) + 1)) = ji24 := (i64_w _).trans hji24
      by_cases c25 : 0 ≤ (ji24)
      rotate_left
      ·rw [if_neg c25] at H
       exact absurd H (by simp)
      rw [if_pos c25] at H
      have c25b0 : decide (0 ≤ (ji24)) = true := decide_eq_true c25
      clear c25
      by_cases c26 : (ji24) < ((rd_L5 x3_1 (ji10)).length : Int)
      rotate_left
      ·rw [if_neg c26] at H
       exact absurd H (by simp)
      rw [if_pos c26] at H
      have c26b0 : decide ((ji24) < ((rd_L5 x3_1 (ji10)).length : Int)) = true := decide_eq_true c26
      clear c26
      by_cases c27 : 0 ≤ x7_2
      rotate_left
      ·rw [if_neg c27] at H
       exact absurd H (by simp)
      rw [if_pos c27] at H
      have c27b0 : decide (0 ≤ x7_2) = true := decide_eq_true c27
      clear c27
      obtain ⟨y323, hy323⟩ : ∃ y_ : List Bool, y_ = (x6_2.set (x7_2 : Int).toNat (rdOf false (rd_L5 x3_1 (ji10)) (ji24))) := ⟨_, rfl⟩
      replace H : (spec_l01Blocks.l1 k2 x3_1 x4_1 (rd_L5 x3_1 (ji10)) y323 (wrap64 (x7_2 + 1))) = some r := by first | (rw [hy323]; with_reducible exact H) | (have H2_ := (Option.bind_some _ _).symm.trans H; rw [hy323]; with_reducible exact H2_) | (have H2_ := (Option.bind_some _ _).symm.trans H; with_reducible exact H2_) | with_reducible exact H | (rw [hy323]; exact H) | exact H
      have Ny323 := Aside0.mk hy323
      clear hy323
      have H' := Aside0.mk H
      clear H
      obtain ⟨Ao29, co29, eo29⟩ := Kd.R_slice HO_6.out
      subst eo29
      have p321 : 0 ≤ ((ji19) : Int) := of_decide_eq_true (by first | (with_reducible assumption) | assumption)
      have q321 : (ji19) < ((rd_L5 x3_1 (ji10)).length : Int) := of_decide_eq_true (by first | (with_reducible assumption) | assumption)
      obtain ⟨ad321, e321, hx321_0⟩ := Kd.at_bool HR317_0.out (ji19) p321 q321
      (try rw [← Nbq22.out] at hx321_0)
      cases e321
      replace p321 := eq_true p321
      replace q321 := eq_true q321
      have p322 : 0 ≤ ((ji24) : Int) := of_decide_eq_true (by first | (with_reducible assumption) | assumption)
      have q322 : (ji24) < ((rd_L5 x3_1 (ji10)).length : Int) := of_decide_eq_true (by first | (with_reducible assumption) | assumption)
      obtain ⟨ad322, e322, hx322_0⟩ := Kd.at_bool HR317_0.out (ji24) p322 q322
      (try rw [← Nbq22.out] at hx322_0)
      obtain rfl : ad321 = ad322 := (by injection e322)
      replace p322 := eq_true p322
      replace q322 := eq_true q322
      have p28 : 0 ≤ (x7_2 : Int) := of_decide_eq_true (by first | (with_reducible assumption) | assumption)
      have q28 : (x7_2 : Int) < ((x6_2.length : Int) : Int) := of_decide_eq_true (by first | (with_reducible assumption) | assumption)
      obtain ⟨go28, co28, eo28, gb28, gl28, cl28, HG28⟩ := Kd.R_form HO_6.out (by omega)
      (first | cases eo28 | (injection eo28 with ea_ en_ ec_; (first | subst ea_ | (injection ea_ with ea_; subst ea_)); subst ec_; clear en_))
      have GB28 := Aside0.mk gb28
      have GG28 := Aside0.mk HG28
      clear gb28 gl28 HG28
      obtain ⟨hx28_0, hf28_0⟩ := Kd.R_celln false HO_6.out (x7_2 : Int) p28 q28
      replace p28 := eq_true p28
      replace q28 := eq_true q28
      have HP30 := Kd.R_putg HO_6.out (x7_2 : Int) (rdOf false (rd_L5 x3_1 (ji10)) (ji24))
      go_wp2_with (first | ((with_reducible refine gate_store (t := 4) (p := 49) rfl ?_); (try (rw [drewN_self wr]; generalize hq_ : World.drewN wr _ = wr; replace HO_3 := Aside0.mk (Kd.N_at hq_ HO_3.out); replace HL317_0 := Aside0.mk (by rw [← hq_]; exact Kd.V_drewN HL317_0.out _); replace HO_6 := Aside0.mk (Kd.R_at hq_ HO_6.out); replace HB := Aside0.mk (below_at hq_ HB.out); clear hq_; (try (have HP30 := Kd.R_putg HO_6.out (x7_2 : Int) (rdOf false (rd_L5 x3_1 (ji10)) (ji24)))))); refine store_event (t := 4) (p := 49) (v := ?vo_w31) (w1 := (wr.setCell ⟨go28, (x7_2 : Int).toNat, none⟩ (.bool (rdOf false (rd_L5 x3_1 (ji10)) (ji24))))) ?hg ?ho ?hn ?hr ?_; (case ho => rfl); (case hg => rfl); (case hn => rfl); (case hr => first | (go_simp; done) | (go_simp; rfl)); intro w31 hw; have hg : wr.grownBy w31 (some go28) := (by rw [hw]; exact HP30.2); have hp_ : Kd.R Kd.bool 4 w31 w.heap.size (fun k_ => (w.heap.size ≤ k_)) (.slice (some ⟨go28, 0, none⟩) x6_2.length co29) y323 := (by rw [hw, Ny323.out]; exact HP30.1); clear HP30; replace HO_3 := Aside0.mk (Kd.N_afterv (v := (.slice (some ⟨go28, 0, none⟩) x6_2.length co29)) (v1 := (.slice (some ⟨go28, 0, none⟩) x6_2.length co29)) (ok := (fun k_ => (P0_ k_ ∨ w.heap.size ≤ k_))) (by (with_reducible repeat (first | apply Kd.N_alloc | apply Kd.N_drewN | apply Kd.N_drew)); exact HO_3.out) hg (.inl rfl)); replace HL317_0 := Aside0.mk (Kd.V_afterv (v := (.slice (some ⟨go28, 0, none⟩) x6_2.length co29)) (v1 := (.slice (some ⟨go28, 0, none⟩) x6_2.length co29)) (ok := (fun k_ => (P0_ k_ ∨ w.heap.size ≤ k_))) (by (with_reducible repeat (first | apply Kd.V_alloc | apply Kd.V_drewN | apply Kd.V_drew)); exact HL317_0.out) hg (.inl rfl)); replace HO_6 := Aside0.mk (hp_); replace HB := Aside0.mk ((by rw [hw]; exact below_set (HB.out) GB28.out : Below w.heap.size w w31)); clear hg hw hp_))
      repeat (go_quiet (first | ((with_reducible refine gate_store (t := 4) (p := 49) rfl ?_); (try (rw [drewN_self wr]; generalize hq_ : World.drewN wr _ = wr; replace HO_3 := Aside0.mk (Kd.N_at hq_ HO_3.out); replace HL317_0 := Aside0.mk (by rw [← hq_]; exact Kd.V_drewN HL317_0.out _); replace HO_6 := Aside0.mk (Kd.R_at hq_ HO_6.out); replace HB := Aside0.mk (below_at hq_ HB.out); clear hq_; (try (have HP30 := Kd.R_putg HO_6.out (x7_2 : Int) (rdOf false (rd_L5 x3_1 (ji10)) (ji24)))))); refine store_event (t := 4) (p := 49) (v := ?vo_w31) (w1 := (wr.setCell ⟨go28, (x7_2 : Int).toNat, none⟩ (.bool (rdOf false (rd_L5 x3_1 (ji10)) (ji24))))) ?hg ?ho ?hn ?hr ?_; (case ho => rfl); (case hg => rfl); (case hn => rfl); (case hr => first | (go_simp; done) | (go_simp; rfl)); intro w31 hw; have hg : wr.grownBy w31 (some go28) := (by rw [hw]; exact HP30.2); have hp_ : Kd.R Kd.bool 4 w31 w.heap.size (fun k_ => (w.heap.size ≤ k_)) (.slice (some ⟨go28, 0, none⟩) x6_2.length co29) y323 := (by rw [hw, Ny323.out]; exact HP30.1); clear HP30; replace HO_3 := Aside0.mk (Kd.N_afterv (v := (.slice (some ⟨go28, 0, none⟩) x6_2.length co29)) (v1 := (.slice (some ⟨go28, 0, none⟩) x6_2.length co29)) (ok := (fun k_ => (P0_ k_ ∨ w.heap.size ≤ k_))) (by (with_reducible repeat (first | apply Kd.N_alloc | apply Kd.N_drewN | apply Kd.N_drew)); exact HO_3.out) hg (.inl rfl)); replace HL317_0 := Aside0.mk (Kd.V_afterv (v := (.slice (some ⟨go28, 0, none⟩) x6_2.length co29)) (v1 := (.slice (some ⟨go28, 0, none⟩) x6_2.length co29)) (ok := (fun k_ => (P0_ k_ ∨ w.heap.size ≤ k_))) (by (with_reducible repeat (first | apply Kd.V_alloc | apply Kd.V_drewN | apply Kd.V_drew)); exact HL317_0.out) hg (.inl rfl)); replace HO_6 := Aside0.mk (hp_); replace HB := Aside0.mk ((by rw [hw]; exact below_set (HB.out) GB28.out : Below w.heap.size w w31)); clear hg hw hp_)); try go_wp2_with (first | ((with_reducible refine gate_store (t := 4) (p := 49) rfl ?_); (try (rw [drewN_self wr]; generalize hq_ : World.drewN wr _ = wr; replace HO_3 := Aside0.mk (Kd.N_at hq_ HO_3.out); replace HL317_0 := Aside0.mk (by rw [← hq_]; exact Kd.V_drewN HL317_0.out _); replace HO_6 := Aside0.mk (Kd.R_at hq_ HO_6.out); replace HB := Aside0.mk (below_at hq_ HB.out); clear hq_; (try (have HP30 := Kd.R_putg HO_6.out (x7_2 : Int) (rdOf false (rd_L5 x3_1 (ji10)) (ji24)))))); refine store_event (t := 4) (p := 49) (v := ?vo_w31) (w1 := (wr.setCell ⟨go28, (x7_2 : Int).toNat, none⟩ (.bool (rdOf false (rd_L5 x3_1 (ji10)) (ji24))))) ?hg ?ho ?hn ?hr ?_; (case ho => rfl); (case hg => rfl); (case hn => rfl); (case hr => first | (go_simp; done) | (go_simp; rfl)); intro w31 hw; have hg : wr.grownBy w31 (some go28) := (by rw [hw]; exact HP30.2); have hp_ : Kd.R Kd.bool 4 w31 w.heap.size (fun k_ => (w.heap.size ≤ k_)) (.slice (some ⟨go28, 0, none⟩) x6_2.length co29) y323 := (by rw [hw, Ny323.out]; exact HP30.1); clear HP30; replace HO_3 := Aside0.mk (Kd.N_afterv (v := (.slice (some ⟨go28, 0, none⟩) x6_2.length co29)) (v1 := (.slice (some ⟨go28, 0, none⟩) x6_2.length co29)) (ok := (fun k_ => (P0_ k_ ∨ w.heap.size ≤ k_))) (by (with_reducible repeat (first | apply Kd.N_alloc | apply Kd.N_drewN | apply Kd.N_drew)); exact HO_3.out) hg (.inl rfl)); replace HL317_0 := Aside0.mk (Kd.V_afterv (v := (.slice (some ⟨go28, 0, none⟩) x6_2.length co29)) (v1 := (.slice (some ⟨go28, 0, none⟩) x6_2.length co29)) (ok := (fun k_ => (P0_ k_ ∨ w.heap.size ≤ k_))) (by (with_reducible repeat (first | apply Kd.V_alloc | apply Kd.V_drewN | apply Kd.V_drew)); exact HL317_0.out) hg (.inl rfl)); replace HO_6 := Aside0.mk (hp_); replace HB := Aside0.mk ((by rw [hw]; exact below_set (HB.out) GB28.out : Below w.heap.size w w31)); clear hg hw hp_)))
      go_roundg k2
      case measure => have := HK1.out; have := HK2.out; omega
      case rel => exact ⟨(y323), (wrap64 (x7_2 + 1)), (by first | rfl | (simp; done) | (simp [*]; done)), H', ⟨by have := HK1.out; have := HK2.out; omega⟩, ⟨by (try simp only [hl3_1]); (with_reducible repeat (first | apply Kd.N_alloc | apply Kd.N_drewN | apply Kd.N_drew)); exact HO_3.out⟩, ⟨by (with_reducible repeat (first | apply Kd.V_alloc | apply Kd.V_drewN | apply Kd.V_drew)); exact HL317_0.out⟩, ⟨by (try simp only [hl3_1]); (with_reducible repeat (first | apply Kd.R_alloc | apply Kd.R_drewN | apply Kd.R_drew)); exact HO_6.out⟩, ⟨by repeat (first | (with_reducible first | exact HB.out | apply below_alloc | apply pw_below_drewN | apply below_drew1) | exact HB.out)⟩⟩
   rw [if_neg c9] at H
   have c9b0 : decide (0 ≤ x4_1) = false := decide_eq_false c9
   clear c9
   obtain ⟨y326, hy326⟩ : ∃ y_ : List (S28), y_ = (([] : List (S28))) := ⟨_, rfl⟩
   replace H : (spec_l01Blocks.l2 k1 x3_1 y326 0) = some r := by first | (rw [hy326]; with_reducible exact H) | (have H2_ := (Option.bind_some _ _).symm.trans H; rw [hy326]; with_reducible exact H2_) | (have H2_ := (Option.bind_some _ _).symm.trans H; with_reducible exact H2_) | with_reducible exact H | (rw [hy326]; exact H) | exact H
   have Ny326 := Aside0.mk hy326
   clear hy326
   have H' := Aside0.mk H
   clear H
   go_wp2_with (first | ((with_reducible refine gate_dst (N := 54) rfl ?_); refine Kd.R_lit k28 _ 28 ?hg (N := 54) ?hd (xs := ([] : List (S28))) (inner := []) (ok := fun _ => True) (okp := fun _ => True) ?hr ?hp (fun _ hk => hk) trivial (Below.refl _ _) (Nat.le_refl _) (by simp) ?_; (case hd => rfl); (case hg => rfl); (case hr => first | (go_simp; done) | (go_simp; rfl)); (case hp => exact (Reps.none _ _)); intro v327 w43 ho44 hb hg_ hnew_; clear hg_ hnew_; (first | rw [← Ny326.out] at ho44 | (simp only [Int.reduceToNat] at ho44; rw [← Ny326.out] at ho44)); have HO328 := Aside0.mk (Kd.R_lower (Kd.R_newM (M := fun k_ => (w.heap.size ≤ k_)) ho44 (bz_ HB) (fun k_ h_ => h_)) (bz_ HB)); replace HO_3 := Aside0.mk (Kd.N_elder' (by (with_reducible repeat (first | apply Kd.N_alloc | apply Kd.N_drewN | apply Kd.N_drew)); exact HO_3.out) (Kd.R_base ho44) hb); replace HB := Aside0.mk (bt_ HB hb); clear hb ho44))
   repeat (go_quiet (first | ((with_reducible refine gate_dst (N := 54) rfl ?_); refine Kd.R_lit k28 _ 28 ?hg (N := 54) ?hd (xs := ([] : List (S28))) (inner := []) (ok := fun _ => True) (okp := fun _ => True) ?hr ?hp (fun _ hk => hk) trivial (Below.refl _ _) (Nat.le_refl _) (by simp) ?_; (case hd => rfl); (case hg => rfl); (case hr => first | (go_simp; done) | (go_simp; rfl)); (case hp => exact (Reps.none _ _)); intro v327 w43 ho44 hb hg_ hnew_; clear hg_ hnew_; (first | rw [← Ny326.out] at ho44 | (simp only [Int.reduceToNat] at ho44; rw [← Ny326.out] at ho44)); have HO328 := Aside0.mk (Kd.R_lower (Kd.R_newM (M := fun k_ => (w.heap.size ≤ k_)) ho44 (bz_ HB) (fun k_ h_ => h_)) (bz_ HB)); replace HO_3 := Aside0.mk (Kd.N_elder' (by (with_reducible repeat (first | apply Kd.N_alloc | apply Kd.N_drewN | apply Kd.N_drew)); exact HO_3.out) (Kd.R_base ho44) hb); replace HB := Aside0.mk (bt_ HB hb); clear hb ho44)); try go_wp2_with (first | ((with_reducible refine gate_dst (N := 54) rfl ?_); refine Kd.R_lit k28 _ 28 ?hg (N := 54) ?hd (xs := ([] : List (S28))) (inner := []) (ok := fun _ => True) (okp := fun _ => True) ?hr ?hp (fun _ hk => hk) trivial (Below.refl _ _) (Nat.le_refl _) (by simp) ?_; (case hd => rfl); (case hg => rfl); (case hr => first | (go_simp; done) | (go_simp; rfl)); (case hp => exact (Reps.none _ _)); intro v327 w43 ho44 hb hg_ hnew_; clear hg_ hnew_; (first | rw [← Ny326.out] at ho44 | (simp only [Int.reduceToNat] at ho44; rw [← Ny326.out] at ho44)); have HO328 := Aside0.mk (Kd.R_lower (Kd.R_newM (M := fun k_ => (w.heap.size ≤ k_)) ho44 (bz_ HB) (fun k_ h_ => h_)) (bz_ HB)); replace HO_3 := Aside0.mk (Kd.N_elder' (by (with_reducible repeat (first | apply Kd.N_alloc | apply Kd.N_drewN | apply Kd.N_drew)); exact HO_3.out) (Kd.R_base ho44) hb); replace HB := Aside0.mk (bt_ HB hb); clear hb ho44)))
   go_loopg [8, 9] k1 (fun kq v8 v9 w' => ∃ (x8_2 : List (S28)) (x9_2 : Int), v9 = .int .i64 x9_2 ∧ Aside0 (spec_l01Blocks.l2 kq x3_1 x8_2 x9_2 = some r) ∧ Aside0 (kq ≤ k1) ∧ Aside0 (Kd.N (Kd.slice 4 Kd.bool) 88 w' w.heap.size (fun k_ => (P0_ k_ ∨ w.heap.size ≤ k_) ∧ some k_ ≠ (v8 : Value).ownBlock) (.slice (some ⟨go4, 0, none⟩) x3_1.length co4) x3_1) ∧ Aside0 (Kd.R k28 28 w' w.heap.size (fun k_ => (w.heap.size ≤ k_)) v8 x8_2) ∧ Aside0 (Below w.heap.size w w'))
   case atStart => exact ⟨(y326), (0), (by first | rfl | (simp; done) | (simp [*]; done)), H', ⟨Nat.le_refl _⟩, ⟨by (try simp only [hl3_1]); (with_reducible repeat (first | apply Kd.N_alloc | apply Kd.N_drewN | apply Kd.N_drew)); exact HO_3.out⟩, ⟨by (try simp only [hl3_1]); (with_reducible repeat (first | apply Kd.R_alloc | apply Kd.R_drewN | apply Kd.R_drew)); exact Kd.R_mono HO328.out (fun _ hk => hk.1)⟩, ⟨by repeat (first | (with_reducible first | exact HB.out | apply below_alloc | apply pw_below_drewN | apply below_drew1) | exact HB.out)⟩⟩
   case round =>
    clear H'
    try clear c1
    try clear c2
    try clear c2b0
    try clear c2b1
    try clear p2
    try clear q2
    try clear hx2
    try clear hf2
    try clear c3
    try clear c3b0
    try clear c3b1
    try clear p3
    try clear q3
    try clear hx3
    try clear hf3
    try clear c4
    try clear p4
    try clear q4
    try clear hx4
    try clear qi4
    try clear hf4
    try clear p6
    try clear c7
    try clear hx7
    try clear hf7
    try clear c9
    try clear c9b0
    try clear c11
    try clear c11b0
    try clear c12
    try clear c12b0
    try clear c14
    try clear c14b0
    try clear c14b1
    try clear c15
    try clear c15b0
    try clear c15b1
    try clear c18
    try clear c18b0
    try clear c20
    try clear c20b0
    try clear c21
    try clear c21b0
    try clear q22
    try clear c23
    try clear c25
    try clear c25b0
    try clear c26
    try clear c26b0
    try clear c27
    try clear c27b0
    try clear p28
    try clear q28
    try clear hx28
    try clear hf28
    try clear c31
    try clear p31
    try clear q31
    try clear hx31
    try clear c32
    try clear c32b0
    try clear p32
    try clear q32
    try clear hx32
    try clear p33
    try clear q33
    try clear hx33
    try clear hf33
    try clear c37
    try clear c37b0
    try clear c38
    try clear c38b0
    try clear c39
    try clear p39
    try clear q39
    try clear hx39
    try clear hf39
    try clear c41
    try clear hx41
    try clear hf41
    try clear hx28_0
    try clear hx317_0
    try clear hx321_0
    try clear hx322_0
    try clear hx33_0
    try clear hx39_0
    try clear hx41_0
    try clear hx4_0
    try clear hx7_0
    try clear p2
    try clear p28
    try clear p3
    try clear p317
    try clear p321
    try clear p322
    try clear p33
    try clear p39
    try clear p4
    try clear p6
    try clear q28
    try clear q3
    try clear q317
    try clear q321
    try clear q322
    try clear q33
    try clear q39
    try clear q4
    obtain ⟨x8_2, x9_2, rfl, HA, HK2, HO_3, HO_8, HB⟩ := hrel
    cases gk with
    | zero => exact absurd HA.out (by simp [spec_l01Blocks.l2])
    | succ k2 =>
     have H := HA.out
     clear HA
     simp only [spec_l01Blocks.l2] at H
     by_cases c45 : x9_2 < 65536
     rotate_left
     ·rw [if_neg c45] at H
      have c45b0 : decide (x9_2 < 65536) = false := decide_eq_false c45
      clear c45
      obtain rfl := Option.some.inj H
      go_wp2
      repeat (go_quiet (fail); try go_wp2)
      go_ret
      exact ⟨_, by first | rfl | (simp [errW_none, errW_some] <;> rfl) | (simp [*, errW_none, errW_some] <;> rfl), by (with_reducible repeat (first | apply Kd.R_alloc | apply Kd.R_drewN | apply Kd.R_drew)); exact HO_8.out, by repeat (first | (with_reducible first | exact HB.out | apply below_alloc | apply pw_below_drewN | apply below_drew1) | exact HB.out)⟩
     rw [if_pos c45] at H
     have c45b0 : decide (x9_2 < 65536) = true := decide_eq_true c45
     clear c45
     have HC46 := Aside0.mk H
     clear H
     go_upto_block 6 with (fail)
     repeat (go_quiet (fail); go_upto_block 6 with (fail))
     go_cut [10] (fun v10 wc => ∃ (kq : Nat) (x10_45 : Int), v10 = .int .i64 x10_45 ∧ Aside0 (spec_l01Blocks.j4 kq x3_1 x8_2 x9_2 x10_45 = some r) ∧ Aside0 (kq ≤ k2) ∧ Aside0 (Kd.N (Kd.slice 4 Kd.bool) 88 wc w.heap.size (fun k_ => (P0_ k_ ∨ w.heap.size ≤ k_) ∧ some k_ ≠ (u8 : Value).ownBlock) (.slice (some ⟨go4, 0, none⟩) x3_1.length co4) x3_1) ∧ Aside0 (Kd.R k28 28 wc w.heap.size (fun k_ => (w.heap.size ≤ k_)) u8 x8_2) ∧ Aside0 (Below w.heap.size w wc))
     case first =>
      have H := HC46.out
      clear HC46
      have H' := Aside0.mk H
      clear H
      go_wp2
      repeat (go_quiet (fail); try go_wp2)
      go_loopg [10] k2 (fun kq v10 w' => ∃ (x10_3 : Int), v10 = .int .i64 x10_3 ∧ Aside0 (spec_l01Blocks.l3 kq x3_1 x8_2 x9_2 x10_3 = some r) ∧ Aside0 (kq ≤ k2) ∧ Aside0 (Kd.N (Kd.slice 4 Kd.bool) 88 w' w.heap.size (fun k_ => (P0_ k_ ∨ w.heap.size ≤ k_) ∧ some k_ ≠ (u8 : Value).ownBlock) (.slice (some ⟨go4, 0, none⟩) x3_1.length co4) x3_1) ∧ Aside0 (Kd.R k28 28 w' w.heap.size (fun k_ => (w.heap.size ≤ k_)) u8 x8_2) ∧ Aside0 (Below w.heap.size w w'))
      case atStart => exact ⟨(0), (by first | rfl | (simp; done) | (simp [*]; done)), H', ⟨Nat.le_refl _⟩, ⟨by (try simp only [hl3_1]); (with_reducible repeat (first | apply Kd.N_alloc | apply Kd.N_drewN | apply Kd.N_drew)); exact HO_3.out⟩, ⟨by (try simp only [hl3_1]); (with_reducible repeat (first | apply Kd.R_alloc | apply Kd.R_drewN | apply Kd.R_drew)); exact HO_8.out⟩, ⟨by repeat (first | (with_reducible first | exact HB.out | apply below_alloc | apply pw_below_drewN | apply below_drew1) | exact HB.out)⟩⟩
      case round =>
       clear H'
       try clear c1
       try clear c2
       try clear c2b0
       try clear c2b1
       try clear p2
       try clear q2
       try clear hx2
       try clear hf2
       try clear c3
       try clear c3b0
       try clear c3b1
       try clear p3
       try clear q3
       try clear hx3
       try clear hf3
       try clear c4
       try clear p4
       try clear q4
       try clear hx4
       try clear qi4
       try clear hf4
       try clear p6
       try clear c7
       try clear hx7
       try clear hf7
       try clear c9
       try clear c9b0
       try clear c11
       try clear c11b0
       try clear c12
       try clear c12b0
       try clear c14
       try clear c14b0
       try clear c14b1
       try clear c15
       try clear c15b0
       try clear c15b1
       try clear c18
       try clear c18b0
       try clear c20
       try clear c20b0
       try clear c21
       try clear c21b0
       try clear q22
       try clear c23
       try clear c25
       try clear c25b0
       try clear c26
       try clear c26b0
       try clear c27
       try clear c27b0
       try clear p28
       try clear q28
       try clear hx28
       try clear hf28
       try clear c31
       try clear p31
       try clear q31
       try clear hx31
       try clear c32
       try clear c32b0
       try clear p32
       try clear q32
       try clear hx32
       try clear p33
       try clear q33
       try clear hx33
       try clear hf33
       try clear c37
       try clear c37b0
       try clear c38
       try clear c38b0
       try clear c39
       try clear p39
       try clear q39
       try clear hx39
       try clear hf39
       try clear c41
       try clear hx41
       try clear hf41
       try clear c45
       try clear c45b0
       try clear hx28_0
       try clear hx317_0
       try clear hx321_0
       try clear hx322_0
       try clear hx33_0
       try clear hx39_0
       try clear hx41_0
       try clear hx4_0
       try clear hx7_0
       try clear p2
       try clear p28
       try clear p3
       try clear p31
       try clear p317
       try clear p32
       try clear p321
       try clear p322
       try clear p33
       try clear p39
       try clear p4
       try clear p6
       try clear q2
       try clear q22
       try clear q28
       try clear q3
       try clear q31
       try clear q317
       try clear q32
       try clear q321
       try clear q322
       try clear q33
       try clear q39
       try clear q4
       obtain ⟨x10_3, rfl, HA, HK3, HO_3, HO_8, HB⟩ := hrel
       cases gk with
       | zero => exact absurd HA.out (by simp [spec_l01Blocks.l3])
       | succ k3 =>
        have H := HA.out
        clear HA
        simp only [spec_l01Blocks.l3] at H
        by_cases c47 : x10_3 < 16
        rotate_left
        ·rw [if_neg c47] at H
         have c47b0 : decide (x10_3 < 16) = false := decide_eq_false c47
         clear c47
         (first | rw [c47b0] | (simp only [i64_w, i32_w]; rw [c47b0]) | skip)
         have H' := Aside0.mk H
         clear H
         go_wp2
         repeat (go_quiet (fail); try go_wp2)
         go_meet
         case rel => exact ⟨_, (x10_3), (by first | rfl | (simp; done) | (simp [*]; done)), H', ⟨by have := HK1.out; have := HK2.out; have := HK3.out; first | omega | exact Nat.le_refl _⟩, ⟨by (try simp only [hl3_1]); (with_reducible repeat (first | apply Kd.N_alloc | apply Kd.N_drewN | apply Kd.N_drew)); exact HO_3.out⟩, ⟨by (try simp only [hl3_1]); (with_reducible repeat (first | apply Kd.R_alloc | apply Kd.R_drewN | apply Kd.R_drew)); exact HO_8.out⟩, ⟨by repeat (first | (with_reducible first | exact HB.out | apply below_alloc | apply pw_below_drewN | apply below_drew1) | exact HB.out)⟩⟩
        rw [if_pos c47] at H
        have c47b0 : decide (x10_3 < 16) = true := decide_eq_true c47
        clear c47
        (first | rw [c47b0] | (simp only [i64_w, i32_w]; rw [c47b0]) | skip)
        replace H := Option.bind_eq_some_iff.mp H
        obtain ⟨t329, A480, H⟩ := H
        have A48 := Aside0.mk A480
        clear A480
        by_cases c49 : t329 = 0
        ·rw [if_pos c49] at H
         exact absurd H (by simp)
        rw [if_neg c49] at H
        have c49b0 : (t329 == 0) = false := beq_eq_false_iff_ne.mpr c49
        have c49b1 : (t329 != 0) = true := bne_iff_ne.mpr c49
        by_cases c50 : (Int.tmod x9_2 t329) = 0
        rotate_left
        ·rw [if_neg c50] at H
         have c50b0 : ((Int.tmod x9_2 t329) == 0) = false := beq_eq_false_iff_ne.mpr c50
         have c50b1 : ((Int.tmod x9_2 t329) != 0) = true := bne_iff_ne.mpr c50
         have H' := Aside0.mk H
         clear H
         go_wp2_with (first | (go_at_call 57; (with_reducible refine (spec_l01Size2.calls x10_3 t329 _ A48.out).mono ?_); rintro e w' ⟨rfl, ⟨nd, rfl⟩⟩; (try first | exact ⟨rfl, _, World.drewN_drewN _ _ _⟩ | exact ⟨rfl, _, Eq.trans (World.drewN_drewN _ _ _) (congrArg (World.drewN _) (Nat.add_assoc _ _ _))⟩)))
         repeat (go_quiet (first | (go_at_call 57; (with_reducible refine (spec_l01Size2.calls x10_3 t329 _ A48.out).mono ?_); rintro e w' ⟨rfl, ⟨nd, rfl⟩⟩; (try first | exact ⟨rfl, _, World.drewN_drewN _ _ _⟩ | exact ⟨rfl, _, Eq.trans (World.drewN_drewN _ _ _) (congrArg (World.drewN _) (Nat.add_assoc _ _ _))⟩))); try go_wp2_with (first | (go_at_call 57; (with_reducible refine (spec_l01Size2.calls x10_3 t329 _ A48.out).mono ?_); rintro e w' ⟨rfl, ⟨nd, rfl⟩⟩; (try first | exact ⟨rfl, _, World.drewN_drewN _ _ _⟩ | exact ⟨rfl, _, Eq.trans (World.drewN_drewN _ _ _) (congrArg (World.drewN _) (Nat.add_assoc _ _ _))⟩))))
         go_roundg k3
         case measure => have := HK1.out; have := HK2.out; have := HK3.out; omega
         case rel => exact ⟨(wrap64 (x10_3 + 1)), (by first | rfl | (simp; done) | (simp [*]; done)), H', ⟨by have := HK1.out; have := HK2.out; have := HK3.out; omega⟩, ⟨by (try simp only [hl3_1]); (with_reducible repeat (first | apply Kd.N_alloc | apply Kd.N_drewN | apply Kd.N_drew)); exact HO_3.out⟩, ⟨by (try simp only [hl3_1]); (with_reducible repeat (first | apply Kd.R_alloc | apply Kd.R_drewN | apply Kd.R_drew)); exact HO_8.out⟩, ⟨by repeat (first | (with_reducible first | exact HB.out | apply below_alloc | apply pw_below_drewN | apply below_drew1) | exact HB.out)⟩⟩
        rw [if_pos c50] at H
        have c50b0 : ((Int.tmod x9_2 t329) == 0) = true := beq_iff_eq.mpr c50
        have c50b1 : ((Int.tmod x9_2 t329) != 0) = false := bne_eq_false_iff_eq.mpr c50
        clear c50
        by_cases c51 : 0 ≤ x10_3
        rotate_left
        ·rw [if_neg c51] at H
         exact absurd H (by simp)
        rw [if_pos c51] at H
        have c51b0 : decide (0 ≤ x10_3) = true := decide_eq_true c51
        clear c51
        by_cases c52 : x10_3 < (x3_1.length : Int)
        rotate_left
        ·rw [if_neg c52] at H
         exact absurd H (by simp)
        rw [if_pos c52] at H
        have c52b0 : decide (x10_3 < (x3_1.length : Int)) = true := decide_eq_true c52
        clear c52
        obtain ⟨ji53, hji53⟩ : ∃ j_ : Int, (wrap64 (Int.tdiv x9_2 t329)) = j_ := ⟨_, rfl⟩
        first | rw [hji53] at H | simp only [hji53] at H
        (try rw [hji53] at A48)
        have hji53w : (IntKind.i64.wrap (Int.tdiv x9_2 t329)) = ji53 := (i64_w _).trans hji53
        by_cases c54 : 0 ≤ (ji53)
        rotate_left
        ·rw [if_neg c54] at H
         exact absurd H (by simp)
        rw [if_pos c54] at H
        have c54b0 : decide (0 ≤ (ji53)) = true := decide_eq_true c54
        clear c54
        by_cases c55 : (ji53) < ((rd_L5 x3_1 x10_3).length : Int)
        rotate_left
        ·rw [if_neg c55] at H
         exact absurd H (by simp)
        rw [if_pos c55] at H
        have c55b0 : decide ((ji53) < ((rd_L5 x3_1 x10_3).length : Int)) = true := decide_eq_true c55
        clear c55
        obtain ⟨bq56, hbq56⟩ : ∃ b_ : Bool, b_ = (rdOf false (rd_L5 x3_1 x10_3) (ji53)) := ⟨_, rfl⟩
        replace H : (if (bq56 = true) then (spec_l01Blocks.j4 k3 x3_1 x8_2 x9_2 x10_3) else (spec_l01Blocks.l3 k3 x3_1 x8_2 x9_2 (wrap64 (x10_3 + 1)))) = some r := by rw [← hbq56] at H; exact H
        have Nbq56 := Aside0.mk hbq56
        clear hbq56
        by_cases c57 : (bq56 = true)
        ·subst c57
         rw [if_pos rfl] at H
         have H' := Aside0.mk H
         clear H
         go_wp2_with (first | (go_at_call 57; (with_reducible refine (spec_l01Size2.calls x10_3 t329 _ A48.out).mono ?_); rintro e w' ⟨rfl, ⟨nd, rfl⟩⟩; (try first | exact ⟨rfl, _, World.drewN_drewN _ _ _⟩ | exact ⟨rfl, _, Eq.trans (World.drewN_drewN _ _ _) (congrArg (World.drewN _) (Nat.add_assoc _ _ _))⟩); have p330 : 0 ≤ (x10_3 : Int) := of_decide_eq_true (by first | (with_reducible assumption) | assumption); have q330 : x10_3 < (x3_1.length : Int) := of_decide_eq_true (by first | (with_reducible assumption) | assumption); obtain ⟨ad330, A330_0, c330_0, e330, hx330_0, hl330_0, hi330_0⟩ := at_L5 (Kd.N_reads' HO_3.out).2.2 x10_3 p330 q330; obtain rfl : (⟨go4, 0, none⟩ : Addr) = ad330 := (by injection e330); obtain ⟨ce330, hce330, hMe330, hcc330⟩ := Kd.N_get HO_3.out [] x10_3 p330 (by first | exact q330 | exact of_decide_eq_true (by first | (with_reducible assumption) | assumption) | (have e_ := (Kd.N_reads' HO_3.out).1; omega)); obtain ⟨ua330_0, uc330_0, rfl, ul330_0, ge330_0⟩ := Kd.FK_slice_open hMe330; have hv330_0 := hcc330 0 _ rfl; rw [Nat.add_zero, show ((Kd.slice 4 Kd.bool)).sz = 1 from rfl, Nat.mul_one] at hv330_0; replace hv330_0 := Option.some.inj (hv330_0.symm.trans hx330_0); injection hv330_0 with hva_ hvn_ hvc_; rw [hva_] at ge330_0; rw [hvc_] at ul330_0; have HL330_0 := Aside0.mk (show Kd.V Kd.bool 4 _ w.heap.size _ _ (rd_L5 x3_1 x10_3) from Kd.V_mk ul330_0 ge330_0); clear hva_ hvn_ hvc_ ge330_0 ul330_0; clear hcc330 hce330; (first | simp only [add_plain] at hx330_0 | simp only [add_at] at hx330_0 | simp only [Addr.add, Nat.zero_add] at hx330_0 | skip); have HR330_0 := Aside0.mk hi330_0; have HC330_0 := Aside0.mk hl330_0; clear hi330_0 hl330_0; replace p330 := eq_true p330; replace q330 := eq_true q330; have p331 : 0 ≤ ((ji53) : Int) := of_decide_eq_true (by first | (with_reducible assumption) | assumption); have q331 : (ji53) < ((rd_L5 x3_1 x10_3).length : Int) := of_decide_eq_true (by first | (with_reducible assumption) | assumption); obtain ⟨ad331, e331, hx331_0⟩ := Kd.at_bool (by repeat (first | (with_reducible exact HR330_0.out) | (with_reducible refine Kd.C_alloc ?_ _) | (with_reducible refine Kd.C_drewN ?_ _) | (with_reducible refine Kd.C_drew ?_) | exact HR330_0.out)) (ji53) p331 q331; (try rw [← Nbq56.out] at hx331_0); cases e331; replace p331 := eq_true p331; replace q331 := eq_true q331))
         repeat (go_quiet (first | (go_at_call 57; (with_reducible refine (spec_l01Size2.calls x10_3 t329 _ A48.out).mono ?_); rintro e w' ⟨rfl, ⟨nd, rfl⟩⟩; (try first | exact ⟨rfl, _, World.drewN_drewN _ _ _⟩ | exact ⟨rfl, _, Eq.trans (World.drewN_drewN _ _ _) (congrArg (World.drewN _) (Nat.add_assoc _ _ _))⟩); have p330 : 0 ≤ (x10_3 : Int) := of_decide_eq_true (by first | (with_reducible assumption) | assumption); have q330 : x10_3 < (x3_1.length : Int) := of_decide_eq_true (by first | (with_reducible assumption) | assumption); obtain ⟨ad330, A330_0, c330_0, e330, hx330_0, hl330_0, hi330_0⟩ := at_L5 (Kd.N_reads' HO_3.out).2.2 x10_3 p330 q330; obtain rfl : (⟨go4, 0, none⟩ : Addr) = ad330 := (by injection e330); obtain ⟨ce330, hce330, hMe330, hcc330⟩ := Kd.N_get HO_3.out [] x10_3 p330 (by first | exact q330 | exact of_decide_eq_true (by first | (with_reducible assumption) | assumption) | (have e_ := (Kd.N_reads' HO_3.out).1; omega)); obtain ⟨ua330_0, uc330_0, rfl, ul330_0, ge330_0⟩ := Kd.FK_slice_open hMe330; have hv330_0 := hcc330 0 _ rfl; rw [Nat.add_zero, show ((Kd.slice 4 Kd.bool)).sz = 1 from rfl, Nat.mul_one] at hv330_0; replace hv330_0 := Option.some.inj (hv330_0.symm.trans hx330_0); injection hv330_0 with hva_ hvn_ hvc_; rw [hva_] at ge330_0; rw [hvc_] at ul330_0; have HL330_0 := Aside0.mk (show Kd.V Kd.bool 4 _ w.heap.size _ _ (rd_L5 x3_1 x10_3) from Kd.V_mk ul330_0 ge330_0); clear hva_ hvn_ hvc_ ge330_0 ul330_0; clear hcc330 hce330; (first | simp only [add_plain] at hx330_0 | simp only [add_at] at hx330_0 | simp only [Addr.add, Nat.zero_add] at hx330_0 | skip); have HR330_0 := Aside0.mk hi330_0; have HC330_0 := Aside0.mk hl330_0; clear hi330_0 hl330_0; replace p330 := eq_true p330; replace q330 := eq_true q330; have p331 : 0 ≤ ((ji53) : Int) := of_decide_eq_true (by first | (with_reducible assumption) | assumption); have q331 : (ji53) < ((rd_L5 x3_1 x10_3).length : Int) := of_decide_eq_true (by first | (with_reducible assumption) | assumption); obtain ⟨ad331, e331, hx331_0⟩ := Kd.at_bool (by repeat (first | (with_reducible exact HR330_0.out) | (with_reducible refine Kd.C_alloc ?_ _) | (with_reducible refine Kd.C_drewN ?_ _) | (with_reducible refine Kd.C_drew ?_) | exact HR330_0.out)) (ji53) p331 q331; (try rw [← Nbq56.out] at hx331_0); cases e331; replace p331 := eq_true p331; replace q331 := eq_true q331)); try go_wp2_with (first | (go_at_call 57; (with_reducible refine (spec_l01Size2.calls x10_3 t329 _ A48.out).mono ?_); rintro e w' ⟨rfl, ⟨nd, rfl⟩⟩; (try first | exact ⟨rfl, _, World.drewN_drewN _ _ _⟩ | exact ⟨rfl, _, Eq.trans (World.drewN_drewN _ _ _) (congrArg (World.drewN _) (Nat.add_assoc _ _ _))⟩); have p330 : 0 ≤ (x10_3 : Int) := of_decide_eq_true (by first | (with_reducible assumption) | assumption); have q330 : x10_3 < (x3_1.length : Int) := of_decide_eq_true (by first | (with_reducible assumption) | assumption); obtain ⟨ad330, A330_0, c330_0, e330, hx330_0, hl330_0, hi330_0⟩ := at_L5 (Kd.N_reads' HO_3.out).2.2 x10_3 p330 q330; obtain rfl : (⟨go4, 0, none⟩ : Addr) = ad330 := (by injection e330); obtain ⟨ce330, hce330, hMe330, hcc330⟩ := Kd.N_get HO_3.out [] x10_3 p330 (by first | exact q330 | exact of_decide_eq_true (by first | (with_reducible assumption) | assumption) | (have e_ := (Kd.N_reads' HO_3.out).1; omega)); obtain ⟨ua330_0, uc330_0, rfl, ul330_0, ge330_0⟩ := Kd.FK_slice_open hMe330; have hv330_0 := hcc330 0 _ rfl; rw [Nat.add_zero, show ((Kd.slice 4 Kd.bool)).sz = 1 from rfl, Nat.mul_one] at hv330_0; replace hv330_0 := Option.some.inj (hv330_0.symm.trans hx330_0); injection hv330_0 with hva_ hvn_ hvc_; rw [hva_] at ge330_0; rw [hvc_] at ul330_0; have HL330_0 := Aside0.mk (show Kd.V Kd.bool 4 _ w.heap.size _ _ (rd_L5 x3_1 x10_3) from Kd.V_mk ul330_0 ge330_0); clear hva_ hvn_ hvc_ ge330_0 ul330_0; clear hcc330 hce330; (first | simp only [add_plain] at hx330_0 | simp only [add_at] at hx330_0 | simp only [Addr.add, Nat.zero_add] at hx330_0 | skip); have HR330_0 := Aside0.mk hi330_0; have HC330_0 := Aside0.mk hl330_0; clear hi330_0 hl330_0; replace p330 := eq_true p330; replace q330 := eq_true q330; have p331 : 0 ≤ ((ji53) : Int) := of_decide_eq_true (by first | (with_reducible assumption) | assumption); have q331 : (ji53) < ((rd_L5 x3_1 x10_3).length : Int) := of_decide_eq_true (by first | (with_reducible assumption) | assumption); obtain ⟨ad331, e331, hx331_0⟩ := Kd.at_bool (by repeat (first | (with_reducible exact HR330_0.out) | (with_reducible refine Kd.C_alloc ?_ _) | (with_reducible refine Kd.C_drewN ?_ _) | (with_reducible refine Kd.C_drew ?_) | exact HR330_0.out)) (ji53) p331 q331; (try rw [← Nbq56.out] at hx331_0); cases e331; replace p331 := eq_true p331; replace q331 := eq_true q331)))
         go_meet
         case rel => exact ⟨_, (x10_3), (by first | rfl | (simp; done) | (simp [*]; done)), H', ⟨by have := HK1.out; have := HK2.out; have := HK3.out; first | omega | exact Nat.le_refl _⟩, ⟨by (try simp only [hl3_1]); (with_reducible repeat (first | apply Kd.N_alloc | apply Kd.N_drewN | apply Kd.N_drew)); exact HO_3.out⟩, ⟨by (try simp only [hl3_1]); (with_reducible repeat (first | apply Kd.R_alloc | apply Kd.R_drewN | apply Kd.R_drew)); exact HO_8.out⟩, ⟨by repeat (first | (with_reducible first | exact HB.out | apply below_alloc | apply pw_below_drewN | apply below_drew1) | exact HB.out)⟩⟩
        replace c57 := Bool.eq_false_iff.mpr c57
        subst c57
        rw [if_neg (show ¬ (false = true) by decide)] at H
        have H' := Aside0.mk H
        clear H
        go_wp2_with (first | (go_at_call 57; (with_reducible refine (spec_l01Size2.calls x10_3 t329 _ A48.out).mono ?_); rintro e w' ⟨rfl, ⟨nd, rfl⟩⟩; (try first | exact ⟨rfl, _, World.drewN_drewN _ _ _⟩ | exact ⟨rfl, _, Eq.trans (World.drewN_drewN _ _ _) (congrArg (World.drewN _) (Nat.add_assoc _ _ _))⟩); have p330 : 0 ≤ (x10_3 : Int) := of_decide_eq_true (by first | (with_reducible assumption) | assumption); have q330 : x10_3 < (x3_1.length : Int) := of_decide_eq_true (by first | (with_reducible assumption) | assumption); obtain ⟨ad330, A330_0, c330_0, e330, hx330_0, hl330_0, hi330_0⟩ := at_L5 (Kd.N_reads' HO_3.out).2.2 x10_3 p330 q330; obtain rfl : (⟨go4, 0, none⟩ : Addr) = ad330 := (by injection e330); obtain ⟨ce330, hce330, hMe330, hcc330⟩ := Kd.N_get HO_3.out [] x10_3 p330 (by first | exact q330 | exact of_decide_eq_true (by first | (with_reducible assumption) | assumption) | (have e_ := (Kd.N_reads' HO_3.out).1; omega)); obtain ⟨ua330_0, uc330_0, rfl, ul330_0, ge330_0⟩ := Kd.FK_slice_open hMe330; have hv330_0 := hcc330 0 _ rfl; rw [Nat.add_zero, show ((Kd.slice 4 Kd.bool)).sz = 1 from rfl, Nat.mul_one] at hv330_0; replace hv330_0 := Option.some.inj (hv330_0.symm.trans hx330_0); injection hv330_0 with hva_ hvn_ hvc_; rw [hva_] at ge330_0; rw [hvc_] at ul330_0; have HL330_0 := Aside0.mk (show Kd.V Kd.bool 4 _ w.heap.size _ _ (rd_L5 x3_1 x10_3) from Kd.V_mk ul330_0 ge330_0); clear hva_ hvn_ hvc_ ge330_0 ul330_0; clear hcc330 hce330; (first | simp only [add_plain] at hx330_0 | simp only [add_at] at hx330_0 | simp only [Addr.add, Nat.zero_add] at hx330_0 | skip); have HR330_0 := Aside0.mk hi330_0; have HC330_0 := Aside0.mk hl330_0; clear hi330_0 hl330_0; replace p330 := eq_true p330; replace q330 := eq_true q330; have p331 : 0 ≤ ((ji53) : Int) := of_decide_eq_true (by first | (with_reducible assumption) | assumption); have q331 : (ji53) < ((rd_L5 x3_1 x10_3).length : Int) := of_decide_eq_true (by first | (with_reducible assumption) | assumption); obtain ⟨ad331, e331, hx331_0⟩ := Kd.at_bool (by repeat (first | (with_reducible exact HR330_0.out) | (with_reducible refine Kd.C_alloc ?_ _) | (with_reducible refine Kd.C_drewN ?_ _) | (with_reducible refine Kd.C_drew ?_) | exact HR330_0.out)) (ji53) p331 q331; (try rw [← Nbq56.out] at hx331_0); cases e331; replace p331 := eq_true p331; replace q331 := eq_true q331))
        repeat (go_quiet (first | (go_at_call 57; (with_reducible refine (spec_l01Size2.calls x10_3 t329 _ A48.out).mono ?_); rintro e w' ⟨rfl, ⟨nd, rfl⟩⟩; (try first | exact ⟨rfl, _, World.drewN_drewN _ _ _⟩ | exact ⟨rfl, _, Eq.trans (World.drewN_drewN _ _ _) (congrArg (World.drewN _) (Nat.add_assoc _ _ _))⟩); have p330 : 0 ≤ (x10_3 : Int) := of_decide_eq_true (by first | (with_reducible assumption) | assumption); have q330 : x10_3 < (x3_1.length : Int) := of_decide_eq_true (by first | (with_reducible assumption) | assumption); obtain ⟨ad330, A330_0, c330_0, e330, hx330_0, hl330_0, hi330_0⟩ := at_L5 (Kd.N_reads' HO_3.out).2.2 x10_3 p330 q330; obtain rfl : (⟨go4, 0, none⟩ : Addr) = ad330 := (by injection e330); obtain ⟨ce330, hce330, hMe330, hcc330⟩ := Kd.N_get HO_3.out [] x10_3 p330 (by first | exact q330 | exact of_decide_eq_true (by first | (with_reducible assumption) | assumption) | (have e_ := (Kd.N_reads' HO_3.out).1; omega)); obtain ⟨ua330_0, uc330_0, rfl, ul330_0, ge330_0⟩ := Kd.FK_slice_open hMe330; have hv330_0 := hcc330 0 _ rfl; rw [Nat.add_zero, show ((Kd.slice 4 Kd.bool)).sz = 1 from rfl, Nat.mul_one] at hv330_0; replace hv330_0 := Option.some.inj (hv330_0.symm.trans hx330_0); injection hv330_0 with hva_ hvn_ hvc_; rw [hva_] at ge330_0; rw [hvc_] at ul330_0; have HL330_0 := Aside0.mk (show Kd.V Kd.bool 4 _ w.heap.size _ _ (rd_L5 x3_1 x10_3) from Kd.V_mk ul330_0 ge330_0); clear hva_ hvn_ hvc_ ge330_0 ul330_0; clear hcc330 hce330; (first | simp only [add_plain] at hx330_0 | simp only [add_at] at hx330_0 | simp only [Addr.add, Nat.zero_add] at hx330_0 | skip); have HR330_0 := Aside0.mk hi330_0; have HC330_0 := Aside0.mk hl330_0; clear hi330_0 hl330_0; replace p330 := eq_true p330; replace q330 := eq_true q330; have p331 : 0 ≤ ((ji53) : Int) := of_decide_eq_true (by first | (with_reducible assumption) | assumption); have q331 : (ji53) < ((rd_L5 x3_1 x10_3).length : Int) := of_decide_eq_true (by first | (with_reducible assumption) | assumption); obtain ⟨ad331, e331, hx331_0⟩ := Kd.at_bool (by repeat (first | (with_reducible exact HR330_0.out) | (with_reducible refine Kd.C_alloc ?_ _) | (with_reducible refine Kd.C_drewN ?_ _) | (with_reducible refine Kd.C_drew ?_) | exact HR330_0.out)) (ji53) p331 q331; (try rw [← Nbq56.out] at hx331_0); cases e331; replace p331 := eq_true p331; replace q331 := eq_true q331)); try go_wp2_with (first | (go_at_call 57; (with_reducible refine (spec_l01Size2.calls x10_3 t329 _ A48.out).mono ?_); rintro e w' ⟨rfl, ⟨nd, rfl⟩⟩; (try first | exact ⟨rfl, _, World.drewN_drewN _ _ _⟩ | exact ⟨rfl, _, Eq.trans (World.drewN_drewN _ _ _) (congrArg (World.drewN _) (Nat.add_assoc _ _ _))⟩); have p330 : 0 ≤ (x10_3 : Int) := of_decide_eq_true (by first | (with_reducible assumption) | assumption); have q330 : x10_3 < (x3_1.length : Int) := of_decide_eq_true (by first | (with_reducible assumption) | assumption); obtain ⟨ad330, A330_0, c330_0, e330, hx330_0, hl330_0, hi330_0⟩ := at_L5 (Kd.N_reads' HO_3.out).2.2 x10_3 p330 q330; obtain rfl : (⟨go4, 0, none⟩ : Addr) = ad330 := (by injection e330); obtain ⟨ce330, hce330, hMe330, hcc330⟩ := Kd.N_get HO_3.out [] x10_3 p330 (by first | exact q330 | exact of_decide_eq_true (by first | (with_reducible assumption) | assumption) | (have e_ := (Kd.N_reads' HO_3.out).1; omega)); obtain ⟨ua330_0, uc330_0, rfl, ul330_0, ge330_0⟩ := Kd.FK_slice_open hMe330; have hv330_0 := hcc330 0 _ rfl; rw [Nat.add_zero, show ((Kd.slice 4 Kd.bool)).sz = 1 from rfl, Nat.mul_one] at hv330_0; replace hv330_0 := Option.some.inj (hv330_0.symm.trans hx330_0); injection hv330_0 with hva_ hvn_ hvc_; rw [hva_] at ge330_0; rw [hvc_] at ul330_0; have HL330_0 := Aside0.mk (show Kd.V Kd.bool 4 _ w.heap.size _ _ (rd_L5 x3_1 x10_3) from Kd.V_mk ul330_0 ge330_0); clear hva_ hvn_ hvc_ ge330_0 ul330_0; clear hcc330 hce330; (first | simp only [add_plain] at hx330_0 | simp only [add_at] at hx330_0 | simp only [Addr.add, Nat.zero_add] at hx330_0 | skip); have HR330_0 := Aside0.mk hi330_0; have HC330_0 := Aside0.mk hl330_0; clear hi330_0 hl330_0; replace p330 := eq_true p330; replace q330 := eq_true q330; have p331 : 0 ≤ ((ji53) : Int) := of_decide_eq_true (by first | (with_reducible assumption) | assumption); have q331 : (ji53) < ((rd_L5 x3_1 x10_3).length : Int) := of_decide_eq_true (by first | (with_reducible assumption) | assumption); obtain ⟨ad331, e331, hx331_0⟩ := Kd.at_bool (by repeat (first | (with_reducible exact HR330_0.out) | (with_reducible refine Kd.C_alloc ?_ _) | (with_reducible refine Kd.C_drewN ?_ _) | (with_reducible refine Kd.C_drew ?_) | exact HR330_0.out)) (ji53) p331 q331; (try rw [← Nbq56.out] at hx331_0); cases e331; replace p331 := eq_true p331; replace q331 := eq_true q331)))
        go_roundg k3
        case measure => have := HK1.out; have := HK2.out; have := HK3.out; omega
        case rel => exact ⟨(wrap64 (x10_3 + 1)), (by first | rfl | (simp; done) | (simp [*]; done)), H', ⟨by have := HK1.out; have := HK2.out; have := HK3.out; omega⟩, ⟨by (try simp only [hl3_1]); (with_reducible repeat (first | apply Kd.N_alloc | apply Kd.N_drewN | apply Kd.N_drew)); exact HO_3.out⟩, ⟨by (try simp only [hl3_1]); (with_reducible repeat (first | apply Kd.R_alloc | apply Kd.R_drewN | apply Kd.R_drew)); exact HO_8.out⟩, ⟨by repeat (first | (with_reducible first | exact HB.out | apply below_alloc | apply pw_below_drewN | apply below_drew1) | exact HB.out)⟩⟩
     case rest =>
      clear HC46
      try clear c1
      try clear c2
      try clear c2b0
      try clear c2b1
      try clear p2
      try clear q2
      try clear hx2
      try clear hf2
      try clear c3
      try clear c3b0
      try clear c3b1
      try clear p3
      try clear q3
      try clear hx3
      try clear hf3
      try clear c4
      try clear p4
      try clear q4
      try clear hx4
      try clear qi4
      try clear hf4
      try clear c5
      try clear q5
      try clear p6
      try clear c7
      try clear hx7
      try clear hf7
      try clear c9
      try clear c9b0
      try clear c11
      try clear c11b0
      try clear c12
      try clear c12b0
      try clear c14
      try clear c14b0
      try clear c14b1
      try clear c15
      try clear c15b0
      try clear c15b1
      try clear c18
      try clear c18b0
      try clear c20
      try clear c20b0
      try clear c21
      try clear c21b0
      try clear q22
      try clear c23
      try clear c25
      try clear c25b0
      try clear c26
      try clear c26b0
      try clear c27
      try clear c27b0
      try clear p28
      try clear q28
      try clear hx28
      try clear hf28
      try clear c31
      try clear p31
      try clear q31
      try clear hx31
      try clear c32
      try clear c32b0
      try clear p32
      try clear q32
      try clear hx32
      try clear c33
      try clear p33
      try clear q33
      try clear hx33
      try clear hf33
      try clear c37
      try clear c37b0
      try clear c38
      try clear c38b0
      try clear c39
      try clear p39
      try clear q39
      try clear hx39
      try clear hf39
      try clear c41
      try clear hx41
      try clear hf41
      try clear c45
      try clear c45b0
      try clear c47
      try clear c47b0
      try clear c49
      try clear c49b0
      try clear c49b1
      try clear c50
      try clear c50b0
      try clear c50b1
      try clear c51
      try clear c51b0
      try clear c52
      try clear c52b0
      try clear c54
      try clear c54b0
      try clear c55
      try clear c55b0
      try clear q56
      try clear c57
      try clear hx28_0
      try clear hx317_0
      try clear hx321_0
      try clear hx322_0
      try clear hx330_0
      try clear hx331_0
      try clear hx33_0
      try clear hx39_0
      try clear hx41_0
      try clear hx4_0
      try clear hx7_0
      try clear p2
      try clear p28
      try clear p3
      try clear p31
      try clear p317
      try clear p32
      try clear p321
      try clear p322
      try clear p33
      try clear p330
      try clear p331
      try clear p39
      try clear p4
      try clear p6
      try clear q2
      try clear q22
      try clear q28
      try clear q3
      try clear q31
      try clear q317
      try clear q32
      try clear q321
      try clear q322
      try clear q33
      try clear q330
      try clear q331
      try clear q39
      try clear q4
      obtain ⟨kq, x10_45, rfl, HA, HJ45, HO_3, HO_8, HB⟩ := hcut
      cases kq with
      | zero => exact absurd HA.out (by simp [spec_l01Blocks.j4])
      | succ kj45 =>
       have H := HA.out
       clear HA
       simp only [spec_l01Blocks.j4] at H
       by_cases c58 : 0 ≤ x10_45
       rotate_left
       ·rw [if_neg c58] at H
        exact absurd H (by simp)
       rw [if_pos c58] at H
       have c58b0 : decide (0 ≤ x10_45) = true := decide_eq_true c58
       clear c58
       by_cases c59 : x10_45 < (x3_1.length : Int)
       rotate_left
       ·rw [if_neg c59] at H
        exact absurd H (by simp)
       rw [if_pos c59] at H
       have c59b0 : decide (x10_45 < (x3_1.length : Int)) = true := decide_eq_true c59
       clear c59
       replace H := Option.bind_eq_some_iff.mp H
       obtain ⟨t333, A600, H⟩ := H
       have A60 := Aside0.mk A600
       clear A600
       by_cases c61 : t333 = 0
       ·rw [if_pos c61] at H
        exact absurd H (by simp)
       rw [if_neg c61] at H
       have c61b0 : (t333 == 0) = false := beq_eq_false_iff_ne.mpr c61
       have c61b1 : (t333 != 0) = true := bne_iff_ne.mpr c61
       obtain ⟨ji62, hji62⟩ : ∃ j_ : Int, (wrap64 (Int.tdiv x9_2 t333)) = j_ := ⟨_, rfl⟩
       first | rw [hji62] at H | simp only [hji62] at H
       (try rw [hji62] at A60)
       have hji62w : (IntKind.i64.wrap (Int.tdiv x9_2 t333)) = ji62 := (i64_w _).trans hji62
       by_cases c63 : 0 ≤ (ji62)
       rotate_left
       ·rw [if_neg c63] at H
        exact absurd H (by simp)
       rw [if_pos c63] at H
       have c63b0 : decide (0 ≤ (ji62)) = true := decide_eq_true c63
       clear c63
       by_cases c64 : (ji62) < ((rd_L5 x3_1 x10_45).length : Int)
       rotate_left
       ·rw [if_neg c64] at H
        exact absurd H (by simp)
       rw [if_pos c64] at H
       have c64b0 : decide ((ji62) < ((rd_L5 x3_1 x10_45).length : Int)) = true := decide_eq_true c64
       clear c64
       obtain ⟨bq65, hbq65⟩ : ∃ b_ : Bool, b_ = (rdOf false (rd_L5 x3_1 x10_45) (ji62)) := ⟨_, rfl⟩
       replace H : (if bq65 = true then (if x8_2.length < 8796093022208 then (spec_l01Blocks.l2 kj45 x3_1 (x8_2 ++ [(⟨x9_2, x10_45⟩ : S28)]) (wrap64 (x9_2 + t333))) else (none)) else (spec_l01Blocks.l2 kj45 x3_1 x8_2 (wrap64 (x9_2 + 1)))) = some r := by rw [← hbq65] at H; exact H
       have Nbq65 := Aside0.mk hbq65
       clear hbq65
       by_cases c66 : bq65 = true
       rotate_left
       ·replace c66 := Bool.eq_false_iff.mpr c66
        subst c66
        rw [if_neg (show ¬ (false = true) by decide)] at H
        have H' := Aside0.mk H
        clear H
        have p332 : 0 ≤ (x10_45 : Int) := of_decide_eq_true (by first | (with_reducible assumption) | assumption)
        have q332 : x10_45 < (x3_1.length : Int) := of_decide_eq_true (by first | (with_reducible assumption) | assumption)
        obtain ⟨ad332, A332_0, c332_0, e332, hx332_0, hl332_0, hi332_0⟩ := at_L5 (Kd.N_reads' HO_3.out).2.2 x10_45 p332 q332
        obtain rfl : (⟨go4, 0, none⟩ : Addr) = ad332 := (by injection e332)
        obtain ⟨ce332, hce332, hMe332, hcc332⟩ := Kd.N_get HO_3.out [] x10_45 p332 (by first | exact q332 | exact of_decide_eq_true (by first | (with_reducible assumption) | assumption) | (have e_ := (Kd.N_reads' HO_3.out).1; omega))
        obtain ⟨ua332_0, uc332_0, rfl, ul332_0, ge332_0⟩ := Kd.FK_slice_open hMe332
        have hv332_0 := hcc332 0 _ rfl
        rw [Nat.add_zero, show ((Kd.slice 4 Kd.bool)).sz = 1 from rfl, Nat.mul_one] at hv332_0
        replace hv332_0 := Option.some.inj (hv332_0.symm.trans hx332_0)
        injection hv332_0 with hva_ hvn_ hvc_
        rw [hva_] at ge332_0
        rw [hvc_] at ul332_0
        have HL332_0 := Aside0.mk (show Kd.V Kd.bool 4 _ w.heap.size _ _ (rd_L5 x3_1 x10_45) from Kd.V_mk ul332_0 ge332_0)
        clear hva_ hvn_ hvc_ ge332_0 ul332_0
        clear hcc332 hce332
        (first | simp only [add_plain] at hx332_0 | simp only [add_at] at hx332_0 | simp only [Addr.add, Nat.zero_add] at hx332_0 | skip)
        have HR332_0 := Aside0.mk hi332_0
        have HC332_0 := Aside0.mk hl332_0
        clear hi332_0 hl332_0
        replace p332 := eq_true p332
        replace q332 := eq_true q332
        go_wp2_with (first | (go_at_call 57; (with_reducible refine (spec_l01Size2.calls x10_45 t333 _ A60.out).mono ?_); rintro e w' ⟨rfl, ⟨nd, rfl⟩⟩; (try first | exact ⟨rfl, _, World.drewN_drewN _ _ _⟩ | exact ⟨rfl, _, Eq.trans (World.drewN_drewN _ _ _) (congrArg (World.drewN _) (Nat.add_assoc _ _ _))⟩); have p334 : 0 ≤ ((ji62) : Int) := of_decide_eq_true (by first | (with_reducible assumption) | assumption); have q334 : (ji62) < ((rd_L5 x3_1 x10_45).length : Int) := of_decide_eq_true (by first | (with_reducible assumption) | assumption); obtain ⟨ad334, e334, hx334_0⟩ := Kd.at_bool (by repeat (first | (with_reducible exact HR332_0.out) | (with_reducible refine Kd.C_alloc ?_ _) | (with_reducible refine Kd.C_drewN ?_ _) | (with_reducible refine Kd.C_drew ?_) | exact HR332_0.out)) (ji62) p334 q334; (try rw [← Nbq65.out] at hx334_0); cases e334; replace p334 := eq_true p334; replace q334 := eq_true q334))
        repeat (go_quiet (first | (go_at_call 57; (with_reducible refine (spec_l01Size2.calls x10_45 t333 _ A60.out).mono ?_); rintro e w' ⟨rfl, ⟨nd, rfl⟩⟩; (try first | exact ⟨rfl, _, World.drewN_drewN _ _ _⟩ | exact ⟨rfl, _, Eq.trans (World.drewN_drewN _ _ _) (congrArg (World.drewN _) (Nat.add_assoc _ _ _))⟩); have p334 : 0 ≤ ((ji62) : Int) := of_decide_eq_true (by first | (with_reducible assumption) | assumption); have q334 : (ji62) < ((rd_L5 x3_1 x10_45).length : Int) := of_decide_eq_true (by first | (with_reducible assumption) | assumption); obtain ⟨ad334, e334, hx334_0⟩ := Kd.at_bool (by repeat (first | (with_reducible exact HR332_0.out) | (with_reducible refine Kd.C_alloc ?_ _) | (with_reducible refine Kd.C_drewN ?_ _) | (with_reducible refine Kd.C_drew ?_) | exact HR332_0.out)) (ji62) p334 q334; (try rw [← Nbq65.out] at hx334_0); cases e334; replace p334 := eq_true p334; replace q334 := eq_true q334)); try go_wp2_with (first | (go_at_call 57; (with_reducible refine (spec_l01Size2.calls x10_45 t333 _ A60.out).mono ?_); rintro e w' ⟨rfl, ⟨nd, rfl⟩⟩; (try first | exact ⟨rfl, _, World.drewN_drewN _ _ _⟩ | exact ⟨rfl, _, Eq.trans (World.drewN_drewN _ _ _) (congrArg (World.drewN _) (Nat.add_assoc _ _ _))⟩); have p334 : 0 ≤ ((ji62) : Int) := of_decide_eq_true (by first | (with_reducible assumption) | assumption); have q334 : (ji62) < ((rd_L5 x3_1 x10_45).length : Int) := of_decide_eq_true (by first | (with_reducible assumption) | assumption); obtain ⟨ad334, e334, hx334_0⟩ := Kd.at_bool (by repeat (first | (with_reducible exact HR332_0.out) | (with_reducible refine Kd.C_alloc ?_ _) | (with_reducible refine Kd.C_drewN ?_ _) | (with_reducible refine Kd.C_drew ?_) | exact HR332_0.out)) (ji62) p334 q334; (try rw [← Nbq65.out] at hx334_0); cases e334; replace p334 := eq_true p334; replace q334 := eq_true q334)))
        go_roundg kj45
        case measure => have := HK1.out; have := HK2.out; have := HJ45.out; omega
        case rel => exact ⟨(x8_2), (wrap64 (x9_2 + 1)), (by first | rfl | (simp; done) | (simp [*]; done)), H', ⟨by have := HK1.out; have := HK2.out; have := HJ45.out; omega⟩, ⟨by (try simp only [hl3_1]); (with_reducible repeat (first | apply Kd.N_alloc | apply Kd.N_drewN | apply Kd.N_drew)); exact HO_3.out⟩, ⟨by (try simp only [hl3_1]); (with_reducible repeat (first | apply Kd.R_alloc | apply Kd.R_drewN | apply Kd.R_drew)); exact HO_8.out⟩, ⟨by repeat (first | (with_reducible first | exact HB.out | apply below_alloc | apply pw_below_drewN | apply below_drew1) | exact HB.out)⟩⟩
       subst c66
       rw [if_pos rfl] at H
       by_cases c67 : x8_2.length < 8796093022208
       rotate_left
       ·rw [if_neg c67] at H
        exact absurd H (by simp)
       rw [if_pos c67] at H
       have LMc67 := Aside0.mk c67
       clear c67
       obtain ⟨y335, hy335⟩ : ∃ y_ : List (S28), y_ = (x8_2 ++ [(⟨x9_2, x10_45⟩ : S28)]) := ⟨_, rfl⟩
       replace H : (spec_l01Blocks.l2 kj45 x3_1 y335 (wrap64 (x9_2 + t333))) = some r := by first | (rw [hy335]; with_reducible exact H) | (have H2_ := (Option.bind_some _ _).symm.trans H; rw [hy335]; with_reducible exact H2_) | (have H2_ := (Option.bind_some _ _).symm.trans H; with_reducible exact H2_) | with_reducible exact H | (rw [hy335]; exact H) | exact H
       have Ny335 := Aside0.mk hy335
       clear hy335
       have H' := Aside0.mk H
       clear H
       have p332 : 0 ≤ (x10_45 : Int) := of_decide_eq_true (by first | (with_reducible assumption) | assumption)
       have q332 : x10_45 < (x3_1.length : Int) := of_decide_eq_true (by first | (with_reducible assumption) | assumption)
       obtain ⟨ad332, A332_0, c332_0, e332, hx332_0, hl332_0, hi332_0⟩ := at_L5 (Kd.N_reads' HO_3.out).2.2 x10_45 p332 q332
       obtain rfl : (⟨go4, 0, none⟩ : Addr) = ad332 := (by injection e332)
       obtain ⟨ce332, hce332, hMe332, hcc332⟩ := Kd.N_get HO_3.out [] x10_45 p332 (by first | exact q332 | exact of_decide_eq_true (by first | (with_reducible assumption) | assumption) | (have e_ := (Kd.N_reads' HO_3.out).1; omega))
       obtain ⟨ua332_0, uc332_0, rfl, ul332_0, ge332_0⟩ := Kd.FK_slice_open hMe332
       have hv332_0 := hcc332 0 _ rfl
       rw [Nat.add_zero, show ((Kd.slice 4 Kd.bool)).sz = 1 from rfl, Nat.mul_one] at hv332_0
       replace hv332_0 := Option.some.inj (hv332_0.symm.trans hx332_0)
       injection hv332_0 with hva_ hvn_ hvc_
       rw [hva_] at ge332_0
       rw [hvc_] at ul332_0
       have HL332_0 := Aside0.mk (show Kd.V Kd.bool 4 _ w.heap.size _ _ (rd_L5 x3_1 x10_45) from Kd.V_mk ul332_0 ge332_0)
       clear hva_ hvn_ hvc_ ge332_0 ul332_0
       clear hcc332 hce332
       (first | simp only [add_plain] at hx332_0 | simp only [add_at] at hx332_0 | simp only [Addr.add, Nat.zero_add] at hx332_0 | skip)
       have HR332_0 := Aside0.mk hi332_0
       have HC332_0 := Aside0.mk hl332_0
       clear hi332_0 hl332_0
       replace p332 := eq_true p332
       replace q332 := eq_true q332
       go_wp2_with (first | (go_at_call 57; (with_reducible refine (spec_l01Size2.calls x10_45 t333 _ A60.out).mono ?_); rintro e w' ⟨rfl, ⟨nd, rfl⟩⟩; (try first | exact ⟨rfl, _, World.drewN_drewN _ _ _⟩ | exact ⟨rfl, _, Eq.trans (World.drewN_drewN _ _ _) (congrArg (World.drewN _) (Nat.add_assoc _ _ _))⟩); have p334 : 0 ≤ ((ji62) : Int) := of_decide_eq_true (by first | (with_reducible assumption) | assumption); have q334 : (ji62) < ((rd_L5 x3_1 x10_45).length : Int) := of_decide_eq_true (by first | (with_reducible assumption) | assumption); obtain ⟨ad334, e334, hx334_0⟩ := Kd.at_bool (by repeat (first | (with_reducible exact HR332_0.out) | (with_reducible refine Kd.C_alloc ?_ _) | (with_reducible refine Kd.C_drewN ?_ _) | (with_reducible refine Kd.C_drew ?_) | exact HR332_0.out)) (ji62) p334 q334; (try rw [← Nbq65.out] at hx334_0); cases e334; replace p334 := eq_true p334; replace q334 := eq_true q334) | ((with_reducible refine gate_builtin (b := .append) (xs := #[.tmp 91, .tmp 95]) rfl ?_); at_builtin; refine Kd.R_append k28 (w0 := w) w.heap.size rfl (.tmp 91) (.tmp 95) 51 28 (.agg #[(.int .i64 0), (.int .i64 0)]) 16 rfl Try.underlying51 info28 rfl (by decide) (by omega) u8 x8_2 (⟨x9_2, x10_45⟩ : S28) [.int .i64 x9_2, .int .i64 x10_45] (fun k_ => (w.heap.size ≤ k_)) (fun _ => False) rfl rfl ?aP (fun _ hk => hk.elim) ?aF ?aO ?aB ?aS ?aL ?_; (case aP => exact k28_mkM _ _ _ (⟨x9_2, x10_45⟩ : S28)); (case aB => exact (by repeat (first | (with_reducible first | exact HB.out | apply below_alloc | apply pw_below_drewN | apply below_drew1) | exact HB.out))); (case aF => exact (fun k_ hk => (Nat.le_trans (bz_ HB) hk))); (case aO => exact (hd_ HO_8)); (case aS => exact (bz_ HB)); (case aL => have := LMc67.out; omega); intro v336 w68 ho hb hg hat; rw [← Ny335.out] at ho; have HO337 := Aside0.mk ho; replace HO_3 := Aside0.mk (Kd.N_afterv (ok := (fun k_ => (P0_ k_ ∨ w.heap.size ≤ k_))) (by (with_reducible repeat (first | apply Kd.N_alloc | apply Kd.N_drewN | apply Kd.N_drew)); exact HO_3.out) hg hat); replace HL332_0 := Aside0.mk (Kd.V_afterv (ok := (fun k_ => (P0_ k_ ∨ w.heap.size ≤ k_) ∧ some k_ ≠ (.slice (some ⟨go4, 0, none⟩) x3_1.length co4 : Value).ownBlock)) (by (with_reducible repeat (first | apply Kd.V_alloc | apply Kd.V_drewN | apply Kd.V_drew)); exact Kd.V_mono HL332_0.out (fun _ hk => ⟨⟨hk.1.1, hk.2⟩, hk.1.2⟩)) hg hat); replace HB := Aside0.mk (hb); clear HO_8; clear ho hb hg hat))
       repeat (go_quiet (first | (go_at_call 57; (with_reducible refine (spec_l01Size2.calls x10_45 t333 _ A60.out).mono ?_); rintro e w' ⟨rfl, ⟨nd, rfl⟩⟩; (try first | exact ⟨rfl, _, World.drewN_drewN _ _ _⟩ | exact ⟨rfl, _, Eq.trans (World.drewN_drewN _ _ _) (congrArg (World.drewN _) (Nat.add_assoc _ _ _))⟩); have p334 : 0 ≤ ((ji62) : Int) := of_decide_eq_true (by first | (with_reducible assumption) | assumption); have q334 : (ji62) < ((rd_L5 x3_1 x10_45).length : Int) := of_decide_eq_true (by first | (with_reducible assumption) | assumption); obtain ⟨ad334, e334, hx334_0⟩ := Kd.at_bool (by repeat (first | (with_reducible exact HR332_0.out) | (with_reducible refine Kd.C_alloc ?_ _) | (with_reducible refine Kd.C_drewN ?_ _) | (with_reducible refine Kd.C_drew ?_) | exact HR332_0.out)) (ji62) p334 q334; (try rw [← Nbq65.out] at hx334_0); cases e334; replace p334 := eq_true p334; replace q334 := eq_true q334) | ((with_reducible refine gate_builtin (b := .append) (xs := #[.tmp 91, .tmp 95]) rfl ?_); at_builtin; refine Kd.R_append k28 (w0 := w) w.heap.size rfl (.tmp 91) (.tmp 95) 51 28 (.agg #[(.int .i64 0), (.int .i64 0)]) 16 rfl Try.underlying51 info28 rfl (by decide) (by omega) u8 x8_2 (⟨x9_2, x10_45⟩ : S28) [.int .i64 x9_2, .int .i64 x10_45] (fun k_ => (w.heap.size ≤ k_)) (fun _ => False) rfl rfl ?aP (fun _ hk => hk.elim) ?aF ?aO ?aB ?aS ?aL ?_; (case aP => exact k28_mkM _ _ _ (⟨x9_2, x10_45⟩ : S28)); (case aB => exact (by repeat (first | (with_reducible first | exact HB.out | apply below_alloc | apply pw_below_drewN | apply below_drew1) | exact HB.out))); (case aF => exact (fun k_ hk => (Nat.le_trans (bz_ HB) hk))); (case aO => exact (hd_ HO_8)); (case aS => exact (bz_ HB)); (case aL => have := LMc67.out; omega); intro v336 w68 ho hb hg hat; rw [← Ny335.out] at ho; have HO337 := Aside0.mk ho; replace HO_3 := Aside0.mk (Kd.N_afterv (ok := (fun k_ => (P0_ k_ ∨ w.heap.size ≤ k_))) (by (with_reducible repeat (first | apply Kd.N_alloc | apply Kd.N_drewN | apply Kd.N_drew)); exact HO_3.out) hg hat); replace HL332_0 := Aside0.mk (Kd.V_afterv (ok := (fun k_ => (P0_ k_ ∨ w.heap.size ≤ k_) ∧ some k_ ≠ (.slice (some ⟨go4, 0, none⟩) x3_1.length co4 : Value).ownBlock)) (by (with_reducible repeat (first | apply Kd.V_alloc | apply Kd.V_drewN | apply Kd.V_drew)); exact Kd.V_mono HL332_0.out (fun _ hk => ⟨⟨hk.1.1, hk.2⟩, hk.1.2⟩)) hg hat); replace HB := Aside0.mk (hb); clear HO_8; clear ho hb hg hat)); try go_wp2_with (first | (go_at_call 57; (with_reducible refine (spec_l01Size2.calls x10_45 t333 _ A60.out).mono ?_); rintro e w' ⟨rfl, ⟨nd, rfl⟩⟩; (try first | exact ⟨rfl, _, World.drewN_drewN _ _ _⟩ | exact ⟨rfl, _, Eq.trans (World.drewN_drewN _ _ _) (congrArg (World.drewN _) (Nat.add_assoc _ _ _))⟩); have p334 : 0 ≤ ((ji62) : Int) := of_decide_eq_true (by first | (with_reducible assumption) | assumption); have q334 : (ji62) < ((rd_L5 x3_1 x10_45).length : Int) := of_decide_eq_true (by first | (with_reducible assumption) | assumption); obtain ⟨ad334, e334, hx334_0⟩ := Kd.at_bool (by repeat (first | (with_reducible exact HR332_0.out) | (with_reducible refine Kd.C_alloc ?_ _) | (with_reducible refine Kd.C_drewN ?_ _) | (with_reducible refine Kd.C_drew ?_) | exact HR332_0.out)) (ji62) p334 q334; (try rw [← Nbq65.out] at hx334_0); cases e334; replace p334 := eq_true p334; replace q334 := eq_true q334) | ((with_reducible refine gate_builtin (b := .append) (xs := #[.tmp 91, .tmp 95]) rfl ?_); at_builtin; refine Kd.R_append k28 (w0 := w) w.heap.size rfl (.tmp 91) (.tmp 95) 51 28 (.agg #[(.int .i64 0), (.int .i64 0)]) 16 rfl Try.underlying51 info28 rfl (by decide) (by omega) u8 x8_2 (⟨x9_2, x10_45⟩ : S28) [.int .i64 x9_2, .int .i64 x10_45] (fun k_ => (w.heap.size ≤ k_)) (fun _ => False) rfl rfl ?aP (fun _ hk => hk.elim) ?aF ?aO ?aB ?aS ?aL ?_; (case aP => exact k28_mkM _ _ _ (⟨x9_2, x10_45⟩ : S28)); (case aB => exact (by repeat (first | (with_reducible first | exact HB.out | apply below_alloc | apply pw_below_drewN | apply below_drew1) | exact HB.out))); (case aF => exact (fun k_ hk => (Nat.le_trans (bz_ HB) hk))); (case aO => exact (hd_ HO_8)); (case aS => exact (bz_ HB)); (case aL => have := LMc67.out; omega); intro v336 w68 ho hb hg hat; rw [← Ny335.out] at ho; have HO337 := Aside0.mk ho; replace HO_3 := Aside0.mk (Kd.N_afterv (ok := (fun k_ => (P0_ k_ ∨ w.heap.size ≤ k_))) (by (with_reducible repeat (first | apply Kd.N_alloc | apply Kd.N_drewN | apply Kd.N_drew)); exact HO_3.out) hg hat); replace HL332_0 := Aside0.mk (Kd.V_afterv (ok := (fun k_ => (P0_ k_ ∨ w.heap.size ≤ k_) ∧ some k_ ≠ (.slice (some ⟨go4, 0, none⟩) x3_1.length co4 : Value).ownBlock)) (by (with_reducible repeat (first | apply Kd.V_alloc | apply Kd.V_drewN | apply Kd.V_drew)); exact Kd.V_mono HL332_0.out (fun _ hk => ⟨⟨hk.1.1, hk.2⟩, hk.1.2⟩)) hg hat); replace HB := Aside0.mk (hb); clear HO_8; clear ho hb hg hat)))
       go_roundg kj45
       case measure => have := HK1.out; have := HK2.out; have := HJ45.out; omega
       case rel => exact ⟨(y335), (wrap64 (x9_2 + t333)), (by first | rfl | (simp; done) | (simp [*]; done)), H', ⟨by have := HK1.out; have := HK2.out; have := HJ45.out; omega⟩, ⟨by (try simp only [hl3_1]); (with_reducible repeat (first | apply Kd.N_alloc | apply Kd.N_drewN | apply Kd.N_drew)); exact HO_3.out⟩, ⟨by (try simp only [hl3_1]); (with_reducible repeat (first | apply Kd.R_alloc | apply Kd.R_drewN | apply Kd.R_drew)); exact HO337.out⟩, ⟨by repeat (first | (with_reducible first | exact HB.out | apply below_alloc | apply pw_below_drewN | apply below_drew1) | exact HB.out)⟩⟩

end Go.Proofs.Ytjepmdngbafonaa.QFnAggregate
