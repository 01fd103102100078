/- Contracts of functions that the law reaches: what each call returns and what it leaves in memory. Made by this session over the print of the kit. -/
import Derived.Test.YthmahcohcphljaaQFnExactTreeOfx0
import Derived.Test.YthmahcohcphljaaQFnExactTreeOfx1
import Derived.Test.YthmahcohcphljaaQFnExactTreeOfx6
import Derived.Test.YthmahcohcphljaaQFnExactTreeOfx10
import Derived.Test.YthmahcohcphljaaQFnExactTreeOfx11
namespace Go.Proofs.Ythmahcohcphljaa.QFnExactTreeOf
open Go.RowKit Go.Proofs.YthmahcohcphljaaV.PrintWords Go.Proofs.YthmahcohcphljaaV.PrintLast Go.Proofs.YthmahcohcphljaaV.PrintMore
attribute [local go_sem] max2_int min2_int max_two min_two max_three min_three max_four min_four   -- for this text's walks alone
set_option linter.unusedVariables false
set_option linter.unusedSimpArgs false
def ba12_0 : Array Bool := #[false, false, false, false, false]
def ba12_1 : Array Bool := #[true, false, false, false, false]
def ba12_2 : Array Bool := #[true, true, false, false, false]
def ba12_3 : Array Bool := #[true, true, true, false, false]
def ba12_4 : Array Bool := #[true, true, true, true, false]
def ba12_5 : Array Bool := #[true, true, true, true, true]

/-! ### laws_markIntS: function 17 -/
def laws_markIntS.l0 : Nat → List Int → Int → Int → Option (Int × List Int)
 | 0, _, _, _ => none
 | k + 1, x0, x1, x5 => if x5 < (x0.length : Int) then (if 0 ≤ x5 then (laws_markIntS.l0 k (x0.set (x5 : Int).toNat x1) (wrap64 (x1 + 1)) (wrap64 (x5 + 1))) else (none)) else (some (x1, x0))
def laws_markIntS.f (k : Nat) (l0 : List Int) (a1 : Int) : Option (Int × List Int) := laws_markIntS.l0 k l0 a1 0
theorem laws_markIntS.mono_l : ∀ k, (∀ y0 y1 y2, LeO (laws_markIntS.l0 k y0 y1 y2) (laws_markIntS.l0 (k + 1) y0 y1 y2))
 | 0 => fun _ _ _ r h => by simp [laws_markIntS.l0] at h
 | k + 1 => by
  have ih0 := laws_markIntS.mono_l k
  ·intro y0 y1 y2
   unfold laws_markIntS.l0
   repeat' first
   | (with_reducible exact ih0 _ _ _)
   | (with_reducible exact LeO.refl _)
   | (with_reducible exact LeO.none _)
   | (with_reducible refine LeO.ite ?_ ?_)
   | (with_reducible refine LeO.bind ?_ (fun _ => ?_))
   | exact ih0 _ _ _
   | exact LeO.none _
   | refine LeO.ite ?_ ?_
   | refine LeO.bind ?_ (fun _ => ?_)
theorem laws_markIntS.mono : ∀ a0 a1 k, LeO (laws_markIntS.f k a0 a1) (laws_markIntS.f (k + 1) a0 a1) := by
 intro a0 a1 k
 have ih0 := laws_markIntS.mono_l k
 unfold laws_markIntS.f
 repeat' first
   | (with_reducible exact ih0 _ _ _)
   | (with_reducible exact LeO.refl _)
   | (with_reducible exact LeO.none _)
   | (with_reducible refine LeO.ite ?_ ?_)
   | (with_reducible refine LeO.bind ?_ (fun _ => ?_))
   | exact ih0 _ _ _
   | exact LeO.none _
   | refine LeO.ite ?_ ?_
   | refine LeO.bind ?_ (fun _ => ?_)
set_option maxHeartbeats 8000000 in
set_option maxRecDepth 100000 in
theorem laws_markIntS.calls (k : Nat) (P0_ : Nat → Prop) (u9000_ : Value) (l0 : List Int) (a1 : Int) (r1 : Int) (r2 : List Int) (w0 w : World) (hB : Below w0.heap.size w0 w) (ho0 : Kd.R (Kd.int .i64) 3 w w0.heap.size P0_ u9000_ l0) (h : laws_markIntS.f k l0 a1 = some (r1, r2)) :
  Calls Try.prog 17 #[u9000_, .int .i64 a1] w fun e w' => e = .returned (.int .i64 r1) ∧ Kd.R (Kd.int .i64) 3 w' w0.heap.size (fun k_ => (P0_ k_ ∨ w.heap.size ≤ k_)) u9000_ r2 ∧ Below w0.heap.size w0 w' ∧ Kept w w' (fun k_ => P0_ k_) := by
 have HO0 := Aside0.mk (show Kd.R (Kd.int .i64) 3 w w0.heap.size (fun k_ => (P0_ k_ ∨ w.heap.size ≤ k_)) u9000_ l0 from Kd.R_mono ho0 (fun k_ hk => (.inl hk)))
 have HK := Aside0.mk (Kept.refl w (fun k_ => P0_ k_))
 have HW0 := Aside0.mk hB.size
 have HB := Aside0.mk hB
 clear hB
 have H : (laws_markIntS.l0 k l0 a1 0) = some (r1, r2) := h
 clear h
 have H' := Aside0.mk H
 clear H
 go_enter Try.func17, Try.ntmps17
 go_wp2
 go_loopg [1, 5] k (fun kq v1 v5 w' => ∃ (x0_1 : List Int) (x1_1 : Int) (x5_1 : Int), v1 = .int .i64 x1_1 ∧ v5 = .int .i64 x5_1 ∧ Aside0 (laws_markIntS.l0 kq x0_1 x1_1 x5_1 = some (r1, r2)) ∧ Aside0 (kq ≤ k) ∧ Aside0 (Kd.R (Kd.int .i64) 3 w' w0.heap.size (fun k_ => (P0_ k_ ∨ w.heap.size ≤ k_)) u9000_ x0_1) ∧ Aside0 (Kept w w' (fun k_ => P0_ k_)) ∧ Aside0 (Below w0.heap.size w0 w'))
 case atStart => exact ⟨(l0), (a1), (0), (by first | rfl | (simp; done) | (simp [*]; done)), (by first | rfl | (simp; done) | (simp [*]; done)), H', ⟨Nat.le_refl _⟩, ⟨by (with_reducible repeat (first | apply Kd.R_alloc | apply Kd.R_drewN | apply Kd.R_drew)); exact HO0.out⟩, ⟨by repeat (first | (with_reducible first | exact HK.out | apply Kept.alloc | apply Kept.drewN | apply Kept.drew) | exact HK.out)⟩, ⟨by repeat (first | (with_reducible first | exact HB.out | apply below_alloc | apply pw_below_drewN | apply below_drew1) | exact HB.out)⟩⟩
 case round =>
  clear H'
  try clear c1
  try clear p2
  obtain ⟨x0_1, x1_1, x5_1, rfl, rfl, HA, HK1, HO_0, HK, HB⟩ := hrel
  cases gk with
  | zero => exact absurd HA.out (by simp [laws_markIntS.l0])
  | succ k1 =>
   have H := HA.out
   clear HA
   simp only [laws_markIntS.l0] at H
   by_cases c3 : x5_1 < (x0_1.length : Int)
   rotate_left
   ·rw [if_neg c3] at H
    have c3b0 : decide (x5_1 < (x0_1.length : Int)) = false := decide_eq_false c3
    clear c3
    simp only [Option.some.injEq, Prod.mk.injEq] at H
    obtain ⟨rfl, rfl⟩ := H
    obtain ⟨Ao9, co9, eo9⟩ := Kd.R_slice HO_0.out
    subst eo9
    go_wp2
    go_ret
    exact ⟨by first | rfl | (simp [errW_none, errW_some] <;> rfl) | (simp [*, errW_none, errW_some] <;> rfl), by (with_reducible repeat (first | apply Kd.R_alloc | apply Kd.R_drewN | apply Kd.R_drew)); exact HO_0.out, by repeat (first | (with_reducible first | exact HB.out | apply below_alloc | apply pw_below_drewN | apply below_drew1) | exact HB.out), by repeat (first | (with_reducible first | exact HK.out | apply Kept.alloc | apply Kept.drewN | apply Kept.drew) | exact HK.out)⟩
   rw [if_pos c3] at H
   have c3b0 : decide (x5_1 < (x0_1.length : Int)) = true := decide_eq_true c3
   clear c3
   by_cases c4 : 0 ≤ x5_1
   rotate_left
   ·rw [if_neg c4] at H
    exact absurd H (by simp)
   rw [if_pos c4] at H
   have c4b0 : decide (0 ≤ x5_1) = true := decide_eq_true c4
   clear c4
   obtain ⟨y361, hy361⟩ : ∃ y_ : List Int, y_ = (x0_1.set (x5_1 : Int).toNat x1_1) := ⟨_, rfl⟩
   replace H : (laws_markIntS.l0 k1 y361 (wrap64 (x1_1 + 1)) (wrap64 (x5_1 + 1))) = some (r1, r2) := by first | (rw [hy361]; with_reducible exact H) | (have H2_ := (Option.bind_some _ _).symm.trans H; rw [hy361]; with_reducible exact H2_) | (have H2_ := (Option.bind_some _ _).symm.trans H; with_reducible exact H2_) | with_reducible exact H | (rw [hy361]; exact H) | exact H
   have Ny361 := Aside0.mk hy361
   clear hy361
   have H' := Aside0.mk H
   clear H
   obtain ⟨Ao6, co6, eo6⟩ := Kd.R_slice HO_0.out
   subst eo6
   have p5 : 0 ≤ (x5_1 : Int) := of_decide_eq_true (by first | (with_reducible assumption) | assumption)
   have q5 : (x5_1 : Int) < ((x0_1.length : Int) : Int) := of_decide_eq_true (by first | (with_reducible assumption) | assumption)
   obtain ⟨go5, co5, eo5, gb5, gl5, cl5, HG5⟩ := Kd.R_form HO_0.out (by omega)
   (first | cases eo5 | (injection eo5 with ea_ en_ ec_; (first | subst ea_ | (injection ea_ with ea_; subst ea_)); subst ec_; clear en_))
   have GB5 := Aside0.mk gb5
   have GG5 := Aside0.mk HG5
   clear gb5 gl5 HG5
   have HMgo5 := Aside0.mk (show (P0_ go5 ∨ w.heap.size ≤ go5) from (HO_0.out.1 _ rfl))
   obtain ⟨hx5_0, hf5_0⟩ := Kd.R_celln 0 HO_0.out (x5_1 : Int) p5 q5
   replace p5 := eq_true p5
   replace q5 := eq_true q5
   have HP7 := Kd.R_putg HO_0.out (x5_1 : Int) x1_1
   go_wp2_with (first | ((with_reducible refine gate_store (t := 3) (p := 15) rfl ?_); refine store_event (t := 3) (p := 15) (v := ?vo_w8) (w1 := (wr.setCell ⟨go5, (x5_1 : Int).toNat, none⟩ (.int .i64 x1_1))) ?hg ?ho ?hn ?hr ?_; (case ho => rfl); (case hg => rfl); (case hn => rfl); (case hr => first | (go_simp; done) | (go_simp; rfl)); intro w8 hw; have hg : wr.grownBy w8 (some go5) := (by rw [hw]; exact HP7.2); have hp_ : Kd.R (Kd.int .i64) 3 w8 w0.heap.size (fun k_ => (P0_ k_ ∨ w.heap.size ≤ k_)) (.slice (some ⟨go5, 0, none⟩) x0_1.length co6) y361 := (by rw [hw, Ny361.out]; exact HP7.1); clear HP7; replace HB := Aside0.mk ((by rw [hw]; exact below_set (HB.out) GB5.out : Below w0.heap.size w0 w8)); replace HK := Aside0.mk (Kept.of_grown (S := (fun k_ => P0_ k_)) hg (by repeat (first | (with_reducible first | exact HK.out | apply Kept.alloc | apply Kept.drewN | apply Kept.drew) | exact HK.out)) (fun k_ e_ => (HO_0.out.1 k_ e_))); replace HO_0 := Aside0.mk (hp_); clear hg hw hp_))
   go_roundg k1
   case measure => have := HK1.out; omega
   case rel => exact ⟨(y361), (wrap64 (x1_1 + 1)), (wrap64 (x5_1 + 1)), (by first | rfl | (simp; done) | (simp [*]; done)), (by first | rfl | (simp; done) | (simp [*]; done)), H', ⟨by have := HK1.out; omega⟩, ⟨by (with_reducible repeat (first | apply Kd.R_alloc | apply Kd.R_drewN | apply Kd.R_drew)); exact HO_0.out⟩, ⟨by repeat (first | (with_reducible first | exact HK.out | apply Kept.alloc | apply Kept.drewN | apply Kept.drew) | exact HK.out)⟩, ⟨by repeat (first | (with_reducible first | exact HB.out | apply below_alloc | apply pw_below_drewN | apply below_drew1) | exact HB.out)⟩⟩

/-! ### laws_heldIntS: function 18 -/
def laws_heldIntS.l0 : Nat → List Int → Int → Int → Option (Int)
 | 0, _, _, _ => none
 | k + 1, x0, x1, x5 => if x5 < (x0.length : Int) then (if 0 ≤ x5 then (if (rd x0 x5) = x1 then (laws_heldIntS.l0 k x0 (wrap64 (x1 + 1)) (wrap64 (x5 + 1))) else (some (-1))) else (none)) else (some x1)
def laws_heldIntS.f (k : Nat) (l0 : List Int) (a1 : Int) : Option (Int) := laws_heldIntS.l0 k l0 a1 0
theorem laws_heldIntS.mono_l : ∀ k, (∀ y0 y1 y2, LeO (laws_heldIntS.l0 k y0 y1 y2) (laws_heldIntS.l0 (k + 1) y0 y1 y2))
 | 0 => fun _ _ _ r h => by simp [laws_heldIntS.l0] at h
 | k + 1 => by
  have ih0 := laws_heldIntS.mono_l k
  ·intro y0 y1 y2
   unfold laws_heldIntS.l0
   repeat' first
   | (with_reducible exact ih0 _ _ _)
   | (with_reducible exact LeO.refl _)
   | (with_reducible exact LeO.none _)
   | (with_reducible refine LeO.ite ?_ ?_)
   | (with_reducible refine LeO.bind ?_ (fun _ => ?_))
   | exact ih0 _ _ _
   | exact LeO.none _
   | refine LeO.ite ?_ ?_
   | refine LeO.bind ?_ (fun _ => ?_)
theorem laws_heldIntS.mono : ∀ a0 a1 k, LeO (laws_heldIntS.f k a0 a1) (laws_heldIntS.f (k + 1) a0 a1) := by
 intro a0 a1 k
 have ih0 := laws_heldIntS.mono_l k
 unfold laws_heldIntS.f
 repeat' first
   | (with_reducible exact ih0 _ _ _)
   | (with_reducible exact LeO.refl _)
   | (with_reducible exact LeO.none _)
   | (with_reducible refine LeO.ite ?_ ?_)
   | (with_reducible refine LeO.bind ?_ (fun _ => ?_))
   | exact ih0 _ _ _
   | exact LeO.none _
   | refine LeO.ite ?_ ?_
   | refine LeO.bind ?_ (fun _ => ?_)
set_option maxHeartbeats 8000000 in
set_option maxRecDepth 100000 in
theorem laws_heldIntS.calls (k : Nat) (A0 : Option Addr) (c0 : Nat) (l0 : List Int) (a1 : Int) (r : Int) (w : World) (hr0 : Kd.C (Kd.int .i64) w A0 l0.length l0) (hc0 : l0.length ≤ c0) (h : laws_heldIntS.f k l0 a1 = some r) :
  Calls Try.prog 18 #[.slice A0 l0.length c0, .int .i64 a1] w fun e w' => e = .returned (.int .i64 r) ∧ Drawn0 w w' := by
 have HR0 := Aside0.mk hr0
 have HC0 := Aside0.mk hc0
 clear hr0 hc0
 have H : (laws_heldIntS.l0 k l0 a1 0) = some r := h
 clear h
 have H' := Aside0.mk H
 clear H
 go_enter Try.func18, Try.ntmps18
 go_wp2
 go_loopg [1, 5] k (fun kq v1 v5 w' => ∃ (x1_1 : Int) (x5_1 : Int), v1 = .int .i64 x1_1 ∧ v5 = .int .i64 x5_1 ∧ Aside0 (laws_heldIntS.l0 kq l0 x1_1 x5_1 = some r) ∧ Aside0 (kq ≤ k) ∧ Drawn0 w w')
 case atStart => exact ⟨(a1), (0), (by first | rfl | (simp; done) | (simp [*]; done)), (by first | rfl | (simp; done) | (simp [*]; done)), H', ⟨Nat.le_refl _⟩, by repeat (first | exact Drawn0.refl _ | apply Drawn0.step)⟩
 case round =>
  clear H'
  try clear c1
  try clear p2
  obtain ⟨x1_1, x5_1, rfl, rfl, HA, HK1, ⟨m1, rfl⟩⟩ := hrel
  cases gk with
  | zero => exact absurd HA.out (by simp [laws_heldIntS.l0])
  | succ k1 =>
   have H := HA.out
   clear HA
   simp only [laws_heldIntS.l0] at H
   by_cases c3 : x5_1 < (l0.length : Int)
   rotate_left
   ·rw [if_neg c3] at H
    have c3b0 : decide (x5_1 < (l0.length : Int)) = false := decide_eq_false c3
    clear c3
    obtain rfl := Option.some.inj H
    go_wp2
    go_ret
    exact ⟨by first | rfl | (simp; done) | (simp [*]; done), by repeat (first | exact Drawn0.refl _ | apply Drawn0.step)⟩
   rw [if_pos c3] at H
   have c3b0 : decide (x5_1 < (l0.length : Int)) = true := decide_eq_true c3
   clear c3
   by_cases c4 : 0 ≤ x5_1
   rotate_left
   ·rw [if_neg c4] at H
    exact absurd H (by simp)
   rw [if_pos c4] at H
   have c4b0 : decide (0 ≤ x5_1) = true := decide_eq_true c4
   clear c4
   by_cases c5 : (rd l0 x5_1) = x1_1
   rotate_left
   ·rw [if_neg c5] at H
    have c5b0 : ((rd l0 x5_1) == x1_1) = false := beq_eq_false_iff_ne.mpr c5
    have c5b1 : ((rd l0 x5_1) != x1_1) = true := bne_iff_ne.mpr c5
    obtain rfl := Option.some.inj H
    have p362 : 0 ≤ (x5_1 : Int) := of_decide_eq_true (by first | (with_reducible assumption) | assumption)
    have q362 : x5_1 < (l0.length : Int) := of_decide_eq_true (by first | (with_reducible assumption) | assumption)
    obtain ⟨ad362, e362, hx362_0⟩ := Kd.at_int HR0.out x5_1 p362 q362
    cases e362
    replace p362 := eq_true p362
    replace q362 := eq_true q362
    go_wp2
    go_ret
    exact ⟨by first | rfl | (simp; done) | (simp [*]; done), by repeat (first | exact Drawn0.refl _ | apply Drawn0.step)⟩
   rw [if_pos c5] at H
   have c5b0 : ((rd l0 x5_1) == x1_1) = true := beq_iff_eq.mpr c5
   have c5b1 : ((rd l0 x5_1) != x1_1) = false := bne_eq_false_iff_eq.mpr c5
   clear c5
   have H' := Aside0.mk H
   clear H
   have p362 : 0 ≤ (x5_1 : Int) := of_decide_eq_true (by first | (with_reducible assumption) | assumption)
   have q362 : x5_1 < (l0.length : Int) := of_decide_eq_true (by first | (with_reducible assumption) | assumption)
   obtain ⟨ad362, e362, hx362_0⟩ := Kd.at_int HR0.out x5_1 p362 q362
   cases e362
   replace p362 := eq_true p362
   replace q362 := eq_true q362
   go_wp2
   go_roundg k1
   case measure => have := HK1.out; omega
   case rel => exact ⟨(wrap64 (x1_1 + 1)), (wrap64 (x5_1 + 1)), (by first | rfl | (simp; done) | (simp [*]; done)), (by first | rfl | (simp; done) | (simp [*]; done)), H', ⟨by have := HK1.out; omega⟩, by repeat (first | exact Drawn0.refl _ | apply Drawn0.step)⟩

/-! ### laws_FnExactTreeOf: function 3 -/
def laws_FnExactTreeOf.j0 : Nat → Int → List Int → List Int → Bool → Int → List (S88) → Option (Bool)
 | 0, _, _, _, _, _, _ => none
 | k + 1, x1, x6, x8, x46, x364000, x364001 => if x46 = true then (some false) else ((laws_markIntS.f k x8 1).bind fun bt389 => ((laws_heldIntS.f k bt389.2 1).bind fun t391 => (if t391 < 0 then (some false) else (if t391 = bt389.1 then ((laws_toGraph.f k x364000 x364001).bind fun bt392 => ((impl_TreeOf.f k bt392.1 bt392.2 x1).bind fun t396 => ((laws_eqIntS.f k t396 x6).bind fun t399 => (if t399 = true then ((laws_heldIntS.f k bt389.2 1).bind fun t400 => (if t400 < 0 then (some false) else (if t400 = bt389.1 then (some true) else (some false)))) else (some false))))) else (some false)))))
def laws_FnExactTreeOf.f (k : Nat) (a0_0 : Int) (l0_1 : List (S88)) (a1 : Int) : Option (Bool) := (laws_szGraph.f a0_0 l0_1 1048576).bind fun t364 => (if t364 < 0 then (some true) else ((laws_toGraph.f k a0_0 l0_1).bind fun bt365 => ((spec_TreeOf.f k bt365.1 bt365.2 a1).bind fun t369 => ((laws_toGraph.f k a0_0 l0_1).bind fun bt372 => ((impl_TreeOf.f k bt372.1 bt372.2 a1).bind fun t377 => ((laws_eqIntS.f k t377 t369).bind fun t380 => (if t380 = true then ((laws_toGraph.f k a0_0 l0_1).bind fun bt381 => ((laws_eqGraph.f k bt372.1 bt372.2 bt381.1 bt381.2).bind fun t385 => (if t385 = true then ((laws_markGraph.f k bt372.1 bt372.2 1).bind fun bt386 => (if bt386.1 < 0 then (laws_FnExactTreeOf.j0 k a1 t369 t377 true a0_0 l0_1) else ((laws_eqIntS.f k t377 t369).bind fun t388 => (laws_FnExactTreeOf.j0 k a1 t369 t377 (!t388) a0_0 l0_1)))) else (some false)))) else (some false))))))))
theorem laws_FnExactTreeOf.mono_l : ∀ k, (∀ y0 y1 y2 y3 y4 y5, LeO (laws_FnExactTreeOf.j0 k y0 y1 y2 y3 y4 y5) (laws_FnExactTreeOf.j0 (k + 1) y0 y1 y2 y3 y4 y5))
 | 0 => fun _ _ _ _ _ _ r h => by simp [laws_FnExactTreeOf.j0] at h
 | k + 1 => by
  have ih0 := laws_FnExactTreeOf.mono_l k
  ·intro y0 y1 y2 y3 y4 y5
   unfold laws_FnExactTreeOf.j0
   repeat' first
   | (with_reducible exact ih0 _ _ _ _ _ _)
   | (with_reducible exact impl_TreeOf.mono _ _ _ _)
   | (with_reducible exact laws_eqGraph.mono _ _ _ _ _)
   | (with_reducible exact laws_eqIntS.mono _ _ _)
   | (with_reducible exact laws_heldIntS.mono _ _ _)
   | (with_reducible exact laws_markGraph.mono _ _ _ _)
   | (with_reducible exact laws_markIntS.mono _ _ _)
   | (with_reducible exact laws_toGraph.mono _ _ _)
   | (with_reducible exact spec_TreeOf.mono _ _ _ _)
   | (with_reducible exact LeO.refl _)
   | (with_reducible exact LeO.none _)
   | (with_reducible refine LeO.ite ?_ ?_)
   | (with_reducible refine LeO.bind ?_ (fun _ => ?_))
   | exact ih0 _ _ _ _ _ _
   | exact impl_TreeOf.mono _ _ _ _
   | exact laws_eqGraph.mono _ _ _ _ _
   | exact laws_eqIntS.mono _ _ _
   | exact laws_heldIntS.mono _ _ _
   | exact laws_markGraph.mono _ _ _ _
   | exact laws_markIntS.mono _ _ _
   | exact laws_toGraph.mono _ _ _
   | exact spec_TreeOf.mono _ _ _ _
   | exact LeO.none _
   | refine LeO.ite ?_ ?_
   | refine LeO.bind ?_ (fun _ => ?_)
theorem laws_FnExactTreeOf.mono : ∀ a0 a1 a2 k, LeO (laws_FnExactTreeOf.f k a0 a1 a2) (laws_FnExactTreeOf.f (k + 1) a0 a1 a2) := by
 intro a0 a1 a2 k
 have ih0 := laws_FnExactTreeOf.mono_l k
 unfold laws_FnExactTreeOf.f
 repeat' first
   | (with_reducible exact ih0 _ _ _ _ _ _)
   | (with_reducible exact impl_TreeOf.mono _ _ _ _)
   | (with_reducible exact laws_eqGraph.mono _ _ _ _ _)
   | (with_reducible exact laws_eqIntS.mono _ _ _)
   | (with_reducible exact laws_heldIntS.mono _ _ _)
   | (with_reducible exact laws_markGraph.mono _ _ _ _)
   | (with_reducible exact laws_markIntS.mono _ _ _)
   | (with_reducible exact laws_toGraph.mono _ _ _)
   | (with_reducible exact spec_TreeOf.mono _ _ _ _)
   | (with_reducible exact LeO.refl _)
   | (with_reducible exact LeO.none _)
   | (with_reducible refine LeO.ite ?_ ?_)
   | (with_reducible refine LeO.bind ?_ (fun _ => ?_))
   | exact ih0 _ _ _ _ _ _
   | exact impl_TreeOf.mono _ _ _ _
   | exact laws_eqGraph.mono _ _ _ _ _
   | exact laws_eqIntS.mono _ _ _
   | exact laws_heldIntS.mono _ _ _
   | exact laws_markGraph.mono _ _ _ _
   | exact laws_markIntS.mono _ _ _
   | exact laws_toGraph.mono _ _ _
   | exact spec_TreeOf.mono _ _ _ _
   | exact LeO.none _
   | refine LeO.ite ?_ ?_
   | refine LeO.bind ?_ (fun _ => ?_)
set_option maxHeartbeats 8000000 in
set_option maxRecDepth 100000 in
theorem laws_FnExactTreeOf.calls (k : Nat) (a0_0 : Int) (A0_1 : Option Addr) (c0_1 : Nat) (l0_1 : List (S88)) (a1 : Int) (r : Bool) (w : World) (hr0_1 : Kd.C k88 w A0_1 l0_1.length l0_1) (hc0_1 : l0_1.length ≤ c0_1) (h : laws_FnExactTreeOf.f k a0_0 l0_1 a1 = some r) :
  Calls Try.prog 3 #[.agg #[.int .i64 a0_0, .slice A0_1 l0_1.length c0_1], .int .i64 a1] w fun e w' => e = .returned (.bool r) ∧ Below w.heap.size w w' := by
 have hu24 := Try.underlying24
 have hu30 := Try.underlying30
 have HR0_1 := Aside0.mk hr0_1
 have HC0_1 := Aside0.mk hc0_1
 clear hr0_1 hc0_1
 have HB := Aside0.mk (Below.refl w.heap.size w)
 have H : ((laws_szGraph.f a0_0 l0_1 1048576).bind fun t364 => (if t364 < 0 then (some true) else ((laws_toGraph.f k a0_0 l0_1).bind fun bt365 => ((spec_TreeOf.f k bt365.1 bt365.2 a1).bind fun t369 => ((laws_toGraph.f k a0_0 l0_1).bind fun bt372 => ((impl_TreeOf.f k bt372.1 bt372.2 a1).bind fun t377 => ((laws_eqIntS.f k t377 t369).bind fun t380 => (if t380 = true then ((laws_toGraph.f k a0_0 l0_1).bind fun bt381 => ((laws_eqGraph.f k bt372.1 bt372.2 bt381.1 bt381.2).bind fun t385 => (if t385 = true then ((laws_markGraph.f k bt372.1 bt372.2 1).bind fun bt386 => (if bt386.1 < 0 then (laws_FnExactTreeOf.j0 k a1 t369 t377 true a0_0 l0_1) else ((laws_eqIntS.f k t377 t369).bind fun t388 => (laws_FnExactTreeOf.j0 k a1 t369 t377 (!t388) a0_0 l0_1)))) else (some false)))) else (some false))))))))) = some r := h
 clear h
 replace H := Option.bind_eq_some_iff.mp H
 obtain ⟨t364, A30, H⟩ := H
 have A3 := Aside0.mk A30
 clear A30
 by_cases c4 : t364 < 0
 ·rw [if_pos c4] at H
  have c4b0 : decide (t364 < 0) = true := decide_eq_true c4
  clear c4
  obtain rfl := Option.some.inj H
  go_enter Try.func3, Try.ntmps3
  go_wp2_with (first | ((with_reducible refine gate_dst (N := 2) rfl ?_); refine box_event ?hg (N := 2) ?hd (cs := #[.int .i64 a0_0, .slice A0_1 l0_1.length c0_1]) (t := 24) ?hr ?_; (case hd => rfl); (case hg => rfl); (case hr => first | (go_simp; done) | (go_simp; rfl)); intro gb363 hg w5 hbox hb; have BK363 := Aside0.mk hbox; have GW363 := ge_ HB hg; have GE363 := ge_ HB hg; replace HB := Aside0.mk (bt_ HB hb); clear hb hbox hg; have hcz6_0 := cz_ BK363 0 (.int .i64 a0_0); have hcz6_1 := cz_ BK363 1 (.slice A0_1 l0_1.length c0_1); have hfz6_0 := blk_frozen BK363.out 0; have hfz6_1 := blk_frozen BK363.out 1) | ((with_reducible refine gate_callee (f := 10) rfl ?_); refine gl_ (some 15) Try.func10 #[.agg #[.int .i64 a0_0, .slice A0_1 l0_1.length c0_1], .int .i64 1048576] ?_; (with_reducible refine (laws_szGraph.calls a0_0 _ _ l0_1 1048576 t364 _ ?side1 ?side2 A3.out).mono ?_); (case side1 => exact cb_ HR0_1 HB); (case side2 => exact HC0_1.out); rintro e w7 ⟨rfl, hb⟩; refine ⟨_, rfl, ?_⟩; replace BK363 := Aside0.mk (bb_ BK363 hb); replace HB := Aside0.mk (bt_ HB hb); (try clear hb); (try clear hb2); (try clear hk); (try clear hi)))
  go_ret
  exact ⟨by first | rfl | (simp [errW_none, errW_some] <;> rfl) | (simp [*, errW_none, errW_some] <;> rfl), by repeat (first | (with_reducible first | exact HB.out | apply below_alloc | apply pw_below_drewN | apply below_drew1 | refine below_set ?_ GE363.out) | exact HB.out)⟩
 rw [if_neg c4] at H
 have c4b0 : decide (t364 < 0) = false := decide_eq_false c4
 clear c4
 replace H := Option.bind_eq_some_iff.mp H
 obtain ⟨⟨t365, t366⟩, A80, H⟩ := H
 have A8 := Aside0.mk A80
 clear A80
 replace H := Option.bind_eq_some_iff.mp H
 obtain ⟨t369, A90, H⟩ := H
 have A9 := Aside0.mk A90
 clear A90
 replace H := Option.bind_eq_some_iff.mp H
 obtain ⟨⟨t372, t373⟩, A100, H⟩ := H
 have A10 := Aside0.mk A100
 clear A100
 replace H := Option.bind_eq_some_iff.mp H
 obtain ⟨t377, A110, H⟩ := H
 have A11 := Aside0.mk A110
 clear A110
 replace H := Option.bind_eq_some_iff.mp H
 obtain ⟨t380, A120, H⟩ := H
 have A12 := Aside0.mk A120
 clear A120
 by_cases c13 : t380 = true
 rotate_left
 ·replace c13 := Bool.eq_false_iff.mpr c13
  subst c13
  rw [if_neg (show ¬ (false = true) by decide)] at H
  obtain rfl := Option.some.inj H
  go_enter Try.func3, Try.ntmps3
  go_wp2_with (first | ((with_reducible refine gate_dst (N := 2) rfl ?_); refine box_event ?hg (N := 2) ?hd (cs := #[.int .i64 a0_0, .slice A0_1 l0_1.length c0_1]) (t := 24) ?hr ?_; (case hd => rfl); (case hg => rfl); (case hr => first | (go_simp; done) | (go_simp; rfl)); intro gb363 hg w105 hbox hb; have BK363 := Aside0.mk hbox; have GW363 := ge_ HB hg; have GE363 := ge_ HB hg; replace HB := Aside0.mk (bt_ HB hb); clear hb hbox hg; have hcz106_0 := cz_ BK363 0 (.int .i64 a0_0); have hcz106_1 := cz_ BK363 1 (.slice A0_1 l0_1.length c0_1); have hfz106_0 := blk_frozen BK363.out 0; have hfz106_1 := blk_frozen BK363.out 1) | ((with_reducible refine gate_callee (f := 10) rfl ?_); refine gl_ (some 15) Try.func10 #[.agg #[.int .i64 a0_0, .slice A0_1 l0_1.length c0_1], .int .i64 1048576] ?_; (with_reducible refine (laws_szGraph.calls a0_0 _ _ l0_1 1048576 t364 _ ?side1 ?side2 A3.out).mono ?_); (case side1 => exact cb_ HR0_1 HB); (case side2 => exact HC0_1.out); rintro e w107 ⟨rfl, hb⟩; refine ⟨_, rfl, ?_⟩; replace BK363 := Aside0.mk (bb_ BK363 hb); replace HB := Aside0.mk (bt_ HB hb); (try clear hb); (try clear hb2); (try clear hk); (try clear hi); have hcz108_0 := cz_ BK363 0 (.int .i64 a0_0); have hcz108_1 := cz_ BK363 1 (.slice A0_1 l0_1.length c0_1); have hfz108_0 := blk_frozen BK363.out 0; have hfz108_1 := blk_frozen BK363.out 1) | ((with_reducible refine gate_callee (f := 12) rfl ?_); refine gl_ (some 19) Try.func12 #[.agg #[.int .i64 a0_0, .slice A0_1 l0_1.length c0_1]] ?_; (with_reducible refine (laws_toGraph.calls k a0_0 _ _ l0_1 t365 t366 _ ?side1 ?side2 A8.out).mono ?_); (case side1 => exact cb_ HR0_1 HB); (case side2 => exact HC0_1.out); rintro e w109 ⟨v367, rfl, ho0, hb⟩; refine ⟨_, rfl, ?_⟩; have HO368 := Aside0.mk (Kd.R_lower ho0 (bz_ HB)); replace BK363 := Aside0.mk (bb_ BK363 hb); replace HB := Aside0.mk (bt_ HB hb); (try clear hb); (try clear hb2); (try clear hk); (try clear hi); (try clear ho0); obtain ⟨Ao110, co110, eo110⟩ := Kd.R_slice HO368.out; subst eo110) | ((with_reducible refine gate_callee (f := 11) rfl ?_); refine gl_ (some 21) Try.func11 #[.agg #[.int .i64 t365, .slice Ao110 t366.length co110], .int .i64 a1] ?_; (with_reducible refine (spec_TreeOf.calls k t365 _ _ t366 a1 t369 _ ?side1 ?side2 A9.out).mono ?_); (case side1 => exact rc_ HO368); (case side2 => exact (Kd.R_reads' HO368.out).2.1); rintro e w111 ⟨v370, rfl, ho0, hb⟩; refine ⟨_, rfl, ?_⟩; have HO371 := Aside0.mk (Kd.R_lower ho0 (bz_ HB)); replace HO368 := rb_ HO368 hb; replace BK363 := Aside0.mk (bb_ BK363 hb); replace HB := Aside0.mk (bt_ HB hb); (try clear hb); (try clear hb2); (try clear hk); (try clear hi); (try clear ho0); have hcz112_0 := cz_ BK363 0 (.int .i64 a0_0); have hcz112_1 := cz_ BK363 1 (.slice A0_1 l0_1.length c0_1); have hfz112_0 := blk_frozen BK363.out 0; have hfz112_1 := blk_frozen BK363.out 1) | ((with_reducible refine gate_callee (f := 12) rfl ?_); refine gl_ (some 23) Try.func12 #[.agg #[.int .i64 a0_0, .slice A0_1 l0_1.length c0_1]] ?_; (with_reducible refine (laws_toGraph.calls k a0_0 _ _ l0_1 t372 t373 _ ?side1 ?side2 A10.out).mono ?_); (case side1 => exact cb_ HR0_1 HB); (case side2 => exact HC0_1.out); rintro e w113 ⟨v374, rfl, ho0, hb⟩; refine ⟨_, rfl, ?_⟩; have HO375 := Aside0.mk (Kd.R_lower (Kd.R_new' ho0 (Kd.R_lt (hd_ HO368))) (bz_ HB)); replace HO371 := rb_ HO371 hb; replace HO368 := Aside0.mk (Kd.R_elder' (hd_ HO368) (Kd.R_base ho0) hb); replace BK363 := Aside0.mk (bb_ BK363 hb); replace HB := Aside0.mk (bt_ HB hb); (try clear hb); (try clear hb2); (try clear hk); (try clear hi); (try clear ho0)) | ((with_reducible refine gate_dst (N := 7) rfl ?_); refine box_event ?hg (N := 7) ?hd (cs := #[.int .i64 0, .slice none 0 0]) (t := 30) ?hr ?_; (case hd => rfl); (case hg => rfl); (case hr => first | (go_simp; done) | (go_simp; rfl)); intro gb376 hg w114 hbox hb; have BK376 := Aside0.mk hbox; have GW376 := ge_ HB hg; have GE376 := ge_ HB hg; have NB363_376 := nl_ BK363 hg; have NB376_363 := ng_ BK363 hg; replace HO368 := rb_ HO368 hb; replace HO371 := rb_ HO371 hb; replace HO375 := rb_ HO375 hb; replace HB := Aside0.mk (bt_ HB hb); replace BK363 := Aside0.mk (bb_ BK363 hb); clear hb hbox hg; have hnb115 := NB376_363.out; have hnc115 := NB363_376.out; have hcz116_0 := cz_ BK376 0 (.int .i64 0); have hcz116_1 := cz_ BK376 1 (.slice none 0 0); have hfz116_0 := blk_frozen BK376.out 0; have hfz116_1 := blk_frozen BK376.out 1; obtain ⟨Ao117, co117, eo117⟩ := Kd.R_slice HO375.out; subst eo117) | ((with_reducible refine gate_callee (f := 13) rfl ?_); refine gl_ (some 26) Try.func13 #[.agg #[.int .i64 t372, .slice Ao117 t373.length co117], .int .i64 a1] ?_; (with_reducible refine (impl_TreeOf.calls k t372 _ _ t373 a1 t377 _ ?side1 ?side2 A11.out).mono ?_); (case side1 => refine (Kd.R_reads' (e := 76) (base := w.heap.size) (ok := fun k_ => (True ∧ some k_ ≠ (.slice Ao110 t366.length co110 : Value).ownBlock)) (n := t373.length) (c := co117) ?_).2.2; exact (hs_ HO375 BK376)); (case side2 => exact (Kd.R_reads' HO375.out).2.1); rintro e w118 ⟨v378, rfl, ho0, hb⟩; refine ⟨_, rfl, ?_⟩; have HO379 := Aside0.mk (Kd.R_lower (Kd.R_new' ho0 (Kd.R_lt (hs_ HO371 BK376))) (bz_ HB)); replace HO368 := rs_ HO368 BK376 hb; replace HO375 := rs_ HO375 BK376 hb; replace HO371 := Aside0.mk (Kd.R_elder' (hs_ HO371 BK376) (Kd.R_base ho0) hb); replace BK363 := bf_ BK363 NB363_376 hb; replace BK376 := Aside0.mk (blk_below (g := gb376) (o := .cells #[.int .i64 t372, .slice Ao117 t373.length co117] 30 (0, 0)) (by (with_reducible repeat (first | refine blk_drewN ?_ _ | refine blk_drew ?_ | refine blk_alloc ?_ _)); refine blk_put (cs := #[.int .i64 t372, .slice none 0 0]) ?_ 1 _ rfl; (with_reducible repeat (first | refine blk_drewN ?_ _ | refine blk_drew ?_ | refine blk_alloc ?_ _)); refine blk_put (cs := #[.int .i64 0, .slice none 0 0]) ?_ 0 _ rfl; (with_reducible repeat (first | refine blk_drewN ?_ _ | refine blk_drew ?_ | refine blk_alloc ?_ _)); exact BK376.out) hb); replace HB := Aside0.mk (bt_ HB hb); (try clear hb); (try clear hb2); (try clear hk); (try clear hi); (try clear ho0); obtain ⟨Ao119, co119, eo119⟩ := Kd.R_slice HO379.out; subst eo119; obtain ⟨Ao120, co120, eo120⟩ := Kd.R_slice HO371.out; subst eo120) | ((with_reducible refine gate_callee (f := 14) rfl ?_); refine gl_ (some 29) Try.func14 #[.slice Ao119 t377.length co119, .slice Ao120 t369.length co120] ?_; (with_reducible refine (laws_eqIntS.calls k _ _ t377 _ _ t369 false _ ?side1 ?side2 ?side3 ?side4 A12.out).mono ?_); (case side1 => exact rc_ HO379); (case side2 => exact (Kd.R_reads' HO379.out).2.1); (case side3 => exact rc_ HO371); (case side4 => exact (Kd.R_reads' HO371.out).2.1); rintro e w' ⟨rfl, ⟨nd, rfl⟩⟩; refine ⟨_, rfl, ?_⟩))
  go_ret
  exact ⟨by first | rfl | (simp [errW_none, errW_some] <;> rfl) | (simp [*, errW_none, errW_some] <;> rfl), by repeat (first | (with_reducible first | exact HB.out | apply below_alloc | apply pw_below_drewN | apply below_drew1 | refine below_set ?_ GE363.out | refine below_set ?_ GE376.out) | exact HB.out)⟩
 subst c13
 rw [if_pos rfl] at H
 replace H := Option.bind_eq_some_iff.mp H
 obtain ⟨⟨t381, t382⟩, A140, H⟩ := H
 have A14 := Aside0.mk A140
 clear A140
 replace H := Option.bind_eq_some_iff.mp H
 obtain ⟨t385, A150, H⟩ := H
 have A15 := Aside0.mk A150
 clear A150
 by_cases c16 : t385 = true
 rotate_left
 ·replace c16 := Bool.eq_false_iff.mpr c16
  subst c16
  rw [if_neg (show ¬ (false = true) by decide)] at H
  obtain rfl := Option.some.inj H
  go_enter Try.func3, Try.ntmps3
  try go_wp2_with (first | ((with_reducible refine gate_dst (N := 2) rfl ?_); refine box_event ?hg (N := 2) ?hd (cs := #[.int .i64 a0_0, .slice A0_1 l0_1.length c0_1]) (t := 24) ?hr ?_; (case hd => rfl); (case hg => rfl); (case hr => first | (go_simp; done) | (go_simp; rfl)); intro gb363 hg w85 hbox hb; have BK363 := Aside0.mk hbox; have GW363 := ge_ HB hg; have GE363 := ge_ HB hg; replace HB := Aside0.mk (bt_ HB hb); clear hb hbox hg; have hcz86_0 := cz_ BK363 0 (.int .i64 a0_0); have hcz86_1 := cz_ BK363 1 (.slice A0_1 l0_1.length c0_1); have hfz86_0 := blk_frozen BK363.out 0; have hfz86_1 := blk_frozen BK363.out 1) | ((with_reducible refine gate_callee (f := 10) rfl ?_); refine gl_ (some 15) Try.func10 #[.agg #[.int .i64 a0_0, .slice A0_1 l0_1.length c0_1], .int .i64 1048576] ?_; (with_reducible refine (laws_szGraph.calls a0_0 _ _ l0_1 1048576 t364 _ ?side1 ?side2 A3.out).mono ?_); (case side1 => exact cb_ HR0_1 HB); (case side2 => exact HC0_1.out); rintro e w87 ⟨rfl, hb⟩; refine ⟨_, rfl, ?_⟩; replace BK363 := Aside0.mk (bb_ BK363 hb); replace HB := Aside0.mk (bt_ HB hb); (try clear hb); (try clear hb2); (try clear hk); (try clear hi); have hcz88_0 := cz_ BK363 0 (.int .i64 a0_0); have hcz88_1 := cz_ BK363 1 (.slice A0_1 l0_1.length c0_1); have hfz88_0 := blk_frozen BK363.out 0; have hfz88_1 := blk_frozen BK363.out 1) | ((with_reducible refine gate_callee (f := 12) rfl ?_); refine gl_ (some 19) Try.func12 #[.agg #[.int .i64 a0_0, .slice A0_1 l0_1.length c0_1]] ?_; (with_reducible refine (laws_toGraph.calls k a0_0 _ _ l0_1 t365 t366 _ ?side1 ?side2 A8.out).mono ?_); (case side1 => exact cb_ HR0_1 HB); (case side2 => exact HC0_1.out); rintro e w89 ⟨v367, rfl, ho0, hb⟩; refine ⟨_, rfl, ?_⟩; have HO368 := Aside0.mk (Kd.R_lower ho0 (bz_ HB)); replace BK363 := Aside0.mk (bb_ BK363 hb); replace HB := Aside0.mk (bt_ HB hb); (try clear hb); (try clear hb2); (try clear hk); (try clear hi); (try clear ho0); obtain ⟨Ao90, co90, eo90⟩ := Kd.R_slice HO368.out; subst eo90) | ((with_reducible refine gate_callee (f := 11) rfl ?_); refine gl_ (some 21) Try.func11 #[.agg #[.int .i64 t365, .slice Ao90 t366.length co90], .int .i64 a1] ?_; (with_reducible refine (spec_TreeOf.calls k t365 _ _ t366 a1 t369 _ ?side1 ?side2 A9.out).mono ?_); (case side1 => exact rc_ HO368); (case side2 => exact (Kd.R_reads' HO368.out).2.1); rintro e w91 ⟨v370, rfl, ho0, hb⟩; refine ⟨_, rfl, ?_⟩; have HO371 := Aside0.mk (Kd.R_lower ho0 (bz_ HB)); replace HO368 := rb_ HO368 hb; replace BK363 := Aside0.mk (bb_ BK363 hb); replace HB := Aside0.mk (bt_ HB hb); (try clear hb); (try clear hb2); (try clear hk); (try clear hi); (try clear ho0); have hcz92_0 := cz_ BK363 0 (.int .i64 a0_0); have hcz92_1 := cz_ BK363 1 (.slice A0_1 l0_1.length c0_1); have hfz92_0 := blk_frozen BK363.out 0; have hfz92_1 := blk_frozen BK363.out 1) | ((with_reducible refine gate_callee (f := 12) rfl ?_); refine gl_ (some 23) Try.func12 #[.agg #[.int .i64 a0_0, .slice A0_1 l0_1.length c0_1]] ?_; (with_reducible refine (laws_toGraph.calls k a0_0 _ _ l0_1 t372 t373 _ ?side1 ?side2 A10.out).mono ?_); (case side1 => exact cb_ HR0_1 HB); (case side2 => exact HC0_1.out); rintro e w93 ⟨v374, rfl, ho0, hb⟩; refine ⟨_, rfl, ?_⟩; have HO375 := Aside0.mk (Kd.R_lower (Kd.R_new' ho0 (Kd.R_lt (hd_ HO368))) (bz_ HB)); replace HO371 := rb_ HO371 hb; replace HO368 := Aside0.mk (Kd.R_elder' (hd_ HO368) (Kd.R_base ho0) hb); replace BK363 := Aside0.mk (bb_ BK363 hb); replace HB := Aside0.mk (bt_ HB hb); (try clear hb); (try clear hb2); (try clear hk); (try clear hi); (try clear ho0)) | ((with_reducible refine gate_dst (N := 7) rfl ?_); refine box_event ?hg (N := 7) ?hd (cs := #[.int .i64 0, .slice none 0 0]) (t := 30) ?hr ?_; (case hd => rfl); (case hg => rfl); (case hr => first | (go_simp; done) | (go_simp; rfl)); intro gb376 hg w94 hbox hb; have BK376 := Aside0.mk hbox; have GW376 := ge_ HB hg; have GE376 := ge_ HB hg; have NB363_376 := nl_ BK363 hg; have NB376_363 := ng_ BK363 hg; replace HO368 := rb_ HO368 hb; replace HO371 := rb_ HO371 hb; replace HO375 := rb_ HO375 hb; replace HB := Aside0.mk (bt_ HB hb); replace BK363 := Aside0.mk (bb_ BK363 hb); clear hb hbox hg; have hnb95 := NB376_363.out; have hnc95 := NB363_376.out; have hcz96_0 := cz_ BK376 0 (.int .i64 0); have hcz96_1 := cz_ BK376 1 (.slice none 0 0); have hfz96_0 := blk_frozen BK376.out 0; have hfz96_1 := blk_frozen BK376.out 1; obtain ⟨Ao97, co97, eo97⟩ := Kd.R_slice HO375.out; subst eo97) | ((with_reducible refine gate_callee (f := 13) rfl ?_); refine gl_ (some 26) Try.func13 #[.agg #[.int .i64 t372, .slice Ao97 t373.length co97], .int .i64 a1] ?_; (with_reducible refine (impl_TreeOf.calls k t372 _ _ t373 a1 t377 _ ?side1 ?side2 A11.out).mono ?_); (case side1 => refine (Kd.R_reads' (e := 76) (base := w.heap.size) (ok := fun k_ => (True ∧ some k_ ≠ (.slice Ao90 t366.length co90 : Value).ownBlock)) (n := t373.length) (c := co97) ?_).2.2; exact (hs_ HO375 BK376)); (case side2 => exact (Kd.R_reads' HO375.out).2.1); rintro e w98 ⟨v378, rfl, ho0, hb⟩; refine ⟨_, rfl, ?_⟩; have HO379 := Aside0.mk (Kd.R_lower (Kd.R_new' ho0 (Kd.R_lt (hs_ HO371 BK376))) (bz_ HB)); replace HO368 := rs_ HO368 BK376 hb; replace HO375 := rs_ HO375 BK376 hb; replace HO371 := Aside0.mk (Kd.R_elder' (hs_ HO371 BK376) (Kd.R_base ho0) hb); replace BK363 := bf_ BK363 NB363_376 hb; replace BK376 := Aside0.mk (blk_below (g := gb376) (o := .cells #[.int .i64 t372, .slice Ao97 t373.length co97] 30 (0, 0)) (by (with_reducible repeat (first | refine blk_drewN ?_ _ | refine blk_drew ?_ | refine blk_alloc ?_ _)); refine blk_put (cs := #[.int .i64 t372, .slice none 0 0]) ?_ 1 _ rfl; (with_reducible repeat (first | refine blk_drewN ?_ _ | refine blk_drew ?_ | refine blk_alloc ?_ _)); refine blk_put (cs := #[.int .i64 0, .slice none 0 0]) ?_ 0 _ rfl; (with_reducible repeat (first | refine blk_drewN ?_ _ | refine blk_drew ?_ | refine blk_alloc ?_ _)); exact BK376.out) hb); replace HB := Aside0.mk (bt_ HB hb); (try clear hb); (try clear hb2); (try clear hk); (try clear hi); (try clear ho0); obtain ⟨Ao99, co99, eo99⟩ := Kd.R_slice HO379.out; subst eo99; obtain ⟨Ao100, co100, eo100⟩ := Kd.R_slice HO371.out; subst eo100) | ((with_reducible refine gate_callee (f := 14) rfl ?_); refine gl_ (some 29) Try.func14 #[.slice Ao99 t377.length co99, .slice Ao100 t369.length co100] ?_; (with_reducible refine (laws_eqIntS.calls k _ _ t377 _ _ t369 true _ ?side1 ?side2 ?side3 ?side4 A12.out).mono ?_); (case side1 => exact rc_ HO379); (case side2 => exact (Kd.R_reads' HO379.out).2.1); (case side3 => exact rc_ HO371); (case side4 => exact (Kd.R_reads' HO371.out).2.1); rintro e w' ⟨rfl, ⟨nd, rfl⟩⟩; refine ⟨_, rfl, ?_⟩))
  (try (rw [drewN_self w98]; generalize hq_ : World.drewN w98 _ = w98; replace HO368 : Aside0 (Kd.R k76 76 w98 w.heap.size (fun k_ => some k_ ≠ (.slice Ao97 t373.length co97 : Value).ownBlock) (.slice Ao90 t366.length co90) t366) := ⟨by rw [← hq_]; exact (by (with_reducible repeat (first | apply Kd.R_alloc | apply Kd.R_drewN | apply Kd.R_drew)); exact Kd.R_mono HO368.out (fun _ hk => hk.2))⟩; replace HO371 : Aside0 (Kd.R (Kd.int .i64) 3 w98 w.heap.size (fun k_ => some k_ ≠ (.slice Ao99 t377.length co99 : Value).ownBlock) (.slice Ao100 t369.length co100) t369) := ⟨by rw [← hq_]; exact (by (with_reducible repeat (first | apply Kd.R_alloc | apply Kd.R_drewN | apply Kd.R_drew)); exact Kd.R_mono HO371.out (fun _ hk => hk.2))⟩; replace HO375 : Aside0 (Kd.R k76 76 w98 w.heap.size (fun k_ => some k_ ≠ (.slice Ao90 t366.length co90 : Value).ownBlock) (.slice Ao97 t373.length co97) t373) := ⟨by rw [← hq_]; exact (by (with_reducible repeat (first | apply Kd.R_alloc | apply Kd.R_drewN | apply Kd.R_drew)); exact Kd.R_mono HO375.out (fun _ hk => hk.2))⟩; replace HO379 : Aside0 (Kd.R (Kd.int .i64) 3 w98 w.heap.size (fun k_ => some k_ ≠ (.slice Ao100 t369.length co100 : Value).ownBlock) (.slice Ao99 t377.length co99) t377) := ⟨by rw [← hq_]; exact (by (with_reducible repeat (first | apply Kd.R_alloc | apply Kd.R_drewN | apply Kd.R_drew)); exact Kd.R_mono HO379.out (fun _ hk => hk.2))⟩; replace BK363 : Aside0 (w98.heap[gb363]? = some (.cells #[.int .i64 a0_0, .slice A0_1 l0_1.length c0_1] 24 (0, 0))) := ⟨by rw [← hq_]; exact (by (with_reducible repeat (first | refine blk_drewN ?_ _ | refine blk_drew ?_ | refine blk_alloc ?_ _)); exact BK363.out)⟩; replace BK376 : Aside0 (w98.heap[gb376]? = some (.cells #[.int .i64 t372, .slice Ao97 t373.length co97] 30 (0, 0))) := ⟨by rw [← hq_]; exact (by (with_reducible repeat (first | refine blk_drewN ?_ _ | refine blk_drew ?_ | refine blk_alloc ?_ _)); exact BK376.out)⟩; replace HB : Aside0 (Below w.heap.size w w98) := ⟨by rw [← hq_]; exact (by repeat (first | (with_reducible first | exact HB.out | apply below_alloc | apply pw_below_drewN | apply below_drew1 | refine below_set ?_ GE363.out | refine below_set ?_ GE376.out) | exact HB.out))⟩; clear hq_))
  replace HO368 := Aside0.mk (Kd.R_drew HO368.out)
  replace HO371 := Aside0.mk (Kd.R_drew HO371.out)
  replace HO375 := Aside0.mk (Kd.R_drew HO375.out)
  replace HO379 := Aside0.mk (Kd.R_drew HO379.out)
  replace BK363 := Aside0.mk (blk_drew BK363.out)
  replace BK376 := Aside0.mk (blk_drew BK376.out)
  replace HB := Aside0.mk (below_drew1 HB.out)
  refine start_ (n := 5) (S := fun w' => w'.cell? ⟨gb376, 0, none⟩ = some (.int .i64 t372) ∧ w'.cell? ⟨gb376, 1, none⟩ = some (.slice Ao97 t373.length co97) ∧ w'.cell? ⟨gb363, 0, none⟩ = some (.int .i64 a0_0) ∧ w'.cell? ⟨gb363, 1, none⟩ = some (.slice A0_1 l0_1.length c0_1)) (ds := []) ba12_0 (by kernel_rfl) rfl rfl ⟨(blk_cell BK376.out 0).trans rfl, (blk_cell BK376.out 1).trans rfl, (blk_cell BK363.out 0).trans rfl, (blk_cell BK363.out 1).trans rfl⟩ (fun hHeld => ?_)
  generalize w98.drew = w101 at HO368 HO371 HO375 HO379 BK363 BK376 HB hHeld ⊢
  refine take_ (i := 0) (N := some 31) (v := ?_) (a' := ?_) ba12_1 rfl rfl (by kernel_rfl) (fun _ _ _ h => h) (Or.inl ⟨by rfl, ?_⟩) hHeld ?_ ?_
  rotate_left; · rintro w' ⟨s0, s1, s2, s3⟩; go_simp; with_reducible rfl
  rotate_left; · simp only [Act.put, List.setIfInBounds_toArray, List.set_cons_zero, List.set_cons_succ, i64_w, i32_w]; rfl
  refine take_ (i := 1) (N := some 32) (v := ?_) (a' := ?_) ba12_2 rfl rfl (by kernel_rfl) (fun _ _ _ h => h) (Or.inl ⟨by rfl, ?_⟩) hHeld ?_ ?_
  rotate_left; · rintro w' ⟨s0, s1, s2, s3⟩; go_simp; with_reducible rfl
  rotate_left; · simp only [Act.put, List.setIfInBounds_toArray, List.set_cons_zero, List.set_cons_succ, i64_w, i32_w]; rfl
  refine one_ (i := 2) (N := some 33) ba12_3 rfl rfl (by kernel_rfl) (by decide) (fun K hK => ?_)
  refine gz_ Try.func12 #[.agg #[.int .i64 a0_0, .slice A0_1 l0_1.length c0_1]] ?_
  with_reducible refine (laws_toGraph.calls k a0_0 _ _ l0_1 t381 t382 _ ?side1 ?side2 A14.out).mono ?_
  (case side1 => exact cb_ HR0_1 HB)
  (case side2 => exact HC0_1.out)
  rintro e w102 ⟨v383, rfl, ho0, hb⟩
  refine ⟨_, rfl, ?_⟩
  have HO384 := Aside0.mk (Kd.R_lower (Kd.R_new' (Kd.R_new' ho0 (Kd.R_lt (hd_ HO368))) (Kd.R_lt (hd_ HO375))) (bz_ HB))
  replace HO371 := rb_ HO371 hb
  replace HO379 := rb_ HO379 hb
  replace HO368 := Aside0.mk (Kd.R_elder' (hd_ HO368) (Kd.R_base ho0) hb)
  replace HO375 := Aside0.mk (Kd.R_elder' (hd_ HO375) (Kd.R_base ho0) hb)
  replace BK363 := Aside0.mk (bb_ BK363 hb)
  replace BK376 := Aside0.mk (bb_ BK376 hb)
  replace HB := Aside0.mk (bt_ HB hb)
  (try clear hb)
  (try clear hb2)
  (try clear hk)
  (try clear hi)
  (try clear ho0)
  obtain ⟨Ao103, co103, eo103⟩ := Kd.R_slice HO384.out
  (first | subst eo103 | (injection eo103 with f1_ f2_ f3_; have f4_ := f1_.symm; have f5_ := f3_.symm; clear f1_ f2_ f3_; subst f4_; subst f5_))
  refine hK.out _ _ ⟨(blk_cell BK376.out 0).trans rfl, (blk_cell BK376.out 1).trans rfl, (blk_cell BK363.out 0).trans rfl, (blk_cell BK363.out 1).trans rfl⟩ (fun hHeld => ?_)
  clear hK K
  refine nz_ 33 ?_
  refine one_ (i := 3) (N := some 34) ba12_4 rfl rfl (by kernel_rfl) (by decide) (fun K hK => ?_)
  refine gz_ Try.func15 #[.agg #[.int .i64 t372, .slice Ao97 t373.length co97], .agg #[.int .i64 t381, .slice Ao103 t382.length co103]] ?_
  with_reducible refine (laws_eqGraph.calls k t372 _ _ t373 t381 _ _ t382 false _ ?side1 ?side2 ?side3 ?side4 A15.out).mono ?_
  (case side1 => exact rc_ HO375)
  (case side2 => exact (Kd.R_reads' HO375.out).2.1)
  (case side3 => exact rc_ HO384)
  (case side4 => exact (Kd.R_reads' HO384.out).2.1)
  rintro e w104 ⟨rfl, hb⟩
  refine ⟨_, rfl, ?_⟩
  replace HO368 := rb_ HO368 hb
  replace HO371 := rb_ HO371 hb
  replace HO375 := rb_ HO375 hb
  replace HO379 := rb_ HO379 hb
  replace HO384 := rb_ HO384 hb
  replace BK363 := Aside0.mk (bb_ BK363 hb)
  replace BK376 := Aside0.mk (bb_ BK376 hb)
  replace HB := Aside0.mk (bt_ HB hb)
  (try clear hb)
  (try clear hb2)
  (try clear hk)
  (try clear hi)
  refine hK.out _ _ ⟨(blk_cell BK376.out 0).trans rfl, (blk_cell BK376.out 1).trans rfl, (blk_cell BK363.out 0).trans rfl, (blk_cell BK363.out 1).trans rfl⟩ (fun hHeld => ?_)
  clear hK K
  refine nz_ 34 ?_
  refine pure_ (i := 4) (N := some 35) (v := ?_) (a' := ?_) ba12_5 rfl rfl (by kernel_rfl) (fun _ _ _ h => h) (Or.inl ⟨by rfl, ?_⟩) ?_ ?_
  rotate_left; · intro w'; go_simp; with_reducible rfl
  rotate_left; · simp only [Act.put, List.setIfInBounds_toArray, List.set_cons_zero, List.set_cons_succ, i64_w, i32_w]; rfl
  refine done_ (by kernel_rfl) ?_
  try go_wp2
  go_ret
  exact ⟨by first | rfl | (simp [errW_none, errW_some] <;> rfl) | (simp [*, errW_none, errW_some] <;> rfl), by repeat (first | (with_reducible first | exact HB.out | apply below_alloc | apply pw_below_drewN | apply below_drew1 | refine below_set ?_ GE363.out | refine below_set ?_ GE376.out) | exact HB.out)⟩
 subst c16
 rw [if_pos rfl] at H
 replace H := Option.bind_eq_some_iff.mp H
 obtain ⟨⟨t386, t387⟩, A170, H⟩ := H
 have A17 := Aside0.mk A170
 clear A170
 have HC18 := Aside0.mk H
 clear H
 go_enter Try.func3, Try.ntmps3
 try go_wp2_with (first | ((with_reducible refine gate_dst (N := 2) rfl ?_); refine box_event ?hg (N := 2) ?hd (cs := #[.int .i64 a0_0, .slice A0_1 l0_1.length c0_1]) (t := 24) ?hr ?_; (case hd => rfl); (case hg => rfl); (case hr => first | (go_simp; done) | (go_simp; rfl)); intro gb363 hg w19 hbox hb; have BK363 := Aside0.mk hbox; have GW363 := ge_ HB hg; have GE363 := ge_ HB hg; replace HB := Aside0.mk (bt_ HB hb); clear hb hbox hg; have hcz20_0 := cz_ BK363 0 (.int .i64 a0_0); have hcz20_1 := cz_ BK363 1 (.slice A0_1 l0_1.length c0_1); have hfz20_0 := blk_frozen BK363.out 0; have hfz20_1 := blk_frozen BK363.out 1) | ((with_reducible refine gate_callee (f := 10) rfl ?_); refine gl_ (some 15) Try.func10 #[.agg #[.int .i64 a0_0, .slice A0_1 l0_1.length c0_1], .int .i64 1048576] ?_; (with_reducible refine (laws_szGraph.calls a0_0 _ _ l0_1 1048576 t364 _ ?side1 ?side2 A3.out).mono ?_); (case side1 => exact cb_ HR0_1 HB); (case side2 => exact HC0_1.out); rintro e w21 ⟨rfl, hb⟩; refine ⟨_, rfl, ?_⟩; replace BK363 := Aside0.mk (bb_ BK363 hb); replace HB := Aside0.mk (bt_ HB hb); (try clear hb); (try clear hb2); (try clear hk); (try clear hi); have hcz22_0 := cz_ BK363 0 (.int .i64 a0_0); have hcz22_1 := cz_ BK363 1 (.slice A0_1 l0_1.length c0_1); have hfz22_0 := blk_frozen BK363.out 0; have hfz22_1 := blk_frozen BK363.out 1) | ((with_reducible refine gate_callee (f := 12) rfl ?_); refine gl_ (some 19) Try.func12 #[.agg #[.int .i64 a0_0, .slice A0_1 l0_1.length c0_1]] ?_; (with_reducible refine (laws_toGraph.calls k a0_0 _ _ l0_1 t365 t366 _ ?side1 ?side2 A8.out).mono ?_); (case side1 => exact cb_ HR0_1 HB); (case side2 => exact HC0_1.out); rintro e w23 ⟨v367, rfl, ho0, hb⟩; refine ⟨_, rfl, ?_⟩; have HO368 := Aside0.mk (Kd.R_lower ho0 (bz_ HB)); replace BK363 := Aside0.mk (bb_ BK363 hb); replace HB := Aside0.mk (bt_ HB hb); (try clear hb); (try clear hb2); (try clear hk); (try clear hi); (try clear ho0); obtain ⟨Ao24, co24, eo24⟩ := Kd.R_slice HO368.out; subst eo24) | ((with_reducible refine gate_callee (f := 11) rfl ?_); refine gl_ (some 21) Try.func11 #[.agg #[.int .i64 t365, .slice Ao24 t366.length co24], .int .i64 a1] ?_; (with_reducible refine (spec_TreeOf.calls k t365 _ _ t366 a1 t369 _ ?side1 ?side2 A9.out).mono ?_); (case side1 => exact rc_ HO368); (case side2 => exact (Kd.R_reads' HO368.out).2.1); rintro e w25 ⟨v370, rfl, ho0, hb⟩; refine ⟨_, rfl, ?_⟩; have HO371 := Aside0.mk (Kd.R_lower ho0 (bz_ HB)); replace HO368 := rb_ HO368 hb; replace BK363 := Aside0.mk (bb_ BK363 hb); replace HB := Aside0.mk (bt_ HB hb); (try clear hb); (try clear hb2); (try clear hk); (try clear hi); (try clear ho0); have hcz26_0 := cz_ BK363 0 (.int .i64 a0_0); have hcz26_1 := cz_ BK363 1 (.slice A0_1 l0_1.length c0_1); have hfz26_0 := blk_frozen BK363.out 0; have hfz26_1 := blk_frozen BK363.out 1) | ((with_reducible refine gate_callee (f := 12) rfl ?_); refine gl_ (some 23) Try.func12 #[.agg #[.int .i64 a0_0, .slice A0_1 l0_1.length c0_1]] ?_; (with_reducible refine (laws_toGraph.calls k a0_0 _ _ l0_1 t372 t373 _ ?side1 ?side2 A10.out).mono ?_); (case side1 => exact cb_ HR0_1 HB); (case side2 => exact HC0_1.out); rintro e w27 ⟨v374, rfl, ho0, hb⟩; refine ⟨_, rfl, ?_⟩; have HO375 := Aside0.mk (Kd.R_lower (Kd.R_new' ho0 (Kd.R_lt (hd_ HO368))) (bz_ HB)); replace HO371 := rb_ HO371 hb; replace HO368 := Aside0.mk (Kd.R_elder' (hd_ HO368) (Kd.R_base ho0) hb); replace BK363 := Aside0.mk (bb_ BK363 hb); replace HB := Aside0.mk (bt_ HB hb); (try clear hb); (try clear hb2); (try clear hk); (try clear hi); (try clear ho0)) | ((with_reducible refine gate_dst (N := 7) rfl ?_); refine box_event ?hg (N := 7) ?hd (cs := #[.int .i64 0, .slice none 0 0]) (t := 30) ?hr ?_; (case hd => rfl); (case hg => rfl); (case hr => first | (go_simp; done) | (go_simp; rfl)); intro gb376 hg w28 hbox hb; have BK376 := Aside0.mk hbox; have GW376 := ge_ HB hg; have GE376 := ge_ HB hg; have NB363_376 := nl_ BK363 hg; have NB376_363 := ng_ BK363 hg; replace HO368 := rb_ HO368 hb; replace HO371 := rb_ HO371 hb; replace HO375 := rb_ HO375 hb; replace HB := Aside0.mk (bt_ HB hb); replace BK363 := Aside0.mk (bb_ BK363 hb); clear hb hbox hg; have hnb29 := NB376_363.out; have hnc29 := NB363_376.out; have hcz30_0 := cz_ BK376 0 (.int .i64 0); have hcz30_1 := cz_ BK376 1 (.slice none 0 0); have hfz30_0 := blk_frozen BK376.out 0; have hfz30_1 := blk_frozen BK376.out 1; obtain ⟨Ao31, co31, eo31⟩ := Kd.R_slice HO375.out; subst eo31) | ((with_reducible refine gate_callee (f := 13) rfl ?_); refine gl_ (some 26) Try.func13 #[.agg #[.int .i64 t372, .slice Ao31 t373.length co31], .int .i64 a1] ?_; (with_reducible refine (impl_TreeOf.calls k t372 _ _ t373 a1 t377 _ ?side1 ?side2 A11.out).mono ?_); (case side1 => refine (Kd.R_reads' (e := 76) (base := w.heap.size) (ok := fun k_ => (True ∧ some k_ ≠ (.slice Ao24 t366.length co24 : Value).ownBlock)) (n := t373.length) (c := co31) ?_).2.2; exact (hs_ HO375 BK376)); (case side2 => exact (Kd.R_reads' HO375.out).2.1); rintro e w32 ⟨v378, rfl, ho0, hb⟩; refine ⟨_, rfl, ?_⟩; have HO379 := Aside0.mk (Kd.R_lower (Kd.R_new' ho0 (Kd.R_lt (hs_ HO371 BK376))) (bz_ HB)); replace HO368 := rs_ HO368 BK376 hb; replace HO375 := rs_ HO375 BK376 hb; replace HO371 := Aside0.mk (Kd.R_elder' (hs_ HO371 BK376) (Kd.R_base ho0) hb); replace BK363 := bf_ BK363 NB363_376 hb; replace BK376 := Aside0.mk (blk_below (g := gb376) (o := .cells #[.int .i64 t372, .slice Ao31 t373.length co31] 30 (0, 0)) (by (with_reducible repeat (first | refine blk_drewN ?_ _ | refine blk_drew ?_ | refine blk_alloc ?_ _)); refine blk_put (cs := #[.int .i64 t372, .slice none 0 0]) ?_ 1 _ rfl; (with_reducible repeat (first | refine blk_drewN ?_ _ | refine blk_drew ?_ | refine blk_alloc ?_ _)); refine blk_put (cs := #[.int .i64 0, .slice none 0 0]) ?_ 0 _ rfl; (with_reducible repeat (first | refine blk_drewN ?_ _ | refine blk_drew ?_ | refine blk_alloc ?_ _)); exact BK376.out) hb); replace HB := Aside0.mk (bt_ HB hb); (try clear hb); (try clear hb2); (try clear hk); (try clear hi); (try clear ho0); obtain ⟨Ao33, co33, eo33⟩ := Kd.R_slice HO379.out; subst eo33; obtain ⟨Ao34, co34, eo34⟩ := Kd.R_slice HO371.out; subst eo34) | ((with_reducible refine gate_callee (f := 14) rfl ?_); refine gl_ (some 29) Try.func14 #[.slice Ao33 t377.length co33, .slice Ao34 t369.length co34] ?_; (with_reducible refine (laws_eqIntS.calls k _ _ t377 _ _ t369 true _ ?side1 ?side2 ?side3 ?side4 A12.out).mono ?_); (case side1 => exact rc_ HO379); (case side2 => exact (Kd.R_reads' HO379.out).2.1); (case side3 => exact rc_ HO371); (case side4 => exact (Kd.R_reads' HO371.out).2.1); rintro e w' ⟨rfl, ⟨nd, rfl⟩⟩; refine ⟨_, rfl, ?_⟩))
 (try (rw [drewN_self w32]; generalize hq_ : World.drewN w32 _ = w32; replace HO368 : Aside0 (Kd.R k76 76 w32 w.heap.size (fun k_ => some k_ ≠ (.slice Ao31 t373.length co31 : Value).ownBlock) (.slice Ao24 t366.length co24) t366) := ⟨by rw [← hq_]; exact (by (with_reducible repeat (first | apply Kd.R_alloc | apply Kd.R_drewN | apply Kd.R_drew)); exact Kd.R_mono HO368.out (fun _ hk => hk.2))⟩; replace HO371 : Aside0 (Kd.R (Kd.int .i64) 3 w32 w.heap.size (fun k_ => some k_ ≠ (.slice Ao33 t377.length co33 : Value).ownBlock) (.slice Ao34 t369.length co34) t369) := ⟨by rw [← hq_]; exact (by (with_reducible repeat (first | apply Kd.R_alloc | apply Kd.R_drewN | apply Kd.R_drew)); exact Kd.R_mono HO371.out (fun _ hk => hk.2))⟩; replace HO375 : Aside0 (Kd.R k76 76 w32 w.heap.size (fun k_ => some k_ ≠ (.slice Ao24 t366.length co24 : Value).ownBlock) (.slice Ao31 t373.length co31) t373) := ⟨by rw [← hq_]; exact (by (with_reducible repeat (first | apply Kd.R_alloc | apply Kd.R_drewN | apply Kd.R_drew)); exact Kd.R_mono HO375.out (fun _ hk => hk.2))⟩; replace HO379 : Aside0 (Kd.R (Kd.int .i64) 3 w32 w.heap.size (fun k_ => some k_ ≠ (.slice Ao34 t369.length co34 : Value).ownBlock) (.slice Ao33 t377.length co33) t377) := ⟨by rw [← hq_]; exact (by (with_reducible repeat (first | apply Kd.R_alloc | apply Kd.R_drewN | apply Kd.R_drew)); exact Kd.R_mono HO379.out (fun _ hk => hk.2))⟩; replace BK363 : Aside0 (w32.heap[gb363]? = some (.cells #[.int .i64 a0_0, .slice A0_1 l0_1.length c0_1] 24 (0, 0))) := ⟨by rw [← hq_]; exact (by (with_reducible repeat (first | refine blk_drewN ?_ _ | refine blk_drew ?_ | refine blk_alloc ?_ _)); exact BK363.out)⟩; replace BK376 : Aside0 (w32.heap[gb376]? = some (.cells #[.int .i64 t372, .slice Ao31 t373.length co31] 30 (0, 0))) := ⟨by rw [← hq_]; exact (by (with_reducible repeat (first | refine blk_drewN ?_ _ | refine blk_drew ?_ | refine blk_alloc ?_ _)); exact BK376.out)⟩; replace HB : Aside0 (Below w.heap.size w w32) := ⟨by rw [← hq_]; exact (by repeat (first | (with_reducible first | exact HB.out | apply below_alloc | apply pw_below_drewN | apply below_drew1 | refine below_set ?_ GE363.out | refine below_set ?_ GE376.out) | exact HB.out))⟩; clear hq_))
 replace HO368 := Aside0.mk (Kd.R_drew HO368.out)
 replace HO371 := Aside0.mk (Kd.R_drew HO371.out)
 replace HO375 := Aside0.mk (Kd.R_drew HO375.out)
 replace HO379 := Aside0.mk (Kd.R_drew HO379.out)
 replace BK363 := Aside0.mk (blk_drew BK363.out)
 replace BK376 := Aside0.mk (blk_drew BK376.out)
 replace HB := Aside0.mk (below_drew1 HB.out)
 refine start_ (n := 5) (S := fun w' => w'.cell? ⟨gb376, 0, none⟩ = some (.int .i64 t372) ∧ w'.cell? ⟨gb376, 1, none⟩ = some (.slice Ao31 t373.length co31) ∧ w'.cell? ⟨gb363, 0, none⟩ = some (.int .i64 a0_0) ∧ w'.cell? ⟨gb363, 1, none⟩ = some (.slice A0_1 l0_1.length c0_1)) (ds := []) ba12_0 (by kernel_rfl) rfl rfl ⟨(blk_cell BK376.out 0).trans rfl, (blk_cell BK376.out 1).trans rfl, (blk_cell BK363.out 0).trans rfl, (blk_cell BK363.out 1).trans rfl⟩ (fun hHeld => ?_)
 generalize w32.drew = w35 at HO368 HO371 HO375 HO379 BK363 BK376 HB hHeld ⊢
 refine take_ (i := 0) (N := some 31) (v := ?_) (a' := ?_) ba12_1 rfl rfl (by kernel_rfl) (fun _ _ _ h => h) (Or.inl ⟨by rfl, ?_⟩) hHeld ?_ ?_
 rotate_left; · rintro w' ⟨s0, s1, s2, s3⟩; go_simp; with_reducible rfl
 rotate_left; · simp only [Act.put, List.setIfInBounds_toArray, List.set_cons_zero, List.set_cons_succ, i64_w, i32_w]; rfl
 refine take_ (i := 1) (N := some 32) (v := ?_) (a' := ?_) ba12_2 rfl rfl (by kernel_rfl) (fun _ _ _ h => h) (Or.inl ⟨by rfl, ?_⟩) hHeld ?_ ?_
 rotate_left; · rintro w' ⟨s0, s1, s2, s3⟩; go_simp; with_reducible rfl
 rotate_left; · simp only [Act.put, List.setIfInBounds_toArray, List.set_cons_zero, List.set_cons_succ, i64_w, i32_w]; rfl
 refine one_ (i := 2) (N := some 33) ba12_3 rfl rfl (by kernel_rfl) (by decide) (fun K hK => ?_)
 refine gz_ Try.func12 #[.agg #[.int .i64 a0_0, .slice A0_1 l0_1.length c0_1]] ?_
 with_reducible refine (laws_toGraph.calls k a0_0 _ _ l0_1 t381 t382 _ ?side1 ?side2 A14.out).mono ?_
 (case side1 => exact cb_ HR0_1 HB)
 (case side2 => exact HC0_1.out)
 rintro e w36 ⟨v383, rfl, ho0, hb⟩
 refine ⟨_, rfl, ?_⟩
 have HO384 := Aside0.mk (Kd.R_lower (Kd.R_new' (Kd.R_new' ho0 (Kd.R_lt (hd_ HO368))) (Kd.R_lt (hd_ HO375))) (bz_ HB))
 replace HO371 := rb_ HO371 hb
 replace HO379 := rb_ HO379 hb
 replace HO368 := Aside0.mk (Kd.R_elder' (hd_ HO368) (Kd.R_base ho0) hb)
 replace HO375 := Aside0.mk (Kd.R_elder' (hd_ HO375) (Kd.R_base ho0) hb)
 replace BK363 := Aside0.mk (bb_ BK363 hb)
 replace BK376 := Aside0.mk (bb_ BK376 hb)
 replace HB := Aside0.mk (bt_ HB hb)
 (try clear hb)
 (try clear hb2)
 (try clear hk)
 (try clear hi)
 (try clear ho0)
 obtain ⟨Ao37, co37, eo37⟩ := Kd.R_slice HO384.out
 (first | subst eo37 | (injection eo37 with f1_ f2_ f3_; have f4_ := f1_.symm; have f5_ := f3_.symm; clear f1_ f2_ f3_; subst f4_; subst f5_))
 refine hK.out _ _ ⟨(blk_cell BK376.out 0).trans rfl, (blk_cell BK376.out 1).trans rfl, (blk_cell BK363.out 0).trans rfl, (blk_cell BK363.out 1).trans rfl⟩ (fun hHeld => ?_)
 clear hK K
 refine nz_ 33 ?_
 refine one_ (i := 3) (N := some 34) ba12_4 rfl rfl (by kernel_rfl) (by decide) (fun K hK => ?_)
 refine gz_ Try.func15 #[.agg #[.int .i64 t372, .slice Ao31 t373.length co31], .agg #[.int .i64 t381, .slice Ao37 t382.length co37]] ?_
 with_reducible refine (laws_eqGraph.calls k t372 _ _ t373 t381 _ _ t382 true _ ?side1 ?side2 ?side3 ?side4 A15.out).mono ?_
 (case side1 => exact rc_ HO375)
 (case side2 => exact (Kd.R_reads' HO375.out).2.1)
 (case side3 => exact rc_ HO384)
 (case side4 => exact (Kd.R_reads' HO384.out).2.1)
 rintro e w38 ⟨rfl, hb⟩
 refine ⟨_, rfl, ?_⟩
 replace HO368 := rb_ HO368 hb
 replace HO371 := rb_ HO371 hb
 replace HO375 := rb_ HO375 hb
 replace HO379 := rb_ HO379 hb
 replace HO384 := rb_ HO384 hb
 replace BK363 := Aside0.mk (bb_ BK363 hb)
 replace BK376 := Aside0.mk (bb_ BK376 hb)
 replace HB := Aside0.mk (bt_ HB hb)
 (try clear hb)
 (try clear hb2)
 (try clear hk)
 (try clear hi)
 refine hK.out _ _ ⟨(blk_cell BK376.out 0).trans rfl, (blk_cell BK376.out 1).trans rfl, (blk_cell BK363.out 0).trans rfl, (blk_cell BK363.out 1).trans rfl⟩ (fun hHeld => ?_)
 clear hK K
 refine nz_ 34 ?_
 refine pure_ (i := 4) (N := some 35) (v := ?_) (a' := ?_) ba12_5 rfl rfl (by kernel_rfl) (fun _ _ _ h => h) (Or.inl ⟨by rfl, ?_⟩) ?_ ?_
 rotate_left; · intro w'; go_simp; with_reducible rfl
 rotate_left; · simp only [Act.put, List.setIfInBounds_toArray, List.set_cons_zero, List.set_cons_succ, i64_w, i32_w]; rfl
 refine done_ (by kernel_rfl) ?_
 have hcz39_0 := cz_ BK376 0 (.int .i64 t372)
 have hcz39_1 := cz_ BK376 1 (.slice Ao31 t373.length co31)
 have hfz39_0 := blk_frozen BK376.out 0
 have hfz39_1 := blk_frozen BK376.out 1
 go_upto_region 14 with (first | ((with_reducible refine gate_callee (f := 16) rfl ?_); refine gl_ (some 38) Try.func16 #[.agg #[.int .i64 t372, .slice Ao31 t373.length co31], .int .i64 1] ?_; (with_reducible refine (laws_markGraph.calls k t372 (fun k_ => some k_ = (.slice Ao31 t373.length co31 : Value).ownBlock) (.slice Ao31 t373.length co31) t373 1 t386 t387 w _ ?side1 ?side2 A17.out).mono ?_); (case side1 => exact by_ HB); (case side2 => exact Kd.R_tight rfl HO375.out); rintro e w40 ⟨rfl, hy0, hb, hkp⟩; refine ⟨_, rfl, ?_⟩; replace BK363 := bk_ BK363 hkp (fun hs_ => (Kd.R_ne HO375.out BK363.out (by decide)) hs_); replace HO368 := kp_ (fun k_ => some k_ ≠ (.slice Ao31 t373.length co31 : Value).ownBlock ∧ some k_ ≠ (.slice Ao37 t382.length co37 : Value).ownBlock) (HO368.out) hkp; replace HO371 := kp_ (fun k_ => some k_ ≠ (.slice Ao33 t377.length co33 : Value).ownBlock) ((Kd.R_apart' HO371.out (Kd.R_typed HO375.out) (by decide))) hkp; replace BK376 := bk_ BK376 hkp (fun hs_ => (Kd.R_ne HO375.out BK376.out (by decide)) hs_); replace HO379 := kp_ (fun k_ => some k_ ≠ (.slice Ao34 t369.length co34 : Value).ownBlock) ((Kd.R_apart' HO379.out (Kd.R_typed HO375.out) (by decide))) hkp; replace HO375 := Aside0.mk (Kd.R_reok rfl hy0 (fun k_ e_ => HO375.out.1 k_ e_)); replace HO384 := kp_ (fun k_ => some k_ ≠ (.slice Ao24 t366.length co24 : Value).ownBlock ∧ some k_ ≠ (.slice Ao31 t373.length co31 : Value).ownBlock) (HO384.out) hkp; replace HB := Aside0.mk (hb); (try clear hb); (try clear hkp); (try clear hy0)))
 (try simp only [Act.put, List.setIfInBounds_toArray, List.set_cons_zero, List.set_cons_succ])
 go_cut [46] (fun v46 wc => ∃ (kq : Nat) (x46_17 : Bool), v46 = .bool x46_17 ∧ Aside0 (laws_FnExactTreeOf.j0 kq a1 t369 t377 x46_17 a0_0 l0_1 = some r) ∧ Aside0 (kq ≤ k) ∧ Aside0 (Kd.R (Kd.int .i64) 3 wc w.heap.size (fun k_ => some k_ ≠ ((.slice Ao33 t377.length co33) : Value).ownBlock) (.slice Ao34 t369.length co34) t369) ∧ Aside0 (Kd.R (Kd.int .i64) 3 wc w.heap.size (fun k_ => some k_ ≠ ((.slice Ao34 t369.length co34) : Value).ownBlock) (.slice Ao33 t377.length co33) t377) ∧ Aside0 (Kd.R k76 76 wc w.heap.size (fun _ => True) (.slice Ao31 t373.length co31) t387) ∧ Aside0 (wc.heap[gb363]? = some (.cells #[.int .i64 a0_0, (.slice A0_1 l0_1.length c0_1)] 24 (0, 0))) ∧ Aside0 (wc.heap[gb376]? = some (.cells #[.int .i64 t372, (.slice Ao31 t373.length co31)] 30 (0, 0))) ∧ Aside0 (Below w.heap.size w wc))
 case first =>
  have H := HC18.out
  clear HC18
  by_cases c41 : t386 < 0
  ·rw [if_pos c41] at H
   have c41b0 : decide (t386 < 0) = true := decide_eq_true c41
   clear c41
   (first | rw [c41b0] | (simp only [i64_w, i32_w]; rw [c41b0]) | skip)
   have H' := Aside0.mk H
   clear H
   go_wp2
   go_meet
   case rel => exact ⟨_, (true), (by first | rfl | (simp; done) | (simp [*]; done)), H', ⟨by first | omega | exact Nat.le_refl _⟩, ⟨by (with_reducible repeat (first | apply Kd.R_alloc | apply Kd.R_drewN | apply Kd.R_drew)); exact HO371.out⟩, ⟨by (with_reducible repeat (first | apply Kd.R_alloc | apply Kd.R_drewN | apply Kd.R_drew)); exact HO379.out⟩, ⟨by (with_reducible repeat (first | apply Kd.R_alloc | apply Kd.R_drewN | apply Kd.R_drew)); exact Kd.R_mono HO375.out (fun _ hk => trivial)⟩, ⟨by (with_reducible repeat (first | refine blk_drewN ?_ _ | refine blk_drew ?_ | refine blk_alloc ?_ _)); exact BK363.out⟩, ⟨by (with_reducible repeat (first | refine blk_drewN ?_ _ | refine blk_drew ?_ | refine blk_alloc ?_ _)); exact BK376.out⟩, ⟨by repeat (first | (with_reducible first | exact HB.out | apply below_alloc | apply pw_below_drewN | apply below_drew1 | refine below_set ?_ GE363.out | refine below_set ?_ GE376.out) | exact HB.out)⟩⟩
  rw [if_neg c41] at H
  have c41b0 : decide (t386 < 0) = false := decide_eq_false c41
  clear c41
  (first | rw [c41b0] | (simp only [i64_w, i32_w]; rw [c41b0]) | skip)
  replace H := Option.bind_eq_some_iff.mp H
  obtain ⟨t388, A420, H⟩ := H
  have A42 := Aside0.mk A420
  clear A420
  have H' := Aside0.mk H
  clear H
  go_wp2_with (first | (go_at_call 14; (with_reducible refine (laws_eqIntS.calls k _ _ t377 _ _ t369 t388 _ ?side1 ?side2 ?side3 ?side4 A42.out).mono ?_); (case side1 => exact rc_ HO379); (case side2 => exact (Kd.R_reads' HO379.out).2.1); (case side3 => exact rc_ HO371); (case side4 => exact (Kd.R_reads' HO371.out).2.1); rintro e w' ⟨rfl, ⟨nd, rfl⟩⟩))
  go_meet
  case rel => exact ⟨_, (!t388), (by first | rfl | (simp; done) | (simp [*]; done)), H', ⟨by first | omega | exact Nat.le_refl _⟩, ⟨by (with_reducible repeat (first | apply Kd.R_alloc | apply Kd.R_drewN | apply Kd.R_drew)); exact HO371.out⟩, ⟨by (with_reducible repeat (first | apply Kd.R_alloc | apply Kd.R_drewN | apply Kd.R_drew)); exact HO379.out⟩, ⟨by (with_reducible repeat (first | apply Kd.R_alloc | apply Kd.R_drewN | apply Kd.R_drew)); exact Kd.R_mono HO375.out (fun _ hk => trivial)⟩, ⟨by (with_reducible repeat (first | refine blk_drewN ?_ _ | refine blk_drew ?_ | refine blk_alloc ?_ _)); exact BK363.out⟩, ⟨by (with_reducible repeat (first | refine blk_drewN ?_ _ | refine blk_drew ?_ | refine blk_alloc ?_ _)); exact BK376.out⟩, ⟨by repeat (first | (with_reducible first | exact HB.out | apply below_alloc | apply pw_below_drewN | apply below_drew1 | refine below_set ?_ GE363.out | refine below_set ?_ GE376.out) | exact HB.out)⟩⟩
 case rest =>
  clear HC18
  try clear c1
  try clear c2
  try clear p2
  try clear c3
  try clear c4
  try clear c4b0
  try clear c10
  try clear c11
  try clear c12
  try clear c13
  try clear c14
  try clear c15
  try clear c16
  try clear c29
  try clear c41
  try clear c41b0
  try clear hcz20_0
  try clear hcz20_1
  try clear hcz22_0
  try clear hcz22_1
  try clear hcz26_0
  try clear hcz26_1
  try clear hcz30_0
  try clear hcz30_1
  try clear hcz39_0
  try clear hcz39_1
  try clear hcz6_0
  try clear hcz6_1
  try clear hfz20_0
  try clear hfz20_1
  try clear hfz22_0
  try clear hfz22_1
  try clear hfz26_0
  try clear hfz26_1
  try clear hfz30_0
  try clear hfz30_1
  try clear hfz39_0
  try clear hfz39_1
  try clear hfz6_0
  try clear hfz6_1
  obtain ⟨kq, x46_17, rfl, HA, HJ17, HO_6, HO_8, HO_377001, BK363, BK376, HB⟩ := hcut
  have hl377001_17 := (Kd.R_reads' HO_377001.out).1
  rw [hl377001_17] at HO_377001
  (try simp only [hl377001_17])
  (try simp only [hl377001_17] at BK363)
  (try simp only [hl377001_17] at BK376)
  (try simp only [hl377001_17] at HO_6)
  (try simp only [hl377001_17] at HO_8)
  cases kq with
  | zero => exact absurd HA.out (by simp [laws_FnExactTreeOf.j0])
  | succ kj17 =>
   have H := HA.out
   clear HA
   simp only [laws_FnExactTreeOf.j0] at H
   by_cases c43 : x46_17 = true
   ·subst c43
    rw [if_pos rfl] at H
    obtain rfl := Option.some.inj H
    go_wp2
    go_ret
    exact ⟨by first | rfl | (simp [errW_none, errW_some] <;> rfl) | (simp [*, errW_none, errW_some] <;> rfl), by repeat (first | (with_reducible first | exact HB.out | apply below_alloc | apply pw_below_drewN | apply below_drew1 | refine below_set ?_ GE363.out | refine below_set ?_ GE376.out) | exact HB.out)⟩
   replace c43 := Bool.eq_false_iff.mpr c43
   subst c43
   rw [if_neg (show ¬ (false = true) by decide)] at H
   replace H := Option.bind_eq_some_iff.mp H
   obtain ⟨⟨t389, t390⟩, A440, H⟩ := H
   have A44 := Aside0.mk A440
   clear A440
   replace H := Option.bind_eq_some_iff.mp H
   obtain ⟨t391, A450, H⟩ := H
   have A45 := Aside0.mk A450
   clear A450
   by_cases c46 : t391 < 0
   ·rw [if_pos c46] at H
    have c46b0 : decide (t391 < 0) = true := decide_eq_true c46
    clear c46
    obtain rfl := Option.some.inj H
    go_wp2_with (first | ((with_reducible refine gate_callee (f := 17) rfl ?_); refine gl_ (some 49) Try.func17 #[.slice Ao33 t377.length co33, .int .i64 1] ?_; (with_reducible refine (laws_markIntS.calls kj17 (fun k_ => some k_ = (.slice Ao33 t377.length co33 : Value).ownBlock) (.slice Ao33 t377.length co33) t377 1 t389 t390 w _ ?side1 ?side2 A44.out).mono ?_); (case side1 => exact by_ HB); (case side2 => exact Kd.R_tight rfl HO_8.out); rintro e w47 ⟨rfl, hy0, hb, hkp⟩; refine ⟨_, rfl, ?_⟩; replace HO_6 := kp_ (fun k_ => some k_ ≠ (.slice Ao33 t377.length co33 : Value).ownBlock) (HO_6.out) hkp; replace HO_377001 := kp_ (fun k_ => True) ((Kd.R_apart' HO_377001.out (Kd.R_typed HO_8.out) (by decide))) hkp; replace BK363 := bk_ BK363 hkp (fun hs_ => (Kd.R_ne HO_8.out BK363.out (by decide)) hs_); replace BK376 := bk_ BK376 hkp (fun hs_ => (Kd.R_ne HO_8.out BK376.out (by decide)) hs_); replace HO_8 := Aside0.mk (Kd.R_reok rfl hy0 (fun k_ e_ => HO_8.out.1 k_ e_)); replace HB := Aside0.mk (hb); (try clear hb); (try clear hkp); (try clear hy0)) | ((with_reducible refine gate_callee (f := 18) rfl ?_); refine goesL_ (some 52) rfl rfl Try.func18 (by kernel_rfl) rfl #[.slice Ao33 t390.length co33, .int .i64 1] rfl (by (try simp only [List.map_toArray, List.map_cons, List.map_nil]); first | done | (rw [show t390.length = t377.length from (Kd.R_reads' HO_8.out).1.symm] <;> rfl) | rfl | (simp only [List.length_drop, List.length_take]; rfl)) ?_; (with_reducible refine (laws_heldIntS.calls kj17 _ _ t390 1 t391 _ ?side1 ?side2 A45.out).mono ?_); (case side1 => exact rc_ HO_8); (case side2 => rw [show t390.length = t377.length from (Kd.R_reads' HO_8.out).1.symm]; exact (Kd.R_reads' HO_8.out).2.1); rintro e w' ⟨rfl, ⟨nd, rfl⟩⟩; refine ⟨_, rfl, ?_⟩))
    go_ret
    exact ⟨by first | rfl | (simp [errW_none, errW_some] <;> rfl) | (simp [*, errW_none, errW_some] <;> rfl), by repeat (first | (with_reducible first | exact HB.out | apply below_alloc | apply pw_below_drewN | apply below_drew1 | refine below_set ?_ GE363.out | refine below_set ?_ GE376.out) | exact HB.out)⟩
   rw [if_neg c46] at H
   have c46b0 : decide (t391 < 0) = false := decide_eq_false c46
   clear c46
   by_cases c48 : t391 = t389
   rotate_left
   ·rw [if_neg c48] at H
    have c48b0 : (t391 == t389) = false := beq_eq_false_iff_ne.mpr c48
    have c48b1 : (t391 != t389) = true := bne_iff_ne.mpr c48
    obtain rfl := Option.some.inj H
    go_wp2_with (first | ((with_reducible refine gate_callee (f := 17) rfl ?_); refine gl_ (some 49) Try.func17 #[.slice Ao33 t377.length co33, .int .i64 1] ?_; (with_reducible refine (laws_markIntS.calls kj17 (fun k_ => some k_ = (.slice Ao33 t377.length co33 : Value).ownBlock) (.slice Ao33 t377.length co33) t377 1 t389 t390 w _ ?side1 ?side2 A44.out).mono ?_); (case side1 => exact by_ HB); (case side2 => exact Kd.R_tight rfl HO_8.out); rintro e w84 ⟨rfl, hy0, hb, hkp⟩; refine ⟨_, rfl, ?_⟩; replace HO_6 := kp_ (fun k_ => some k_ ≠ (.slice Ao33 t377.length co33 : Value).ownBlock) (HO_6.out) hkp; replace HO_377001 := kp_ (fun k_ => True) ((Kd.R_apart' HO_377001.out (Kd.R_typed HO_8.out) (by decide))) hkp; replace BK363 := bk_ BK363 hkp (fun hs_ => (Kd.R_ne HO_8.out BK363.out (by decide)) hs_); replace BK376 := bk_ BK376 hkp (fun hs_ => (Kd.R_ne HO_8.out BK376.out (by decide)) hs_); replace HO_8 := Aside0.mk (Kd.R_reok rfl hy0 (fun k_ e_ => HO_8.out.1 k_ e_)); replace HB := Aside0.mk (hb); (try clear hb); (try clear hkp); (try clear hy0)) | ((with_reducible refine gate_callee (f := 18) rfl ?_); refine goesL_ (some 52) rfl rfl Try.func18 (by kernel_rfl) rfl #[.slice Ao33 t390.length co33, .int .i64 1] rfl (by (try simp only [List.map_toArray, List.map_cons, List.map_nil]); first | done | (rw [show t390.length = t377.length from (Kd.R_reads' HO_8.out).1.symm] <;> rfl) | rfl | (simp only [List.length_drop, List.length_take]; rfl)) ?_; (with_reducible refine (laws_heldIntS.calls kj17 _ _ t390 1 t391 _ ?side1 ?side2 A45.out).mono ?_); (case side1 => exact rc_ HO_8); (case side2 => rw [show t390.length = t377.length from (Kd.R_reads' HO_8.out).1.symm]; exact (Kd.R_reads' HO_8.out).2.1); rintro e w' ⟨rfl, ⟨nd, rfl⟩⟩; refine ⟨_, rfl, ?_⟩))
    go_ret
    exact ⟨by first | rfl | (simp [errW_none, errW_some] <;> rfl) | (simp [*, errW_none, errW_some] <;> rfl), by repeat (first | (with_reducible first | exact HB.out | apply below_alloc | apply pw_below_drewN | apply below_drew1 | refine below_set ?_ GE363.out | refine below_set ?_ GE376.out) | exact HB.out)⟩
   rw [if_pos c48] at H
   have c48b0 : (t391 == t389) = true := beq_iff_eq.mpr c48
   have c48b1 : (t391 != t389) = false := bne_eq_false_iff_eq.mpr c48
   clear c48
   replace H := Option.bind_eq_some_iff.mp H
   obtain ⟨⟨t392, t393⟩, A490, H⟩ := H
   have A49 := Aside0.mk A490
   clear A490
   replace H := Option.bind_eq_some_iff.mp H
   obtain ⟨t396, A500, H⟩ := H
   have A50 := Aside0.mk A500
   clear A500
   replace H := Option.bind_eq_some_iff.mp H
   obtain ⟨t399, A510, H⟩ := H
   have A51 := Aside0.mk A510
   clear A510
   by_cases c52 : t399 = true
   rotate_left
   ·replace c52 := Bool.eq_false_iff.mpr c52
    subst c52
    rw [if_neg (show ¬ (false = true) by decide)] at H
    obtain rfl := Option.some.inj H
    go_wp2_with (first | ((with_reducible refine gate_callee (f := 17) rfl ?_); refine gl_ (some 49) Try.func17 #[.slice Ao33 t377.length co33, .int .i64 1] ?_; (with_reducible refine (laws_markIntS.calls kj17 (fun k_ => some k_ = (.slice Ao33 t377.length co33 : Value).ownBlock) (.slice Ao33 t377.length co33) t377 1 t389 t390 w _ ?side1 ?side2 A44.out).mono ?_); (case side1 => exact by_ HB); (case side2 => exact Kd.R_tight rfl HO_8.out); rintro e w77 ⟨rfl, hy0, hb, hkp⟩; refine ⟨_, rfl, ?_⟩; replace HO_6 := kp_ (fun k_ => some k_ ≠ (.slice Ao33 t377.length co33 : Value).ownBlock) (HO_6.out) hkp; replace HO_377001 := kp_ (fun k_ => True) ((Kd.R_apart' HO_377001.out (Kd.R_typed HO_8.out) (by decide))) hkp; replace BK363 := bk_ BK363 hkp (fun hs_ => (Kd.R_ne HO_8.out BK363.out (by decide)) hs_); replace BK376 := bk_ BK376 hkp (fun hs_ => (Kd.R_ne HO_8.out BK376.out (by decide)) hs_); replace HO_8 := Aside0.mk (Kd.R_reok rfl hy0 (fun k_ e_ => HO_8.out.1 k_ e_)); replace HB := Aside0.mk (hb); (try clear hb); (try clear hkp); (try clear hy0)) | ((with_reducible refine gate_callee (f := 18) rfl ?_); refine goesL_ (some 52) rfl rfl Try.func18 (by kernel_rfl) rfl #[.slice Ao33 t390.length co33, .int .i64 1] rfl (by (try simp only [List.map_toArray, List.map_cons, List.map_nil]); first | done | (rw [show t390.length = t377.length from (Kd.R_reads' HO_8.out).1.symm] <;> rfl) | rfl | (simp only [List.length_drop, List.length_take]; rfl)) ?_; (with_reducible refine (laws_heldIntS.calls kj17 _ _ t390 1 t391 _ ?side1 ?side2 A45.out).mono ?_); (case side1 => exact rc_ HO_8); (case side2 => rw [show t390.length = t377.length from (Kd.R_reads' HO_8.out).1.symm]; exact (Kd.R_reads' HO_8.out).2.1); rintro e w' ⟨rfl, ⟨nd, rfl⟩⟩; refine ⟨_, rfl, ?_⟩; have hnb78 := NB363_376.out; have hnc78 := NB376_363.out; have hcz79_0 := cz_ BK363 0 (.int .i64 a0_0); have hcz79_1 := cz_ BK363 1 (.slice A0_1 l0_1.length c0_1); have hfz79_0 := blk_frozen BK363.out 0; have hfz79_1 := blk_frozen BK363.out 1) | ((with_reducible refine gate_callee (f := 12) rfl ?_); refine gl_ (some 59) Try.func12 #[.agg #[.int .i64 a0_0, .slice A0_1 l0_1.length c0_1]] ?_; (with_reducible refine (laws_toGraph.calls kj17 a0_0 _ _ l0_1 t392 t393 _ ?side1 ?side2 A49.out).mono ?_); (case side1 => exact cc_ HR0_1 HB); (case side2 => exact HC0_1.out); rintro e w80 ⟨v394, rfl, ho0, hb⟩; refine ⟨_, rfl, ?_⟩; have HO395 := Aside0.mk (Kd.R_lower (Kd.R_new' ho0 (Kd.R_lt (hd_ HO_377001))) (bz_ HB)); replace HO_6 := rb_ HO_6 hb; replace HO_8 := rb_ HO_8 hb; replace HO_377001 := Aside0.mk (Kd.R_elder' (hd_ HO_377001) (Kd.R_base ho0) hb); replace BK363 := Aside0.mk (bb_ BK363 hb); replace BK376 := Aside0.mk (bb_ BK376 hb); replace HB := Aside0.mk (bt_ HB hb); (try clear hb); (try clear hb2); (try clear hk); (try clear hi); (try clear ho0); obtain ⟨Ao81, co81, eo81⟩ := Kd.R_slice HO395.out; subst eo81) | ((with_reducible refine gate_callee (f := 13) rfl ?_); refine gl_ (some 61) Try.func13 #[.agg #[.int .i64 t392, .slice Ao81 t393.length co81], .int .i64 a1] ?_; (with_reducible refine (impl_TreeOf.calls kj17 t392 _ _ t393 a1 t396 _ ?side1 ?side2 A50.out).mono ?_); (case side1 => exact rc_ HO395); (case side2 => exact (Kd.R_reads' HO395.out).2.1); rintro e w82 ⟨v397, rfl, ho0, hb⟩; refine ⟨_, rfl, ?_⟩; have HO398 := Aside0.mk (Kd.R_lower (Kd.R_new' (Kd.R_new' ho0 (Kd.R_lt (hd_ HO_6))) (Kd.R_lt (hd_ HO_8))) (bz_ HB)); replace HO_377001 := rb_ HO_377001 hb; replace HO395 := rb_ HO395 hb; replace HO_6 := Aside0.mk (Kd.R_elder' (hd_ HO_6) (Kd.R_base ho0) hb); replace HO_8 := Aside0.mk (Kd.R_elder' (hd_ HO_8) (Kd.R_base ho0) hb); replace BK363 := Aside0.mk (bb_ BK363 hb); replace BK376 := Aside0.mk (bb_ BK376 hb); replace HB := Aside0.mk (bt_ HB hb); (try clear hb); (try clear hb2); (try clear hk); (try clear hi); (try clear ho0); obtain ⟨Ao83, co83, eo83⟩ := Kd.R_slice HO398.out; subst eo83) | ((with_reducible refine gate_callee (f := 14) rfl ?_); refine gl_ (some 64) Try.func14 #[.slice Ao83 t396.length co83, .slice Ao34 t369.length co34] ?_; (with_reducible refine (laws_eqIntS.calls kj17 _ _ t396 _ _ t369 false _ ?side1 ?side2 ?side3 ?side4 A51.out).mono ?_); (case side1 => exact rc_ HO398); (case side2 => exact (Kd.R_reads' HO398.out).2.1); (case side3 => exact rc_ HO_6); (case side4 => exact (Kd.R_reads' HO_6.out).2.1); rintro e w' ⟨rfl, ⟨nd, rfl⟩⟩; refine ⟨_, rfl, ?_⟩))
    go_ret
    exact ⟨by first | rfl | (simp [errW_none, errW_some] <;> rfl) | (simp [*, errW_none, errW_some] <;> rfl), by repeat (first | (with_reducible first | exact HB.out | apply below_alloc | apply pw_below_drewN | apply below_drew1 | refine below_set ?_ GE363.out | refine below_set ?_ GE376.out) | exact HB.out)⟩
   subst c52
   rw [if_pos rfl] at H
   replace H := Option.bind_eq_some_iff.mp H
   obtain ⟨t400, A530, H⟩ := H
   have A53 := Aside0.mk A530
   clear A530
   by_cases c54 : t400 < 0
   ·rw [if_pos c54] at H
    have c54b0 : decide (t400 < 0) = true := decide_eq_true c54
    clear c54
    obtain rfl := Option.some.inj H
    go_wp2_with (first | ((with_reducible refine gate_callee (f := 17) rfl ?_); refine gl_ (some 49) Try.func17 #[.slice Ao33 t377.length co33, .int .i64 1] ?_; (with_reducible refine (laws_markIntS.calls kj17 (fun k_ => some k_ = (.slice Ao33 t377.length co33 : Value).ownBlock) (.slice Ao33 t377.length co33) t377 1 t389 t390 w _ ?side1 ?side2 A44.out).mono ?_); (case side1 => exact by_ HB); (case side2 => exact Kd.R_tight rfl HO_8.out); rintro e w55 ⟨rfl, hy0, hb, hkp⟩; refine ⟨_, rfl, ?_⟩; replace HO_6 := kp_ (fun k_ => some k_ ≠ (.slice Ao33 t377.length co33 : Value).ownBlock) (HO_6.out) hkp; replace HO_377001 := kp_ (fun k_ => True) ((Kd.R_apart' HO_377001.out (Kd.R_typed HO_8.out) (by decide))) hkp; replace BK363 := bk_ BK363 hkp (fun hs_ => (Kd.R_ne HO_8.out BK363.out (by decide)) hs_); replace BK376 := bk_ BK376 hkp (fun hs_ => (Kd.R_ne HO_8.out BK376.out (by decide)) hs_); replace HO_8 := Aside0.mk (Kd.R_reok rfl hy0 (fun k_ e_ => HO_8.out.1 k_ e_)); replace HB := Aside0.mk (hb); (try clear hb); (try clear hkp); (try clear hy0)) | ((with_reducible refine gate_callee (f := 18) rfl ?_); refine goesL_ (some 52) rfl rfl Try.func18 (by kernel_rfl) rfl #[.slice Ao33 t390.length co33, .int .i64 1] rfl (by (try simp only [List.map_toArray, List.map_cons, List.map_nil]); first | done | (rw [show t390.length = t377.length from (Kd.R_reads' HO_8.out).1.symm] <;> rfl) | rfl | (simp only [List.length_drop, List.length_take]; rfl)) ?_; (with_reducible refine (laws_heldIntS.calls kj17 _ _ t390 1 t391 _ ?side1 ?side2 A45.out).mono ?_); (case side1 => exact rc_ HO_8); (case side2 => rw [show t390.length = t377.length from (Kd.R_reads' HO_8.out).1.symm]; exact (Kd.R_reads' HO_8.out).2.1); rintro e w' ⟨rfl, ⟨nd, rfl⟩⟩; refine ⟨_, rfl, ?_⟩; have hnb56 := NB363_376.out; have hnc56 := NB376_363.out; have hcz57_0 := cz_ BK363 0 (.int .i64 a0_0); have hcz57_1 := cz_ BK363 1 (.slice A0_1 l0_1.length c0_1); have hfz57_0 := blk_frozen BK363.out 0; have hfz57_1 := blk_frozen BK363.out 1) | ((with_reducible refine gate_callee (f := 12) rfl ?_); refine gl_ (some 59) Try.func12 #[.agg #[.int .i64 a0_0, .slice A0_1 l0_1.length c0_1]] ?_; (with_reducible refine (laws_toGraph.calls kj17 a0_0 _ _ l0_1 t392 t393 _ ?side1 ?side2 A49.out).mono ?_); (case side1 => exact cc_ HR0_1 HB); (case side2 => exact HC0_1.out); rintro e w58 ⟨v394, rfl, ho0, hb⟩; refine ⟨_, rfl, ?_⟩; have HO395 := Aside0.mk (Kd.R_lower (Kd.R_new' ho0 (Kd.R_lt (hd_ HO_377001))) (bz_ HB)); replace HO_6 := rb_ HO_6 hb; replace HO_8 := rb_ HO_8 hb; replace HO_377001 := Aside0.mk (Kd.R_elder' (hd_ HO_377001) (Kd.R_base ho0) hb); replace BK363 := Aside0.mk (bb_ BK363 hb); replace BK376 := Aside0.mk (bb_ BK376 hb); replace HB := Aside0.mk (bt_ HB hb); (try clear hb); (try clear hb2); (try clear hk); (try clear hi); (try clear ho0); obtain ⟨Ao59, co59, eo59⟩ := Kd.R_slice HO395.out; subst eo59) | ((with_reducible refine gate_callee (f := 13) rfl ?_); refine gl_ (some 61) Try.func13 #[.agg #[.int .i64 t392, .slice Ao59 t393.length co59], .int .i64 a1] ?_; (with_reducible refine (impl_TreeOf.calls kj17 t392 _ _ t393 a1 t396 _ ?side1 ?side2 A50.out).mono ?_); (case side1 => exact rc_ HO395); (case side2 => exact (Kd.R_reads' HO395.out).2.1); rintro e w60 ⟨v397, rfl, ho0, hb⟩; refine ⟨_, rfl, ?_⟩; have HO398 := Aside0.mk (Kd.R_lower (Kd.R_new' (Kd.R_new' ho0 (Kd.R_lt (hd_ HO_6))) (Kd.R_lt (hd_ HO_8))) (bz_ HB)); replace HO_377001 := rb_ HO_377001 hb; replace HO395 := rb_ HO395 hb; replace HO_6 := Aside0.mk (Kd.R_elder' (hd_ HO_6) (Kd.R_base ho0) hb); replace HO_8 := Aside0.mk (Kd.R_elder' (hd_ HO_8) (Kd.R_base ho0) hb); replace BK363 := Aside0.mk (bb_ BK363 hb); replace BK376 := Aside0.mk (bb_ BK376 hb); replace HB := Aside0.mk (bt_ HB hb); (try clear hb); (try clear hb2); (try clear hk); (try clear hi); (try clear ho0); obtain ⟨Ao61, co61, eo61⟩ := Kd.R_slice HO398.out; subst eo61) | ((with_reducible refine gate_callee (f := 14) rfl ?_); refine gl_ (some 64) Try.func14 #[.slice Ao61 t396.length co61, .slice Ao34 t369.length co34] ?_; (with_reducible refine (laws_eqIntS.calls kj17 _ _ t396 _ _ t369 true _ ?side1 ?side2 ?side3 ?side4 A51.out).mono ?_); (case side1 => exact rc_ HO398); (case side2 => exact (Kd.R_reads' HO398.out).2.1); (case side3 => exact rc_ HO_6); (case side4 => exact (Kd.R_reads' HO_6.out).2.1); rintro e w' ⟨rfl, ⟨nd, rfl⟩⟩; refine ⟨_, rfl, ?_⟩) | ((with_reducible refine gate_callee (f := 18) rfl ?_); refine goesL_ (some 68) rfl rfl Try.func18 (by kernel_rfl) rfl #[.slice Ao33 t390.length co33, .int .i64 1] rfl (by (try simp only [List.map_toArray, List.map_cons, List.map_nil]); first | done | (rw [show t390.length = t377.length from (Kd.R_reads' HO_8.out).1.symm] <;> rfl) | rfl | (simp only [List.length_drop, List.length_take]; rfl)) ?_; (with_reducible refine (laws_heldIntS.calls kj17 _ _ t390 1 t400 _ ?side1 ?side2 A53.out).mono ?_); (case side1 => exact rc_ HO_8); (case side2 => rw [show t390.length = t377.length from (Kd.R_reads' HO_8.out).1.symm]; exact (Kd.R_reads' HO_8.out).2.1); rintro e w' ⟨rfl, ⟨nd, rfl⟩⟩; refine ⟨_, rfl, ?_⟩))
    go_ret
    exact ⟨by first | rfl | (simp [errW_none, errW_some] <;> rfl) | (simp [*, errW_none, errW_some] <;> rfl), by repeat (first | (with_reducible first | exact HB.out | apply below_alloc | apply pw_below_drewN | apply below_drew1 | refine below_set ?_ GE363.out | refine below_set ?_ GE376.out) | exact HB.out)⟩
   rw [if_neg c54] at H
   have c54b0 : decide (t400 < 0) = false := decide_eq_false c54
   clear c54
   by_cases c62 : t400 = t389
   rotate_left
   ·rw [if_neg c62] at H
    have c62b0 : (t400 == t389) = false := beq_eq_false_iff_ne.mpr c62
    have c62b1 : (t400 != t389) = true := bne_iff_ne.mpr c62
    obtain rfl := Option.some.inj H
    go_wp2_with (first | ((with_reducible refine gate_callee (f := 17) rfl ?_); refine gl_ (some 49) Try.func17 #[.slice Ao33 t377.length co33, .int .i64 1] ?_; (with_reducible refine (laws_markIntS.calls kj17 (fun k_ => some k_ = (.slice Ao33 t377.length co33 : Value).ownBlock) (.slice Ao33 t377.length co33) t377 1 t389 t390 w _ ?side1 ?side2 A44.out).mono ?_); (case side1 => exact by_ HB); (case side2 => exact Kd.R_tight rfl HO_8.out); rintro e w70 ⟨rfl, hy0, hb, hkp⟩; refine ⟨_, rfl, ?_⟩; replace HO_6 := kp_ (fun k_ => some k_ ≠ (.slice Ao33 t377.length co33 : Value).ownBlock) (HO_6.out) hkp; replace HO_377001 := kp_ (fun k_ => True) ((Kd.R_apart' HO_377001.out (Kd.R_typed HO_8.out) (by decide))) hkp; replace BK363 := bk_ BK363 hkp (fun hs_ => (Kd.R_ne HO_8.out BK363.out (by decide)) hs_); replace BK376 := bk_ BK376 hkp (fun hs_ => (Kd.R_ne HO_8.out BK376.out (by decide)) hs_); replace HO_8 := Aside0.mk (Kd.R_reok rfl hy0 (fun k_ e_ => HO_8.out.1 k_ e_)); replace HB := Aside0.mk (hb); (try clear hb); (try clear hkp); (try clear hy0)) | ((with_reducible refine gate_callee (f := 18) rfl ?_); refine goesL_ (some 52) rfl rfl Try.func18 (by kernel_rfl) rfl #[.slice Ao33 t390.length co33, .int .i64 1] rfl (by (try simp only [List.map_toArray, List.map_cons, List.map_nil]); first | done | (rw [show t390.length = t377.length from (Kd.R_reads' HO_8.out).1.symm] <;> rfl) | rfl | (simp only [List.length_drop, List.length_take]; rfl)) ?_; (with_reducible refine (laws_heldIntS.calls kj17 _ _ t390 1 t391 _ ?side1 ?side2 A45.out).mono ?_); (case side1 => exact rc_ HO_8); (case side2 => rw [show t390.length = t377.length from (Kd.R_reads' HO_8.out).1.symm]; exact (Kd.R_reads' HO_8.out).2.1); rintro e w' ⟨rfl, ⟨nd, rfl⟩⟩; refine ⟨_, rfl, ?_⟩; have hnb71 := NB363_376.out; have hnc71 := NB376_363.out; have hcz72_0 := cz_ BK363 0 (.int .i64 a0_0); have hcz72_1 := cz_ BK363 1 (.slice A0_1 l0_1.length c0_1); have hfz72_0 := blk_frozen BK363.out 0; have hfz72_1 := blk_frozen BK363.out 1) | ((with_reducible refine gate_callee (f := 12) rfl ?_); refine gl_ (some 59) Try.func12 #[.agg #[.int .i64 a0_0, .slice A0_1 l0_1.length c0_1]] ?_; (with_reducible refine (laws_toGraph.calls kj17 a0_0 _ _ l0_1 t392 t393 _ ?side1 ?side2 A49.out).mono ?_); (case side1 => exact cc_ HR0_1 HB); (case side2 => exact HC0_1.out); rintro e w73 ⟨v394, rfl, ho0, hb⟩; refine ⟨_, rfl, ?_⟩; have HO395 := Aside0.mk (Kd.R_lower (Kd.R_new' ho0 (Kd.R_lt (hd_ HO_377001))) (bz_ HB)); replace HO_6 := rb_ HO_6 hb; replace HO_8 := rb_ HO_8 hb; replace HO_377001 := Aside0.mk (Kd.R_elder' (hd_ HO_377001) (Kd.R_base ho0) hb); replace BK363 := Aside0.mk (bb_ BK363 hb); replace BK376 := Aside0.mk (bb_ BK376 hb); replace HB := Aside0.mk (bt_ HB hb); (try clear hb); (try clear hb2); (try clear hk); (try clear hi); (try clear ho0); obtain ⟨Ao74, co74, eo74⟩ := Kd.R_slice HO395.out; subst eo74) | ((with_reducible refine gate_callee (f := 13) rfl ?_); refine gl_ (some 61) Try.func13 #[.agg #[.int .i64 t392, .slice Ao74 t393.length co74], .int .i64 a1] ?_; (with_reducible refine (impl_TreeOf.calls kj17 t392 _ _ t393 a1 t396 _ ?side1 ?side2 A50.out).mono ?_); (case side1 => exact rc_ HO395); (case side2 => exact (Kd.R_reads' HO395.out).2.1); rintro e w75 ⟨v397, rfl, ho0, hb⟩; refine ⟨_, rfl, ?_⟩; have HO398 := Aside0.mk (Kd.R_lower (Kd.R_new' (Kd.R_new' ho0 (Kd.R_lt (hd_ HO_6))) (Kd.R_lt (hd_ HO_8))) (bz_ HB)); replace HO_377001 := rb_ HO_377001 hb; replace HO395 := rb_ HO395 hb; replace HO_6 := Aside0.mk (Kd.R_elder' (hd_ HO_6) (Kd.R_base ho0) hb); replace HO_8 := Aside0.mk (Kd.R_elder' (hd_ HO_8) (Kd.R_base ho0) hb); replace BK363 := Aside0.mk (bb_ BK363 hb); replace BK376 := Aside0.mk (bb_ BK376 hb); replace HB := Aside0.mk (bt_ HB hb); (try clear hb); (try clear hb2); (try clear hk); (try clear hi); (try clear ho0); obtain ⟨Ao76, co76, eo76⟩ := Kd.R_slice HO398.out; subst eo76) | ((with_reducible refine gate_callee (f := 14) rfl ?_); refine gl_ (some 64) Try.func14 #[.slice Ao76 t396.length co76, .slice Ao34 t369.length co34] ?_; (with_reducible refine (laws_eqIntS.calls kj17 _ _ t396 _ _ t369 true _ ?side1 ?side2 ?side3 ?side4 A51.out).mono ?_); (case side1 => exact rc_ HO398); (case side2 => exact (Kd.R_reads' HO398.out).2.1); (case side3 => exact rc_ HO_6); (case side4 => exact (Kd.R_reads' HO_6.out).2.1); rintro e w' ⟨rfl, ⟨nd, rfl⟩⟩; refine ⟨_, rfl, ?_⟩) | ((with_reducible refine gate_callee (f := 18) rfl ?_); refine goesL_ (some 68) rfl rfl Try.func18 (by kernel_rfl) rfl #[.slice Ao33 t390.length co33, .int .i64 1] rfl (by (try simp only [List.map_toArray, List.map_cons, List.map_nil]); first | done | (rw [show t390.length = t377.length from (Kd.R_reads' HO_8.out).1.symm] <;> rfl) | rfl | (simp only [List.length_drop, List.length_take]; rfl)) ?_; (with_reducible refine (laws_heldIntS.calls kj17 _ _ t390 1 t400 _ ?side1 ?side2 A53.out).mono ?_); (case side1 => exact rc_ HO_8); (case side2 => rw [show t390.length = t377.length from (Kd.R_reads' HO_8.out).1.symm]; exact (Kd.R_reads' HO_8.out).2.1); rintro e w' ⟨rfl, ⟨nd, rfl⟩⟩; refine ⟨_, rfl, ?_⟩))
    go_ret
    exact ⟨by first | rfl | (simp [errW_none, errW_some] <;> rfl) | (simp [*, errW_none, errW_some] <;> rfl), by repeat (first | (with_reducible first | exact HB.out | apply below_alloc | apply pw_below_drewN | apply below_drew1 | refine below_set ?_ GE363.out | refine below_set ?_ GE376.out) | exact HB.out)⟩
   rw [if_pos c62] at H
   have c62b0 : (t400 == t389) = true := beq_iff_eq.mpr c62
   have c62b1 : (t400 != t389) = false := bne_eq_false_iff_eq.mpr c62
   clear c62
   obtain rfl := Option.some.inj H
   go_wp2_with (first | ((with_reducible refine gate_callee (f := 17) rfl ?_); refine gl_ (some 49) Try.func17 #[.slice Ao33 t377.length co33, .int .i64 1] ?_; (with_reducible refine (laws_markIntS.calls kj17 (fun k_ => some k_ = (.slice Ao33 t377.length co33 : Value).ownBlock) (.slice Ao33 t377.length co33) t377 1 t389 t390 w _ ?side1 ?side2 A44.out).mono ?_); (case side1 => exact by_ HB); (case side2 => exact Kd.R_tight rfl HO_8.out); rintro e w63 ⟨rfl, hy0, hb, hkp⟩; refine ⟨_, rfl, ?_⟩; replace HO_6 := kp_ (fun k_ => some k_ ≠ (.slice Ao33 t377.length co33 : Value).ownBlock) (HO_6.out) hkp; replace HO_377001 := kp_ (fun k_ => True) ((Kd.R_apart' HO_377001.out (Kd.R_typed HO_8.out) (by decide))) hkp; replace BK363 := bk_ BK363 hkp (fun hs_ => (Kd.R_ne HO_8.out BK363.out (by decide)) hs_); replace BK376 := bk_ BK376 hkp (fun hs_ => (Kd.R_ne HO_8.out BK376.out (by decide)) hs_); replace HO_8 := Aside0.mk (Kd.R_reok rfl hy0 (fun k_ e_ => HO_8.out.1 k_ e_)); replace HB := Aside0.mk (hb); (try clear hb); (try clear hkp); (try clear hy0)) | ((with_reducible refine gate_callee (f := 18) rfl ?_); refine goesL_ (some 52) rfl rfl Try.func18 (by kernel_rfl) rfl #[.slice Ao33 t390.length co33, .int .i64 1] rfl (by (try simp only [List.map_toArray, List.map_cons, List.map_nil]); first | done | (rw [show t390.length = t377.length from (Kd.R_reads' HO_8.out).1.symm] <;> rfl) | rfl | (simp only [List.length_drop, List.length_take]; rfl)) ?_; (with_reducible refine (laws_heldIntS.calls kj17 _ _ t390 1 t391 _ ?side1 ?side2 A45.out).mono ?_); (case side1 => exact rc_ HO_8); (case side2 => rw [show t390.length = t377.length from (Kd.R_reads' HO_8.out).1.symm]; exact (Kd.R_reads' HO_8.out).2.1); rintro e w' ⟨rfl, ⟨nd, rfl⟩⟩; refine ⟨_, rfl, ?_⟩; have hnb64 := NB363_376.out; have hnc64 := NB376_363.out; have hcz65_0 := cz_ BK363 0 (.int .i64 a0_0); have hcz65_1 := cz_ BK363 1 (.slice A0_1 l0_1.length c0_1); have hfz65_0 := blk_frozen BK363.out 0; have hfz65_1 := blk_frozen BK363.out 1) | ((with_reducible refine gate_callee (f := 12) rfl ?_); refine gl_ (some 59) Try.func12 #[.agg #[.int .i64 a0_0, .slice A0_1 l0_1.length c0_1]] ?_; (with_reducible refine (laws_toGraph.calls kj17 a0_0 _ _ l0_1 t392 t393 _ ?side1 ?side2 A49.out).mono ?_); (case side1 => exact cc_ HR0_1 HB); (case side2 => exact HC0_1.out); rintro e w66 ⟨v394, rfl, ho0, hb⟩; refine ⟨_, rfl, ?_⟩; have HO395 := Aside0.mk (Kd.R_lower (Kd.R_new' ho0 (Kd.R_lt (hd_ HO_377001))) (bz_ HB)); replace HO_6 := rb_ HO_6 hb; replace HO_8 := rb_ HO_8 hb; replace HO_377001 := Aside0.mk (Kd.R_elder' (hd_ HO_377001) (Kd.R_base ho0) hb); replace BK363 := Aside0.mk (bb_ BK363 hb); replace BK376 := Aside0.mk (bb_ BK376 hb); replace HB := Aside0.mk (bt_ HB hb); (try clear hb); (try clear hb2); (try clear hk); (try clear hi); (try clear ho0); obtain ⟨Ao67, co67, eo67⟩ := Kd.R_slice HO395.out; subst eo67) | ((with_reducible refine gate_callee (f := 13) rfl ?_); refine gl_ (some 61) Try.func13 #[.agg #[.int .i64 t392, .slice Ao67 t393.length co67], .int .i64 a1] ?_; (with_reducible refine (impl_TreeOf.calls kj17 t392 _ _ t393 a1 t396 _ ?side1 ?side2 A50.out).mono ?_); (case side1 => exact rc_ HO395); (case side2 => exact (Kd.R_reads' HO395.out).2.1); rintro e w68 ⟨v397, rfl, ho0, hb⟩; refine ⟨_, rfl, ?_⟩; have HO398 := Aside0.mk (Kd.R_lower (Kd.R_new' (Kd.R_new' ho0 (Kd.R_lt (hd_ HO_6))) (Kd.R_lt (hd_ HO_8))) (bz_ HB)); replace HO_377001 := rb_ HO_377001 hb; replace HO395 := rb_ HO395 hb; replace HO_6 := Aside0.mk (Kd.R_elder' (hd_ HO_6) (Kd.R_base ho0) hb); replace HO_8 := Aside0.mk (Kd.R_elder' (hd_ HO_8) (Kd.R_base ho0) hb); replace BK363 := Aside0.mk (bb_ BK363 hb); replace BK376 := Aside0.mk (bb_ BK376 hb); replace HB := Aside0.mk (bt_ HB hb); (try clear hb); (try clear hb2); (try clear hk); (try clear hi); (try clear ho0); obtain ⟨Ao69, co69, eo69⟩ := Kd.R_slice HO398.out; subst eo69) | ((with_reducible refine gate_callee (f := 14) rfl ?_); refine gl_ (some 64) Try.func14 #[.slice Ao69 t396.length co69, .slice Ao34 t369.length co34] ?_; (with_reducible refine (laws_eqIntS.calls kj17 _ _ t396 _ _ t369 true _ ?side1 ?side2 ?side3 ?side4 A51.out).mono ?_); (case side1 => exact rc_ HO398); (case side2 => exact (Kd.R_reads' HO398.out).2.1); (case side3 => exact rc_ HO_6); (case side4 => exact (Kd.R_reads' HO_6.out).2.1); rintro e w' ⟨rfl, ⟨nd, rfl⟩⟩; refine ⟨_, rfl, ?_⟩) | ((with_reducible refine gate_callee (f := 18) rfl ?_); refine goesL_ (some 68) rfl rfl Try.func18 (by kernel_rfl) rfl #[.slice Ao33 t390.length co33, .int .i64 1] rfl (by (try simp only [List.map_toArray, List.map_cons, List.map_nil]); first | done | (rw [show t390.length = t377.length from (Kd.R_reads' HO_8.out).1.symm] <;> rfl) | rfl | (simp only [List.length_drop, List.length_take]; rfl)) ?_; (with_reducible refine (laws_heldIntS.calls kj17 _ _ t390 1 t400 _ ?side1 ?side2 A53.out).mono ?_); (case side1 => exact rc_ HO_8); (case side2 => rw [show t390.length = t377.length from (Kd.R_reads' HO_8.out).1.symm]; exact (Kd.R_reads' HO_8.out).2.1); rintro e w' ⟨rfl, ⟨nd, rfl⟩⟩; refine ⟨_, rfl, ?_⟩))
   go_ret
   exact ⟨by first | rfl | (simp [errW_none, errW_some] <;> rfl) | (simp [*, errW_none, errW_some] <;> rfl), by repeat (first | (with_reducible first | exact HB.out | apply below_alloc | apply pw_below_drewN | apply below_drew1 | refine below_set ?_ GE363.out | refine below_set ?_ GE376.out) | exact HB.out)⟩

end Go.Proofs.Ythmahcohcphljaa.QFnExactTreeOf
