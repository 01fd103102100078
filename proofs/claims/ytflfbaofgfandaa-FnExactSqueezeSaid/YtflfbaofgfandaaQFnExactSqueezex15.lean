/- Contracts of functions that the law reaches: what each call returns and what it leaves in memory. Made by this session over the print of the kit. -/
import Derived.Test.YtflfbaofgfandaaQFnExactSqueezex0
import Derived.Test.YtflfbaofgfandaaQFnExactSqueezex12
import Derived.Test.YtflfbaofgfandaaQFnExactSqueezex14
namespace Go.Proofs.Ytflfbaofgfandaa.QFnExactSqueeze
open Go.RowKit Go.Proofs.YtflfbaofgfandaaQ.PrintWords Go.Proofs.YtflfbaofgfandaaQ.PrintLast Go.Proofs.YtflfbaofgfandaaQ.PrintMore
attribute [local go_sem] max2_int min2_int max_two min_two max_three min_three max_four min_four   -- for this text's walks alone
set_option linter.unusedVariables false
set_option linter.unusedSimpArgs false

/-! ### slices_IndexFunc_impl_Route_impl_Route: function 69 -/
def slices_IndexFunc_impl_Route_impl_Route.l0 : Nat → List (S43) → Int → Int → List (S43) → Option (Int)
 | 0, _, _, _, _ => none
 | k + 1, x0, x7, x8, x910 => if x8 < x7 then (if 0 ≤ x8 then (if x8 < (x0.length : Int) then ((impl_isRedundant_1.f ((rd_T43 x0 x8).f0.f0) ((rd_T43 x0 x8).f0.f1) ((rd_T43 x0 x8).f1) x910).bind fun t270 => (if t270 = true then (some x8) else (slices_IndexFunc_impl_Route_impl_Route.l0 k x0 x7 (wrap64 (x8 + 1)) x910))) else (none)) else (none)) else (some (-1))
def slices_IndexFunc_impl_Route_impl_Route.f (k : Nat) (l0 : List (S43)) (l1_0 : List (S43)) : Option (Int) := slices_IndexFunc_impl_Route_impl_Route.l0 k l0 (l0.length : Int) 0 l1_0
theorem slices_IndexFunc_impl_Route_impl_Route.mono_l : ∀ k, (∀ y0 y1 y2 y3, LeO (slices_IndexFunc_impl_Route_impl_Route.l0 k y0 y1 y2 y3) (slices_IndexFunc_impl_Route_impl_Route.l0 (k + 1) y0 y1 y2 y3))
 | 0 => fun _ _ _ _ r h => by simp [slices_IndexFunc_impl_Route_impl_Route.l0] at h
 | k + 1 => by
  have ih0 := slices_IndexFunc_impl_Route_impl_Route.mono_l k
  ·intro y0 y1 y2 y3
   unfold slices_IndexFunc_impl_Route_impl_Route.l0
   repeat' first
   | (with_reducible exact ih0 _ _ _ _)
   | (with_reducible exact LeO.refl _)
   | (with_reducible exact LeO.none _)
   | (with_reducible refine LeO.ite ?_ ?_)
   | (with_reducible refine LeO.bind ?_ (fun _ => ?_))
   | exact ih0 _ _ _ _
   | exact LeO.none _
   | refine LeO.ite ?_ ?_
   | refine LeO.bind ?_ (fun _ => ?_)
theorem slices_IndexFunc_impl_Route_impl_Route.mono : ∀ a0 a1 k, LeO (slices_IndexFunc_impl_Route_impl_Route.f k a0 a1) (slices_IndexFunc_impl_Route_impl_Route.f (k + 1) a0 a1) := by
 intro a0 a1 k
 have ih0 := slices_IndexFunc_impl_Route_impl_Route.mono_l k
 unfold slices_IndexFunc_impl_Route_impl_Route.f
 repeat' first
   | (with_reducible exact ih0 _ _ _ _)
   | (with_reducible exact LeO.refl _)
   | (with_reducible exact LeO.none _)
   | (with_reducible refine LeO.ite ?_ ?_)
   | (with_reducible refine LeO.bind ?_ (fun _ => ?_))
   | exact ih0 _ _ _ _
   | exact LeO.none _
   | refine LeO.ite ?_ ?_
   | refine LeO.bind ?_ (fun _ => ?_)
set_option maxHeartbeats 8000000 in
set_option maxRecDepth 100000 in
theorem slices_IndexFunc_impl_Route_impl_Route.calls (k : Nat) (A0 : Option Addr) (c0 : Nat) (l0 : List (S43)) (A1_0 : Option Addr) (l1_0 : List (S43)) (r : Int) (w : World) (hr0 : Kd.C k43 w A0 l0.length l0) (hc0 : l0.length ≤ c0) (hr1_0 : Kd.C k43 w A1_0 l1_0.length l1_0) (h : slices_IndexFunc_impl_Route_impl_Route.f k l0 l1_0 = some r) :
  Calls Try.prog 69 #[.slice A0 l0.length c0, .func (.func 63) #[] #[.pointer A1_0]] w fun e w' => e = .returned (.int .i64 r) ∧ Below w.heap.size w w' := by
 have hu43 := Try.underlying43
 have HR0 := Aside0.mk hr0
 have HC0 := Aside0.mk hc0
 clear hr0 hc0
 have HR1_0 := Aside0.mk hr1_0
 clear hr1_0
 have HB := Aside0.mk (Below.refl w.heap.size w)
 have H : (slices_IndexFunc_impl_Route_impl_Route.l0 k l0 (l0.length : Int) 0 l1_0) = some r := h
 clear h
 have H' := Aside0.mk H
 clear H
 go_enter Try.func69, Try.ntmps69
 go_wp2
 go_loopg [8] k (fun kq v8 w' => ∃ (x8_1 : Int), v8 = .int .i64 x8_1 ∧ Aside0 (slices_IndexFunc_impl_Route_impl_Route.l0 kq l0 (l0.length : Int) x8_1 l1_0 = some r) ∧ Aside0 (kq ≤ k) ∧ Aside0 (Below w.heap.size w w'))
 case atStart => exact ⟨(0), (by first | rfl | (simp; done) | (simp [*]; done)), H', ⟨Nat.le_refl _⟩, ⟨by repeat (first | (with_reducible first | exact HB.out | apply below_alloc | apply pw_below_drewN | apply below_drew1) | exact HB.out)⟩⟩
 case round =>
  clear H'
  try clear p2
  obtain ⟨x8_1, rfl, HA, HK1, HB⟩ := hrel
  cases gk with
  | zero => exact absurd HA.out (by simp [slices_IndexFunc_impl_Route_impl_Route.l0])
  | succ k1 =>
   have H := HA.out
   clear HA
   simp only [slices_IndexFunc_impl_Route_impl_Route.l0] at H
   by_cases c3 : x8_1 < (l0.length : Int)
   rotate_left
   ·rw [if_neg c3] at H
    have c3b0 : decide (x8_1 < (l0.length : Int)) = false := decide_eq_false c3
    clear c3
    obtain rfl := Option.some.inj H
    go_wp2
    go_ret
    exact ⟨by first | rfl | (simp [errW_none, errW_some] <;> rfl) | (simp [*, errW_none, errW_some] <;> rfl), by repeat (first | (with_reducible first | exact HB.out | apply below_alloc | apply pw_below_drewN | apply below_drew1) | exact HB.out)⟩
   rw [if_pos c3] at H
   have c3b0 : decide (x8_1 < (l0.length : Int)) = true := decide_eq_true c3
   clear c3
   by_cases c4 : 0 ≤ x8_1
   rotate_left
   ·rw [if_neg c4] at H
    exact absurd H (by simp)
   rw [if_pos c4] at H
   have c4b0 : decide (0 ≤ x8_1) = true := decide_eq_true c4
   clear c4
   by_cases c5 : x8_1 < (l0.length : Int)
   rotate_left
   ·rw [if_neg c5] at H
    exact absurd H (by simp)
   rw [if_pos c5] at H
   have c5b0 : decide (x8_1 < (l0.length : Int)) = true := decide_eq_true c5
   clear c5
   replace H := Option.bind_eq_some_iff.mp H
   obtain ⟨t270, A60, H⟩ := H
   have A6 := Aside0.mk A60
   clear A60
   by_cases c7 : t270 = true
   ·subst c7
    rw [if_pos rfl] at H
    obtain rfl := Option.some.inj H
    have p269 : 0 ≤ (x8_1 : Int) := of_decide_eq_true (by first | (with_reducible assumption) | assumption)
    have q269 : x8_1 < (l0.length : Int) := of_decide_eq_true (by first | (with_reducible assumption) | assumption)
    obtain ⟨ad269, e269, hx269_0, hx269_1, hx269_2⟩ := at_T43 HR0.out x8_1 p269 q269
    cases e269
    replace hx269_0 := (HB.out.cell (World.block_lt_of_cell? w _ hx269_0)).trans hx269_0
    replace hx269_1 := (HB.out.cell (World.block_lt_of_cell? w _ hx269_1)).trans hx269_1
    replace hx269_2 := (HB.out.cell (World.block_lt_of_cell? w _ hx269_2)).trans hx269_2
    replace p269 := eq_true p269
    replace q269 := eq_true q269
    go_wp2_with (first | ((with_reducible refine gate_dst (N := 16) rfl ?_); refine goesTc_ (some 16) rfl rfl Try.func63 (by kernel_rfl) rfl #[.agg #[.int .i64 ((rd_T43 l0 x8_1).f0.f0), .int .i64 ((rd_T43 l0 x8_1).f0.f1), .int .i64 ((rd_T43 l0 x8_1).f1)], .pointer A1_0] rfl (by (try simp only [List.map_toArray, List.map_cons, List.map_nil]); first | done | rfl | (simp only [List.length_drop, List.length_take]; rfl)) ?_; (with_reducible refine (impl_isRedundant_1.calls ((rd_T43 l0 x8_1).f0.f0) ((rd_T43 l0 x8_1).f0.f1) ((rd_T43 l0 x8_1).f1) _ l1_0 true _ ?side1 A6.out).mono ?_); (case side1 => exact cb_ HR1_0 HB); rintro e w8 ⟨rfl, hb⟩; refine ⟨_, rfl, ?_⟩; replace HB := Aside0.mk (bt_ HB hb); (try clear hb); (try clear hb2); (try clear hk); (try clear hi)))
    go_ret
    exact ⟨by first | rfl | (simp [errW_none, errW_some] <;> rfl) | (simp [*, errW_none, errW_some] <;> rfl), by repeat (first | (with_reducible first | exact HB.out | apply below_alloc | apply pw_below_drewN | apply below_drew1) | exact HB.out)⟩
   replace c7 := Bool.eq_false_iff.mpr c7
   subst c7
   rw [if_neg (show ¬ (false = true) by decide)] at H
   have H' := Aside0.mk H
   clear H
   have p269 : 0 ≤ (x8_1 : Int) := of_decide_eq_true (by first | (with_reducible assumption) | assumption)
   have q269 : x8_1 < (l0.length : Int) := of_decide_eq_true (by first | (with_reducible assumption) | assumption)
   obtain ⟨ad269, e269, hx269_0, hx269_1, hx269_2⟩ := at_T43 HR0.out x8_1 p269 q269
   cases e269
   replace hx269_0 := (HB.out.cell (World.block_lt_of_cell? w _ hx269_0)).trans hx269_0
   replace hx269_1 := (HB.out.cell (World.block_lt_of_cell? w _ hx269_1)).trans hx269_1
   replace hx269_2 := (HB.out.cell (World.block_lt_of_cell? w _ hx269_2)).trans hx269_2
   replace p269 := eq_true p269
   replace q269 := eq_true q269
   go_wp2_with (first | ((with_reducible refine gate_dst (N := 16) rfl ?_); refine goesTc_ (some 16) rfl rfl Try.func63 (by kernel_rfl) rfl #[.agg #[.int .i64 ((rd_T43 l0 x8_1).f0.f0), .int .i64 ((rd_T43 l0 x8_1).f0.f1), .int .i64 ((rd_T43 l0 x8_1).f1)], .pointer A1_0] rfl (by (try simp only [List.map_toArray, List.map_cons, List.map_nil]); first | done | rfl | (simp only [List.length_drop, List.length_take]; rfl)) ?_; (with_reducible refine (impl_isRedundant_1.calls ((rd_T43 l0 x8_1).f0.f0) ((rd_T43 l0 x8_1).f0.f1) ((rd_T43 l0 x8_1).f1) _ l1_0 false _ ?side1 A6.out).mono ?_); (case side1 => exact cb_ HR1_0 HB); rintro e w9 ⟨rfl, hb⟩; refine ⟨_, rfl, ?_⟩; replace HB := Aside0.mk (bt_ HB hb); (try clear hb); (try clear hb2); (try clear hk); (try clear hi)))
   go_roundg k1
   case measure => have := HK1.out; omega
   case rel => exact ⟨(wrap64 (x8_1 + 1)), (by first | rfl | (simp; done) | (simp [*]; done)), H', ⟨by have := HK1.out; omega⟩, ⟨by repeat (first | (with_reducible first | exact HB.out | apply below_alloc | apply pw_below_drewN | apply below_drew1) | exact HB.out)⟩⟩

/-! ### slices_DeleteFunc_impl_Route_impl_Route: function 62 -/
def slices_DeleteFunc_impl_Route_impl_Route.l0 : Nat → List (S43) → Int → Int → List (S43) → Option ((List (S43)))
 | 0, _, _, _, _ => none
 | k + 1, x0, x5, x6, x910 => if x6 < (x0.length : Int) then (if 0 ≤ x6 then ((impl_isRedundant_1.f ((rd_T43 x0 x6).f0.f0) ((rd_T43 x0 x6).f0.f1) ((rd_T43 x0 x6).f1) x910).bind fun t274 => (if t274 = true then (slices_DeleteFunc_impl_Route_impl_Route.l0 k x0 x5 (wrap64 (x6 + 1)) x910) else (if 0 ≤ x5 then (if x5 < (x0.length : Int) then (slices_DeleteFunc_impl_Route_impl_Route.l0 k (x0.set (x5 : Int).toNat (⟨(⟨(rd_T43 x0 x6).f0.f0, (rd_T43 x0 x6).f0.f1⟩ : S34), (rd_T43 x0 x6).f1⟩ : S43)) (wrap64 (x5 + 1)) (wrap64 (x6 + 1)) x910) else (none)) else (none)))) else (none)) else (if 0 ≤ x5 then (if x5 ≤ (x0.length : Int) then (some ((x0.take (x5 : Int).toNat ++ List.replicate (x0.length - (x5 : Int).toNat) z43).take (x5 : Int).toNat)) else (none)) else (none))
def slices_DeleteFunc_impl_Route_impl_Route.f (k : Nat) (l0 : List (S43)) (l1_0 : List (S43)) : Option ((List (S43))) := (slices_IndexFunc_impl_Route_impl_Route.f k l0 l1_0).bind fun t271 => (if t271 = (-1) then (some l0) else (slices_DeleteFunc_impl_Route_impl_Route.l0 k l0 t271 (wrap64 (t271 + 1)) l1_0))
theorem slices_DeleteFunc_impl_Route_impl_Route.mono_l : ∀ k, (∀ y0 y1 y2 y3, LeO (slices_DeleteFunc_impl_Route_impl_Route.l0 k y0 y1 y2 y3) (slices_DeleteFunc_impl_Route_impl_Route.l0 (k + 1) y0 y1 y2 y3))
 | 0 => fun _ _ _ _ r h => by simp [slices_DeleteFunc_impl_Route_impl_Route.l0] at h
 | k + 1 => by
  have ih0 := slices_DeleteFunc_impl_Route_impl_Route.mono_l k
  ·intro y0 y1 y2 y3
   unfold slices_DeleteFunc_impl_Route_impl_Route.l0
   repeat' first
   | (with_reducible exact ih0 _ _ _ _)
   | (with_reducible exact slices_IndexFunc_impl_Route_impl_Route.mono _ _ _)
   | (with_reducible exact LeO.refl _)
   | (with_reducible exact LeO.none _)
   | (with_reducible refine LeO.ite ?_ ?_)
   | (with_reducible refine LeO.bind ?_ (fun _ => ?_))
   | exact ih0 _ _ _ _
   | exact slices_IndexFunc_impl_Route_impl_Route.mono _ _ _
   | exact LeO.none _
   | refine LeO.ite ?_ ?_
   | refine LeO.bind ?_ (fun _ => ?_)
theorem slices_DeleteFunc_impl_Route_impl_Route.mono : ∀ a0 a1 k, LeO (slices_DeleteFunc_impl_Route_impl_Route.f k a0 a1) (slices_DeleteFunc_impl_Route_impl_Route.f (k + 1) a0 a1) := by
 intro a0 a1 k
 have ih0 := slices_DeleteFunc_impl_Route_impl_Route.mono_l k
 unfold slices_DeleteFunc_impl_Route_impl_Route.f
 repeat' first
   | (with_reducible exact ih0 _ _ _ _)
   | (with_reducible exact slices_IndexFunc_impl_Route_impl_Route.mono _ _ _)
   | (with_reducible exact LeO.refl _)
   | (with_reducible exact LeO.none _)
   | (with_reducible refine LeO.ite ?_ ?_)
   | (with_reducible refine LeO.bind ?_ (fun _ => ?_))
   | exact ih0 _ _ _ _
   | exact slices_IndexFunc_impl_Route_impl_Route.mono _ _ _
   | exact LeO.none _
   | refine LeO.ite ?_ ?_
   | refine LeO.bind ?_ (fun _ => ?_)
set_option maxHeartbeats 8000000 in
set_option maxRecDepth 100000 in
theorem slices_DeleteFunc_impl_Route_impl_Route.calls (k : Nat) (P0_ : Nat → Prop) (u9000_ : Value) (l0 : List (S43)) (A1_0 : Option Addr) (l1_0 : List (S43)) (r : List (S43)) (w0 w : World) (hB : Below w0.heap.size w0 w) (ho0 : Kd.R k43 43 w w0.heap.size P0_ u9000_ l0) (hr1_0 : ∀ W_, Kept w W_ (fun k_ => P0_ k_) → Kd.C k43 W_ A1_0 l1_0.length l1_0) (h : slices_DeleteFunc_impl_Route_impl_Route.f k l0 l1_0 = some r) :
  Calls Try.prog 62 #[u9000_, .func (.func 63) #[] #[.pointer A1_0]] w fun e w' => ∃ v0_ : Value, e = .returned (v0_) ∧ Kd.R k43 43 w' w0.heap.size (fun k_ => (P0_ k_ ∨ w.heap.size ≤ k_)) v0_ r ∧ Below w0.heap.size w0 w' ∧ Kept w w' (fun k_ => P0_ k_) := by
 have hu43 := Try.underlying43
 have HO0 := Aside0.mk (show Kd.R k43 43 w w0.heap.size (fun k_ => (P0_ k_ ∨ w.heap.size ≤ k_)) u9000_ l0 from Kd.R_mono ho0 (fun k_ hk => (.inl hk)))
 have HR1_0 := Aside0.mk hr1_0
 clear hr1_0
 have HK := Aside0.mk (Kept.refl w (fun k_ => P0_ k_))
 have HW0 := Aside0.mk hB.size
 have HB := Aside0.mk hB
 clear hB
 have H : ((slices_IndexFunc_impl_Route_impl_Route.f k l0 l1_0).bind fun t271 => (if t271 = (-1) then (some l0) else (slices_DeleteFunc_impl_Route_impl_Route.l0 k l0 t271 (wrap64 (t271 + 1)) l1_0))) = some r := h
 clear h
 replace H := Option.bind_eq_some_iff.mp H
 obtain ⟨t271, A30, H⟩ := H
 have A3 := Aside0.mk A30
 clear A30
 by_cases c4 : t271 = (-1)
 ·rw [if_pos c4] at H
  have c4b0 : (t271 == (-1)) = true := beq_iff_eq.mpr c4
  have c4b1 : (t271 != (-1)) = false := bne_eq_false_iff_eq.mpr c4
  clear c4
  obtain rfl := Option.some.inj H
  obtain ⟨Ao5, co5, eo5⟩ := Kd.R_slice HO0.out
  subst eo5
  go_enter Try.func62, Try.ntmps62
  go_wp2_with (first | ((with_reducible refine gate_callee (f := 69) rfl ?_); refine gl_ (some 10) Try.func69 #[.slice Ao5 l0.length co5, .func (.func 63) #[] #[.pointer A1_0]] ?_; (with_reducible refine (slices_IndexFunc_impl_Route_impl_Route.calls k _ _ l0 _ l1_0 t271 _ ?side1 ?side2 ?side3 A3.out).mono ?_); (case side1 => exact rc_ HO0); (case side2 => exact (Kd.R_reads' HO0.out).2.1); (case side3 => exact Kd.C_kept_now HR1_0.out (by repeat (first | (with_reducible first | exact HK.out | apply Kept.alloc | apply Kept.drewN | apply Kept.drew) | exact HK.out))); rintro e w6 ⟨rfl, hb⟩; refine ⟨_, rfl, ?_⟩; replace HO0 := rb_ HO0 hb; replace HK := Aside0.mk (Kept.below (S := (fun k_ => P0_ k_)) (by repeat (first | (with_reducible first | exact HK.out | apply Kept.alloc | apply Kept.drewN | apply Kept.drew) | exact HK.out)) hb); replace HB := Aside0.mk (bt_ HB hb); (try clear hb); (try clear hb2); (try clear hk); (try clear hi)))
  go_ret
  exact ⟨_, by first | rfl | (simp [errW_none, errW_some] <;> rfl) | (simp [*, errW_none, errW_some] <;> rfl), by (with_reducible repeat (first | apply Kd.R_alloc | apply Kd.R_drewN | apply Kd.R_drew)); exact HO0.out, by repeat (first | (with_reducible first | exact HB.out | apply below_alloc | apply pw_below_drewN | apply below_drew1) | exact HB.out), by repeat (first | (with_reducible first | exact HK.out | apply Kept.alloc | apply Kept.drewN | apply Kept.drew) | exact HK.out)⟩
 rw [if_neg c4] at H
 have c4b0 : (t271 == (-1)) = false := beq_eq_false_iff_ne.mpr c4
 have c4b1 : (t271 != (-1)) = true := bne_iff_ne.mpr c4
 have H' := Aside0.mk H
 clear H
 obtain ⟨Ao7, co7, eo7⟩ := Kd.R_slice HO0.out
 subst eo7
 go_enter Try.func62, Try.ntmps62
 go_wp2_with (first | ((with_reducible refine gate_callee (f := 69) rfl ?_); refine gl_ (some 10) Try.func69 #[.slice Ao7 l0.length co7, .func (.func 63) #[] #[.pointer A1_0]] ?_; (with_reducible refine (slices_IndexFunc_impl_Route_impl_Route.calls k _ _ l0 _ l1_0 t271 _ ?side1 ?side2 ?side3 A3.out).mono ?_); (case side1 => exact rc_ HO0); (case side2 => exact (Kd.R_reads' HO0.out).2.1); (case side3 => exact Kd.C_kept_now HR1_0.out (by repeat (first | (with_reducible first | exact HK.out | apply Kept.alloc | apply Kept.drewN | apply Kept.drew) | exact HK.out))); rintro e w8 ⟨rfl, hb⟩; refine ⟨_, rfl, ?_⟩; replace HO0 := rb_ HO0 hb; replace HK := Aside0.mk (Kept.below (S := (fun k_ => P0_ k_)) (by repeat (first | (with_reducible first | exact HK.out | apply Kept.alloc | apply Kept.drewN | apply Kept.drew) | exact HK.out)) hb); replace HB := Aside0.mk (bt_ HB hb); (try clear hb); (try clear hb2); (try clear hk); (try clear hi)))
 (try simp only [Act.put, List.setIfInBounds_toArray, List.set_cons_zero, List.set_cons_succ])
 go_loopg [5, 6] k (fun kq v5 v6 w' => ∃ (x0_1 : List (S43)) (x5_1 : Int) (x6_1 : Int), v5 = .int .i64 x5_1 ∧ v6 = .int .i64 x6_1 ∧ Aside0 (slices_DeleteFunc_impl_Route_impl_Route.l0 kq x0_1 x5_1 x6_1 l1_0 = some r) ∧ Aside0 (kq ≤ k) ∧ Aside0 (Kd.R k43 43 w' w0.heap.size (fun k_ => (P0_ k_ ∨ w.heap.size ≤ k_)) (.slice Ao7 l0.length co7) x0_1) ∧ Aside0 (Kept w w' (fun k_ => P0_ k_)) ∧ Aside0 (Below w0.heap.size w0 w'))
 case atStart => exact ⟨(l0), (t271), (wrap64 (t271 + 1)), (by first | rfl | (simp; done) | (simp [*]; done)), (by first | rfl | (simp; done) | (simp [*]; done)), H', ⟨Nat.le_refl _⟩, ⟨by (with_reducible repeat (first | apply Kd.R_alloc | apply Kd.R_drewN | apply Kd.R_drew)); exact HO0.out⟩, ⟨by repeat (first | (with_reducible first | exact HK.out | apply Kept.alloc | apply Kept.drewN | apply Kept.drew) | exact HK.out)⟩, ⟨by repeat (first | (with_reducible first | exact HB.out | apply below_alloc | apply pw_below_drewN | apply below_drew1) | exact HB.out)⟩⟩
 case round =>
  clear H'
  try clear p2
  try clear c4
  try clear c4b0
  try clear c4b1
  try clear c6
  try clear p6
  obtain ⟨x0_1, x5_1, x6_1, rfl, rfl, HA, HK1, HO_0, HK, HB⟩ := hrel
  have hl0_1 := (Kd.R_reads' HO_0.out).1
  rw [hl0_1] at HO_0
  (try simp only [hl0_1])
  cases gk with
  | zero => exact absurd HA.out (by simp [slices_DeleteFunc_impl_Route_impl_Route.l0])
  | succ k1 =>
   have H := HA.out
   clear HA
   simp only [slices_DeleteFunc_impl_Route_impl_Route.l0] at H
   by_cases c9 : x6_1 < (x0_1.length : Int)
   rotate_left
   ·rw [if_neg c9] at H
    have c9b0 : decide (x6_1 < (x0_1.length : Int)) = false := decide_eq_false c9
    (try simp only [hl0_1] at c9b0)
    clear c9
    by_cases c25 : 0 ≤ x5_1
    rotate_left
    ·rw [if_neg c25] at H
     exact absurd H (by simp)
    rw [if_pos c25] at H
    have c25b0 := eq_true c25
    have c25b1 : decide (0 ≤ x5_1) = true := decide_eq_true c25
    clear c25
    by_cases c26 : x5_1 ≤ (x0_1.length : Int)
    rotate_left
    ·rw [if_neg c26] at H
     exact absurd H (by simp)
    rw [if_pos c26] at H
    have c26b0 := eq_true c26
    have c26b1 : decide (x5_1 ≤ (x0_1.length : Int)) = true := decide_eq_true c26
    clear c26
    obtain ⟨y276, hy276⟩ : ∃ y_ : List (S43), y_ = (x0_1.drop (x5_1 : Int).toNat) := ⟨_, rfl⟩
    replace H : (some ((x0_1.take (x5_1 : Int).toNat ++ List.replicate (x0_1.length - (x5_1 : Int).toNat) z43).take (x5_1 : Int).toNat)) = some r := by first | (rw [hy276]; with_reducible exact H) | (have H2_ := (Option.bind_some _ _).symm.trans H; rw [hy276]; with_reducible exact H2_) | (have H2_ := (Option.bind_some _ _).symm.trans H; with_reducible exact H2_) | with_reducible exact H | (rw [hy276]; exact H) | exact H
    have Ny276 := Aside0.mk hy276
    clear hy276
    obtain ⟨y280, hy280⟩ : ∃ y_ : List (S43), y_ = (x0_1.take (x5_1 : Int).toNat ++ List.replicate (x0_1.length - (x5_1 : Int).toNat) z43) := ⟨_, rfl⟩
    replace H : (some (y280.take (x5_1 : Int).toNat)) = some r := by first | (rw [hy280]; with_reducible exact H) | (have H2_ := (Option.bind_some _ _).symm.trans H; rw [hy280]; with_reducible exact H2_) | (have H2_ := (Option.bind_some _ _).symm.trans H; with_reducible exact H2_) | with_reducible exact H | (rw [hy280]; exact H) | exact H
    have Ny280 := Aside0.mk hy280
    clear hy280
    have c27b0 := eq_true (of_decide_eq_true (by first | (with_reducible assumption) | assumption) : x5_1 ≤ (x0_1.length : Int))
    obtain ⟨y281, hy281⟩ : ∃ y_ : List (S43), y_ = (y280.take (x5_1 : Int).toNat) := ⟨_, rfl⟩
    replace H : (some y281) = some r := by first | (rw [hy281]; with_reducible exact H) | (have H2_ := (Option.bind_some _ _).symm.trans H; rw [hy281]; with_reducible exact H2_) | (have H2_ := (Option.bind_some _ _).symm.trans H; with_reducible exact H2_) | with_reducible exact H | (rw [hy281]; exact H) | exact H
    have Ny281 := Aside0.mk hy281
    clear hy281
    obtain rfl := Option.some.inj H
    have q28 : (x5_1 : Int) ≤ ((x0_1.length : Int) : Int) := of_decide_eq_true (by first | (with_reducible assumption) | assumption)
    obtain ⟨i028, hi028, _, hsz28, _⟩ := info_parts info43
    have hroom28 : x0_1.length ≤ co7 := (Kd.R_reads' HO_0.out).2.1
    have hC28 : Kd.C k43 _ Ao7 x0_1.length x0_1 := (Kd.R_reads' HO_0.out).2.2
    have q028 : (0 : Int) ≤ (x5_1 : Int) := of_decide_eq_true (by first | (with_reducible assumption) | assumption)
    have hcut28 := cut_from (P := Try.prog) 28 43 .i64 Try.underlying28 hi028 3 hsz28 Ao7 x0_1.length co7 x5_1 q028 q28
    have hr28 := Kd.C_drop (m := (x5_1 : Int).toNat) (c := co7) hC28 (by omega) hroom28
    obtain ⟨A28, hA28⟩ : ∃ A1, A1 = (if co7 = (x5_1 : Int).toNat then Ao7 else (Ao7 : Option Addr).map (·.add ((x5_1 : Int).toNat * 3))) := ⟨_, rfl⟩
    obtain ⟨c28, hc28⟩ : ∃ c1, c1 = co7 - (x5_1 : Int).toNat := ⟨_, rfl⟩
    have hy28 : y276.length = x0_1.length - (x5_1 : Int).toNat := (by rw [Ny276.out, List.length_drop] <;> omega)
    rw [show (x0_1).drop (x5_1 : Int).toNat = y276 from Ny276.out.symm] at hr28
    replace hr28 : Kd.C k43 _ A28 y276.length y276 := (by rw [hA28]; exact hr28)
    rw [← hy28, ← hA28, ← hc28] at hcut28
    have HR279 := Aside0.mk hr28
    have HC279 := Aside0.mk (show y276.length ≤ c28 from by rw [hy28, hc28]; exact Nat.sub_le_sub_right hroom28 _)
    clear hr28 hC28 hroom28 hi028 hsz28 hc28
    have KY28 := Aside0.mk hy28
    have KA28 := Aside0.mk hA28
    clear hy28 hA28
    have KL28 := Aside0.mk (show (x5_1 : Int).toNat ≤ x0_1.length from by omega)
    replace q28 := eq_true q28
    go_wp2_with (first | ((with_reducible refine gate_builtin (b := .clear) (xs := #[.tmp 38]) rfl ?_); have hh_ : (x5_1 : Int) ≤ ((x0_1.length : Int) : Int) := of_decide_eq_true (by first | (with_reducible assumption) | assumption); have hn_ := (Kd.R_reads' HO_0.out).1; have hy1_ := KY28.out; refine R_clear k43 (w0 := w0) w0.heap.size rfl (.tmp 38) 28 43 rfl rfl Try.underlying28 (.agg #[(.int .i64 0), (.int .i64 0), (.int .i64 0)]) 24 info43 rfl (by decide) z43 (fun _ => (k43_mkM _ _ _ z43)) (A0 := Ao7) (n := x0_1.length) (c := co7) (k := (x5_1 : Int).toNat) rfl ?hA ?hm (hd_ HO_0) ?hk (by repeat (first | (with_reducible first | exact HB.out | apply below_alloc | apply pw_below_drewN | apply below_drew1) | exact HB.out)) (bz_ HB) ?_; (case hA => exact KA28.out); (case hm => first | exact hy1_ | omega); (case hk => omega); intro w29 ho hb hg; rw [show x0_1.length - (x5_1 : Int).toNat = x0_1.length - (x5_1 : Int).toNat by omega, ← Ny280.out] at ho; clear hh_ hn_ hy1_; replace HB := Aside0.mk (hb); replace HK := Aside0.mk (Kept.of_grown (S := (fun k_ => P0_ k_)) hg (by repeat (first | (with_reducible first | exact HK.out | apply Kept.alloc | apply Kept.drewN | apply Kept.drew) | exact HK.out)) (fun k_ e_ => (HO_0.out.1 k_ e_))); replace HO_0 := Aside0.mk (ho); clear ho hb hg; have q31 : (x5_1 : Int) ≤ ((x0_1.length : Int) : Int) := of_decide_eq_true (by first | (with_reducible assumption) | assumption); obtain ⟨i031, hi031, _, hsz31, _⟩ := info_parts info43; have hcut31 := cut_to (P := Try.prog) 28 43 .i64 Try.underlying28 hi031 Ao7 x0_1.length co7 x5_1 (of_decide_eq_true (by first | (with_reducible assumption) | assumption)) q31 (Kd.R_reads' HO_0.out).2.1; have hr31 := Kd.R_take (m := (x5_1 : Int).toNat) HO_0.out (by have hlq_ := (Kd.R_reads' HO_0.out).1; omega); have hy31 : y281.length = (x5_1 : Int).toNat := (by have hlq_ := (Kd.R_reads' HO_0.out).1; rw [Ny281.out, List.length_take]; omega); rw [← Ny281.out] at hr31; rw [← hy31] at hr31 hcut31; clear hy31 hi031 hsz31 HO_0; have HO283 := Aside0.mk hr31; clear hr31; replace q31 := eq_true q31))
    go_ret
    exact ⟨_, by first | rfl | (simp [errW_none, errW_some] <;> rfl) | (simp [*, errW_none, errW_some] <;> rfl), by (with_reducible repeat (first | apply Kd.R_alloc | apply Kd.R_drewN | apply Kd.R_drew)); exact HO283.out, by repeat (first | (with_reducible first | exact HB.out | apply below_alloc | apply pw_below_drewN | apply below_drew1) | exact HB.out), by repeat (first | (with_reducible first | exact HK.out | apply Kept.alloc | apply Kept.drewN | apply Kept.drew) | exact HK.out)⟩
   rw [if_pos c9] at H
   have c9b0 : decide (x6_1 < (x0_1.length : Int)) = true := decide_eq_true c9
   clear c9
   by_cases c10 : 0 ≤ x6_1
   rotate_left
   ·rw [if_neg c10] at H
    exact absurd H (by simp)
   rw [if_pos c10] at H
   have c10b0 : decide (0 ≤ x6_1) = true := decide_eq_true c10
   clear c10
   replace H := Option.bind_eq_some_iff.mp H
   obtain ⟨t274, A110, H⟩ := H
   have A11 := Aside0.mk A110
   clear A110
   by_cases c12 : t274 = true
   ·subst c12
    rw [if_pos rfl] at H
    have H' := Aside0.mk H
    clear H
    have p272 : 0 ≤ (x6_1 : Int) := of_decide_eq_true (by first | (with_reducible assumption) | assumption)
    have q272 : x6_1 < (x0_1.length : Int) := of_decide_eq_true (by first | (with_reducible assumption) | assumption)
    obtain ⟨ad272, e272, hx272_0, hx272_1, hx272_2⟩ := at_T43 (Kd.R_reads' HO_0.out).2.2 x6_1 p272 q272
    cases e272
    replace p272 := eq_true p272
    replace q272 := eq_true q272
    go_wp2_with (first | ((with_reducible refine gate_dst (N := 7) rfl ?_); refine box_event ?hg (N := 7) ?hd (cs := #[.int .i64 0, .int .i64 0, .int .i64 0]) (t := 43) ?hr ?_; (case hd => rfl); (case hg => rfl); (case hr => first | (go_simp; done) | (go_simp; rfl)); intro gb273 hg w13 hbox hb; have BK273 := Aside0.mk hbox; have GW273 := Aside0.mk ((by rw [hg]; exact (by first | exact HK.out.1 | exact (show Kept w _ (fun k_ => P0_ k_) from by repeat (first | (with_reducible first | exact HK.out | apply Kept.alloc | apply Kept.drewN | apply Kept.drew) | exact HK.out)).1) : w.heap.size ≤ gb273)); have GE273 := Aside0.mk ((by rw [hg]; exact (bz_ HB) : w0.heap.size ≤ gb273)); replace HO_0 := Aside0.mk (Kd.R_below (Kd.R_elderB (hd_ HO_0) gb273 (Nat.le_of_eq hg.symm)) hb); replace HK := Aside0.mk (Kept.below (S := (fun k_ => P0_ k_)) (by repeat (first | (with_reducible first | exact HK.out | apply Kept.alloc | apply Kept.drewN | apply Kept.drew) | exact HK.out)) hb); replace HB := Aside0.mk (bt_ HB hb); clear hb hbox hg; have hcz14_0 := cz_ BK273 0 (.int .i64 0); have hcz14_1 := cz_ BK273 1 (.int .i64 0); have hcz14_2 := cz_ BK273 2 (.int .i64 0); have hfz14_0 := blk_frozen BK273.out 0; have hfz14_1 := blk_frozen BK273.out 1; have hfz14_2 := blk_frozen BK273.out 2) | ((with_reducible refine gate_dst (N := 28) rfl ?_); refine goesTc_ (some 28) rfl rfl Try.func63 (by kernel_rfl) rfl #[.agg #[.int .i64 ((rd_T43 x0_1 x6_1).f0.f0), .int .i64 ((rd_T43 x0_1 x6_1).f0.f1), .int .i64 ((rd_T43 x0_1 x6_1).f1)], .pointer A1_0] rfl (by (try simp only [List.map_toArray, List.map_cons, List.map_nil]); first | done | rfl | (simp only [List.length_drop, List.length_take]; rfl)) ?_; (with_reducible refine (impl_isRedundant_1.calls ((rd_T43 x0_1 x6_1).f0.f0) ((rd_T43 x0_1 x6_1).f0.f1) ((rd_T43 x0_1 x6_1).f1) _ l1_0 true _ ?side1 A11.out).mono ?_); (case side1 => exact Kd.C_kept_now HR1_0.out (by repeat (first | (with_reducible first | exact HK.out | apply Kept.alloc | apply Kept.drewN | apply Kept.drew | refine Kept.setCell ?_ (.inr GW273.out) _) | exact HK.out))); rintro e w15 ⟨rfl, hb⟩; refine ⟨_, rfl, ?_⟩; replace HO_0 := Aside0.mk (Kd.R_below (by (with_reducible repeat (first | apply Kd.R_alloc | apply Kd.R_drewN | apply Kd.R_drew)); exact (Kd.R_mono (Kd.R_far (p := ⟨gb273, 2, none⟩) (Kd.R_far (p := ⟨gb273, 1, none⟩) (Kd.R_far (p := ⟨gb273, 0, none⟩) (Kd.R_mono HO_0.out (fun k_ hk => (⟨hk, hk.2⟩ : _ ∧ k_ ≠ gb273))) (fun _ hk => hk.2) (.int .i64 ((rd_T43 x0_1 x6_1).f0.f0))) (fun _ hk => hk.2) (.int .i64 ((rd_T43 x0_1 x6_1).f0.f1))) (fun _ hk => hk.2) (.int .i64 ((rd_T43 x0_1 x6_1).f1))) (fun _ h_ => h_.1))) hb); replace BK273 := Aside0.mk (blk_below (g := gb273) (o := .cells #[.int .i64 ((rd_T43 x0_1 x6_1).f0.f0), .int .i64 ((rd_T43 x0_1 x6_1).f0.f1), .int .i64 ((rd_T43 x0_1 x6_1).f1)] 43 (0, 0)) (by (with_reducible repeat (first | refine blk_drewN ?_ _ | refine blk_drew ?_ | refine blk_alloc ?_ _)); refine blk_put (cs := #[.int .i64 ((rd_T43 x0_1 x6_1).f0.f0), .int .i64 ((rd_T43 x0_1 x6_1).f0.f1), .int .i64 0]) ?_ 2 _ rfl; (with_reducible repeat (first | refine blk_drewN ?_ _ | refine blk_drew ?_ | refine blk_alloc ?_ _)); refine blk_put (cs := #[.int .i64 ((rd_T43 x0_1 x6_1).f0.f0), .int .i64 0, .int .i64 0]) ?_ 1 _ rfl; (with_reducible repeat (first | refine blk_drewN ?_ _ | refine blk_drew ?_ | refine blk_alloc ?_ _)); refine blk_put (cs := #[.int .i64 0, .int .i64 0, .int .i64 0]) ?_ 0 _ rfl; (with_reducible repeat (first | refine blk_drewN ?_ _ | refine blk_drew ?_ | refine blk_alloc ?_ _)); exact BK273.out) hb); replace HK := Aside0.mk (Kept.below (S := (fun k_ => P0_ k_)) (by repeat (first | (with_reducible first | exact HK.out | apply Kept.alloc | apply Kept.drewN | apply Kept.drew | refine Kept.setCell ?_ (.inr GW273.out) _) | exact HK.out)) hb); replace HB := Aside0.mk (bt_ HB hb); (try clear hb); (try clear hb2); (try clear hk); (try clear hi)))
    (try simp only [← hl0_1])
    go_roundg k1
    case measure => have := HK1.out; omega
    case rel => exact ⟨(x0_1), (x5_1), (wrap64 (x6_1 + 1)), (by first | rfl | (simp; done) | (simp [*]; done)), (by first | rfl | (simp; done) | (simp [*]; done)), H', ⟨by have := HK1.out; omega⟩, ⟨by (try simp only [hl0_1]); (with_reducible repeat (first | apply Kd.R_alloc | apply Kd.R_drewN | apply Kd.R_drew)); exact Kd.R_mono HO_0.out (fun _ hk => hk.1)⟩, ⟨by repeat (first | (with_reducible first | exact HK.out | apply Kept.alloc | apply Kept.drewN | apply Kept.drew | refine Kept.setCell ?_ (.inr GW273.out) _) | exact HK.out)⟩, ⟨by repeat (first | (with_reducible first | exact HB.out | apply below_alloc | apply pw_below_drewN | apply below_drew1 | refine below_set ?_ GE273.out) | exact HB.out)⟩⟩
   replace c12 := Bool.eq_false_iff.mpr c12
   subst c12
   rw [if_neg (show ¬ (false = true) by decide)] at H
   by_cases c16 : 0 ≤ x5_1
   rotate_left
   ·rw [if_neg c16] at H
    exact absurd H (by simp)
   rw [if_pos c16] at H
   have c16b0 : decide (0 ≤ x5_1) = true := decide_eq_true c16
   clear c16
   by_cases c17 : x5_1 < (x0_1.length : Int)
   rotate_left
   ·rw [if_neg c17] at H
    exact absurd H (by simp)
   rw [if_pos c17] at H
   have c17b0 : decide (x5_1 < (x0_1.length : Int)) = true := decide_eq_true c17
   clear c17
   obtain ⟨y275, hy275⟩ : ∃ y_ : List (S43), y_ = (x0_1.set (x5_1 : Int).toNat (⟨(⟨(rd_T43 x0_1 x6_1).f0.f0, (rd_T43 x0_1 x6_1).f0.f1⟩ : S34), (rd_T43 x0_1 x6_1).f1⟩ : S43)) := ⟨_, rfl⟩
   replace H : (slices_DeleteFunc_impl_Route_impl_Route.l0 k1 y275 (wrap64 (x5_1 + 1)) (wrap64 (x6_1 + 1)) l1_0) = some r := by first | (rw [hy275]; with_reducible exact H) | (have H2_ := (Option.bind_some _ _).symm.trans H; rw [hy275]; with_reducible exact H2_) | (have H2_ := (Option.bind_some _ _).symm.trans H; with_reducible exact H2_) | with_reducible exact H | (rw [hy275]; exact H) | exact H
   have Ny275 := Aside0.mk hy275
   clear hy275
   have H' := Aside0.mk H
   clear H
   have p272 : 0 ≤ (x6_1 : Int) := of_decide_eq_true (by first | (with_reducible assumption) | assumption)
   have q272 : x6_1 < (x0_1.length : Int) := of_decide_eq_true (by first | (with_reducible assumption) | assumption)
   obtain ⟨ad272, e272, hx272_0, hx272_1, hx272_2⟩ := at_T43 (Kd.R_reads' HO_0.out).2.2 x6_1 p272 q272
   cases e272
   replace p272 := eq_true p272
   replace q272 := eq_true q272
   go_wp2_with (first | ((with_reducible refine gate_dst (N := 7) rfl ?_); refine box_event ?hg (N := 7) ?hd (cs := #[.int .i64 0, .int .i64 0, .int .i64 0]) (t := 43) ?hr ?_; (case hd => rfl); (case hg => rfl); (case hr => first | (go_simp; done) | (go_simp; rfl)); intro gb273 hg w19 hbox hb; have BK273 := Aside0.mk hbox; have GW273 := Aside0.mk ((by rw [hg]; exact (by first | exact HK.out.1 | exact (show Kept w _ (fun k_ => P0_ k_) from by repeat (first | (with_reducible first | exact HK.out | apply Kept.alloc | apply Kept.drewN | apply Kept.drew) | exact HK.out)).1) : w.heap.size ≤ gb273)); have GE273 := Aside0.mk ((by rw [hg]; exact (bz_ HB) : w0.heap.size ≤ gb273)); replace HO_0 := Aside0.mk (Kd.R_below (Kd.R_elderB (hd_ HO_0) gb273 (Nat.le_of_eq hg.symm)) hb); replace HK := Aside0.mk (Kept.below (S := (fun k_ => P0_ k_)) (by repeat (first | (with_reducible first | exact HK.out | apply Kept.alloc | apply Kept.drewN | apply Kept.drew) | exact HK.out)) hb); replace HB := Aside0.mk (bt_ HB hb); clear hb hbox hg; have hcz20_0 := cz_ BK273 0 (.int .i64 0); have hcz20_1 := cz_ BK273 1 (.int .i64 0); have hcz20_2 := cz_ BK273 2 (.int .i64 0); have hfz20_0 := blk_frozen BK273.out 0; have hfz20_1 := blk_frozen BK273.out 1; have hfz20_2 := blk_frozen BK273.out 2) | ((with_reducible refine gate_dst (N := 28) rfl ?_); refine goesTc_ (some 28) rfl rfl Try.func63 (by kernel_rfl) rfl #[.agg #[.int .i64 ((rd_T43 x0_1 x6_1).f0.f0), .int .i64 ((rd_T43 x0_1 x6_1).f0.f1), .int .i64 ((rd_T43 x0_1 x6_1).f1)], .pointer A1_0] rfl (by (try simp only [List.map_toArray, List.map_cons, List.map_nil]); first | done | rfl | (simp only [List.length_drop, List.length_take]; rfl)) ?_; (with_reducible refine (impl_isRedundant_1.calls ((rd_T43 x0_1 x6_1).f0.f0) ((rd_T43 x0_1 x6_1).f0.f1) ((rd_T43 x0_1 x6_1).f1) _ l1_0 false _ ?side1 A11.out).mono ?_); (case side1 => exact Kd.C_kept_now HR1_0.out (by repeat (first | (with_reducible first | exact HK.out | apply Kept.alloc | apply Kept.drewN | apply Kept.drew | refine Kept.setCell ?_ (.inr GW273.out) _) | exact HK.out))); rintro e w21 ⟨rfl, hb⟩; refine ⟨_, rfl, ?_⟩; replace HO_0 := Aside0.mk (Kd.R_below (by (with_reducible repeat (first | apply Kd.R_alloc | apply Kd.R_drewN | apply Kd.R_drew)); exact (Kd.R_mono (Kd.R_far (p := ⟨gb273, 2, none⟩) (Kd.R_far (p := ⟨gb273, 1, none⟩) (Kd.R_far (p := ⟨gb273, 0, none⟩) (Kd.R_mono HO_0.out (fun k_ hk => (⟨hk, hk.2⟩ : _ ∧ k_ ≠ gb273))) (fun _ hk => hk.2) (.int .i64 ((rd_T43 x0_1 x6_1).f0.f0))) (fun _ hk => hk.2) (.int .i64 ((rd_T43 x0_1 x6_1).f0.f1))) (fun _ hk => hk.2) (.int .i64 ((rd_T43 x0_1 x6_1).f1))) (fun _ h_ => h_.1))) hb); replace BK273 := Aside0.mk (blk_below (g := gb273) (o := .cells #[.int .i64 ((rd_T43 x0_1 x6_1).f0.f0), .int .i64 ((rd_T43 x0_1 x6_1).f0.f1), .int .i64 ((rd_T43 x0_1 x6_1).f1)] 43 (0, 0)) (by (with_reducible repeat (first | refine blk_drewN ?_ _ | refine blk_drew ?_ | refine blk_alloc ?_ _)); refine blk_put (cs := #[.int .i64 ((rd_T43 x0_1 x6_1).f0.f0), .int .i64 ((rd_T43 x0_1 x6_1).f0.f1), .int .i64 0]) ?_ 2 _ rfl; (with_reducible repeat (first | refine blk_drewN ?_ _ | refine blk_drew ?_ | refine blk_alloc ?_ _)); refine blk_put (cs := #[.int .i64 ((rd_T43 x0_1 x6_1).f0.f0), .int .i64 0, .int .i64 0]) ?_ 1 _ rfl; (with_reducible repeat (first | refine blk_drewN ?_ _ | refine blk_drew ?_ | refine blk_alloc ?_ _)); refine blk_put (cs := #[.int .i64 0, .int .i64 0, .int .i64 0]) ?_ 0 _ rfl; (with_reducible repeat (first | refine blk_drewN ?_ _ | refine blk_drew ?_ | refine blk_alloc ?_ _)); exact BK273.out) hb); replace HK := Aside0.mk (Kept.below (S := (fun k_ => P0_ k_)) (by repeat (first | (with_reducible first | exact HK.out | apply Kept.alloc | apply Kept.drewN | apply Kept.drew | refine Kept.setCell ?_ (.inr GW273.out) _) | exact HK.out)) hb); replace HB := Aside0.mk (bt_ HB hb); (try clear hb); (try clear hb2); (try clear hk); (try clear hi); have hcz22_0 := cz_ BK273 0 (.int .i64 ((rd_T43 x0_1 x6_1).f0.f0)); have hcz22_1 := cz_ BK273 1 (.int .i64 ((rd_T43 x0_1 x6_1).f0.f1)); have hcz22_2 := cz_ BK273 2 (.int .i64 ((rd_T43 x0_1 x6_1).f1)); have hfz22_0 := blk_frozen BK273.out 0; have hfz22_1 := blk_frozen BK273.out 1; have hfz22_2 := blk_frozen BK273.out 2; have p18 : 0 ≤ (x5_1 : Int) := of_decide_eq_true (by first | (with_reducible assumption) | assumption); have q18 : (x5_1 : Int) < ((x0_1.length : Int) : Int) := of_decide_eq_true (by first | (with_reducible assumption) | assumption); obtain ⟨go18, co18, eo18, gb18, gl18, cl18, HG18⟩ := Kd.R_form HO_0.out (by omega); (first | cases eo18 | (injection eo18 with ea_ en_ ec_; (first | subst ea_ | (injection ea_ with ea_; subst ea_)); subst ec_; clear en_)); have GB18 := Aside0.mk gb18; have GG18 := Aside0.mk HG18; clear gb18 gl18 HG18; have HMgo18 := Aside0.mk (show (P0_ go18 ∨ w.heap.size ≤ go18) from (HO_0.out.1 _ rfl).1); (first | simp only [add_plain] at hx272_0 | skip); (first | simp only [add_plain] at hx272_1 | skip); (first | simp only [add_plain] at hx272_2 | skip); obtain ⟨ce18, hcl18, hM18, hcc18, hfr18⟩ := Kd.R_elem HO_0.out z43 (x5_1 : Int) p18 q18; obtain rfl := k43_openM hM18; have hx18_0 : w21.cell? ⟨go18, (x5_1 : Int).toNat * 3, none⟩ = some (.int .i64 ((rd_T43 x0_1 x5_1).f0.f0)) := hcc18 0 _ rfl; have hx18_1 : w21.cell? ⟨go18, (x5_1 : Int).toNat * 3 + 1, none⟩ = some (.int .i64 ((rd_T43 x0_1 x5_1).f0.f1)) := hcc18 1 _ rfl; have hx18_2 : w21.cell? ⟨go18, (x5_1 : Int).toNat * 3 + 2, none⟩ = some (.int .i64 ((rd_T43 x0_1 x5_1).f1)) := hcc18 2 _ rfl; have hf18_0 : w21.frozen? ⟨go18, (x5_1 : Int).toNat * 3, none⟩ = false := hfr18 0; have hf18_1 : w21.frozen? ⟨go18, (x5_1 : Int).toNat * 3 + 1, none⟩ = false := hfr18 1; have hf18_2 : w21.frozen? ⟨go18, (x5_1 : Int).toNat * 3 + 2, none⟩ = false := hfr18 2; clear hcl18 hcc18 hfr18 hM18; replace p18 := eq_true p18; replace q18 := eq_true q18; have HX23 := Aside0.mk (show Kd.R k43 43 w21 w0.heap.size (fun k_ => (P0_ k_ ∨ w.heap.size ≤ k_) ∧ k_ ≠ gb273) (.slice (some ⟨go18, 0, none⟩) x0_1.length co7) x0_1 from (hd_ HO_0)); obtain ⟨ce23, hcl23, hM23, hcc23, hfr23⟩ := Kd.R_elem HX23.out z43 (x5_1 : Int) (of_decide_eq_true (by first | (with_reducible assumption) | assumption)) (by have h_ : (x5_1 : Int) < ((x0_1.length : Int) : Int) := of_decide_eq_true (by first | (with_reducible assumption) | assumption); first | exact h_ | (have e_ := (Kd.R_reads' HO_0.out).1; omega) | simpa using h_); obtain rfl := k43_openM hM23; have HP23 := Kd.R_seg HX23.out (x5_1 : Int) (of_decide_eq_true (by first | (with_reducible assumption) | assumption)) (by have h_ : (x5_1 : Int) < ((x0_1.length : Int) : Int) := of_decide_eq_true (by first | (with_reducible assumption) | assumption); first | exact h_ | (have e_ := (Kd.R_reads' HO_0.out).1; omega) | simpa using h_) (seg := [.int .i64 ((rd_T43 x0_1 x6_1).f0.f0), .int .i64 ((rd_T43 x0_1 x6_1).f0.f1), .int .i64 ((rd_T43 x0_1 x6_1).f1)]) (j := 0) hcl23 hcc23 (show 3 ≤ 3 from by decide) (x' := (⟨(⟨(rd_T43 x0_1 x6_1).f0.f0, (rd_T43 x0_1 x6_1).f0.f1⟩ : S34), (rd_T43 x0_1 x6_1).f1⟩ : S43)) (k43_mkM _ _ _ (⟨(⟨(rd_T43 x0_1 x6_1).f0.f0, (rd_T43 x0_1 x6_1).f0.f1⟩ : S34), (rd_T43 x0_1 x6_1).f1⟩ : S43) ) (fun _ hk => hk); have hx23_0 := hcc23 0 _ rfl; (try simp only [show (k43).sz = 3 from rfl, Nat.mul_one, Nat.add_zero] at hx23_0); have hf23_0 := hfr23 0; (try simp only [show (k43).sz = 3 from rfl, Nat.mul_one, Nat.add_zero] at hf23_0); have hx23_1 := hcc23 1 _ rfl; (try simp only [show (k43).sz = 3 from rfl, Nat.mul_one, Nat.add_zero] at hx23_1); have hf23_1 := hfr23 1; (try simp only [show (k43).sz = 3 from rfl, Nat.mul_one, Nat.add_zero] at hf23_1); have hx23_2 := hcc23 2 _ rfl; (try simp only [show (k43).sz = 3 from rfl, Nat.mul_one, Nat.add_zero] at hx23_2); have hf23_2 := hfr23 2; (try simp only [show (k43).sz = 3 from rfl, Nat.mul_one, Nat.add_zero] at hf23_2); clear hcl23 hcc23 hfr23 hM23) | ((with_reducible refine gate_store (t := 43) (p := 33) rfl ?_); refine store_event (t := 43) (p := 33) (v := ?vo_w24) (w1 := (((w21.setCell ⟨go18, (x5_1 : Int).toNat * 3, none⟩ (.int .i64 ((rd_T43 x0_1 x6_1).f0.f0))).setCell ⟨go18, (x5_1 : Int).toNat * 3 + 1, none⟩ (.int .i64 ((rd_T43 x0_1 x6_1).f0.f1))).setCell ⟨go18, (x5_1 : Int).toNat * 3 + 2, none⟩ (.int .i64 ((rd_T43 x0_1 x6_1).f1)))) ?hg ?ho ?hn ?hr ?_; (case ho => rfl); (case hg => rfl); (case hn => rfl); (case hr => first | (go_simp; done) | (go_simp; rfl)); intro w24 hw; have hg : w21.grownBy w24 (some go18) := (by rw [hw]; exact HP23.2); have hp_ : Kd.R k43 43 w24 w0.heap.size (fun k_ => (P0_ k_ ∨ w.heap.size ≤ k_) ∧ k_ ≠ gb273) (.slice (some ⟨go18, 0, none⟩) x0_1.length co7) y275 := (by rw [hw, Ny275.out]; exact HP23.1); clear HP23; replace BK273 := Aside0.mk (blk_grown (g := gb273) (o := .cells #[.int .i64 ((rd_T43 x0_1 x6_1).f0.f0), .int .i64 ((rd_T43 x0_1 x6_1).f0.f1), .int .i64 ((rd_T43 x0_1 x6_1).f1)] 43 (0, 0)) (by (with_reducible repeat (first | refine blk_drewN ?_ _ | refine blk_drew ?_ | refine blk_alloc ?_ _)); exact BK273.out) hg (Kd.R_away HO_0.out (fun _ hk => hk.2))); replace HB := Aside0.mk ((by rw [hw]; exact below_set (below_set (below_set (HB.out) GB18.out) GB18.out) GB18.out : Below w0.heap.size w0 w24)); replace HK := Aside0.mk (Kept.of_grown (S := (fun k_ => P0_ k_)) hg (by repeat (first | (with_reducible first | exact HK.out | apply Kept.alloc | apply Kept.drewN | apply Kept.drew | refine Kept.setCell ?_ (.inr GW273.out) _) | exact HK.out)) (fun k_ e_ => (HO_0.out.1 k_ e_).1)); replace HO_0 := Aside0.mk (hp_); clear hg hw hp_))
   (try simp only [← hl0_1])
   go_roundg k1
   case measure => have := HK1.out; omega
   case rel => exact ⟨(y275), (wrap64 (x5_1 + 1)), (wrap64 (x6_1 + 1)), (by first | rfl | (simp; done) | (simp [*]; done)), (by first | rfl | (simp; done) | (simp [*]; done)), H', ⟨by have := HK1.out; omega⟩, ⟨by (try simp only [hl0_1]); (with_reducible repeat (first | apply Kd.R_alloc | apply Kd.R_drewN | apply Kd.R_drew)); exact Kd.R_mono HO_0.out (fun _ hk => hk.1)⟩, ⟨by repeat (first | (with_reducible first | exact HK.out | apply Kept.alloc | apply Kept.drewN | apply Kept.drew | refine Kept.setCell ?_ (.inr GW273.out) _) | exact HK.out)⟩, ⟨by repeat (first | (with_reducible first | exact HB.out | apply below_alloc | apply pw_below_drewN | apply below_drew1 | refine below_set ?_ GE273.out) | exact HB.out)⟩⟩

/-! ### impl_best: function 65 -/
def impl_best.l0 : Nat → Int → Bool → List (S43) → Int → Int → Int → Int → Int → Option (Int × Int × Int × Bool)
 | 0, _, _, _, _, _, _, _, _ => none
 | k + 1, x1, x7, x11, x12, x13, x286000, x286001, x286002 => if x13 < x12 then (if 0 ≤ x13 then (if x13 < (x11.length : Int) then ((impl_Prefix_has.f ((rd_T43 x11 x13).f0.f0) ((rd_T43 x11 x13).f0.f1) x1).bind fun t288 => (if t288 = true then (if x7 = true then (if ((rd_T43 x11 x13).f0.f1) > x286001 then (impl_best.l0 k x1 true x11 x12 (wrap64 (x13 + 1)) ((rd_T43 x11 x13).f0.f0) ((rd_T43 x11 x13).f0.f1) ((rd_T43 x11 x13).f1)) else (impl_best.l0 k x1 x7 x11 x12 (wrap64 (x13 + 1)) x286000 x286001 x286002)) else (impl_best.l0 k x1 true x11 x12 (wrap64 (x13 + 1)) ((rd_T43 x11 x13).f0.f0) ((rd_T43 x11 x13).f0.f1) ((rd_T43 x11 x13).f1))) else (impl_best.l0 k x1 x7 x11 x12 (wrap64 (x13 + 1)) x286000 x286001 x286002))) else (none)) else (none)) else (some (x286000, x286001, x286002, x7))
def impl_best.f (k : Nat) (l0 : List (S43)) (a1 : Int) : Option (Int × Int × Int × Bool) := impl_best.l0 k a1 false l0 (l0.length : Int) 0 0 0 0
theorem impl_best.mono_l : ∀ k, (∀ y0 y1 y2 y3 y4 y5 y6 y7, LeO (impl_best.l0 k y0 y1 y2 y3 y4 y5 y6 y7) (impl_best.l0 (k + 1) y0 y1 y2 y3 y4 y5 y6 y7))
 | 0 => fun _ _ _ _ _ _ _ _ r h => by simp [impl_best.l0] at h
 | k + 1 => by
  have ih0 := impl_best.mono_l k
  ·intro y0 y1 y2 y3 y4 y5 y6 y7
   unfold impl_best.l0
   repeat' first
   | (with_reducible exact ih0 _ _ _ _ _ _ _ _)
   | (with_reducible exact LeO.refl _)
   | (with_reducible exact LeO.none _)
   | (with_reducible refine LeO.ite ?_ ?_)
   | (with_reducible refine LeO.bind ?_ (fun _ => ?_))
   | exact ih0 _ _ _ _ _ _ _ _
   | exact LeO.none _
   | refine LeO.ite ?_ ?_
   | refine LeO.bind ?_ (fun _ => ?_)
theorem impl_best.mono : ∀ a0 a1 k, LeO (impl_best.f k a0 a1) (impl_best.f (k + 1) a0 a1) := by
 intro a0 a1 k
 have ih0 := impl_best.mono_l k
 unfold impl_best.f
 repeat' first
   | (with_reducible exact ih0 _ _ _ _ _ _ _ _)
   | (with_reducible exact LeO.refl _)
   | (with_reducible exact LeO.none _)
   | (with_reducible refine LeO.ite ?_ ?_)
   | (with_reducible refine LeO.bind ?_ (fun _ => ?_))
   | exact ih0 _ _ _ _ _ _ _ _
   | exact LeO.none _
   | refine LeO.ite ?_ ?_
   | refine LeO.bind ?_ (fun _ => ?_)
set_option maxHeartbeats 8000000 in
set_option maxRecDepth 100000 in
theorem impl_best.calls (k : Nat) (A0 : Option Addr) (c0 : Nat) (l0 : List (S43)) (a1 : Int) (r1 : Int) (r2 : Int) (r3 : Int) (r4 : Bool) (w : World) (hr0 : Kd.C k43 w A0 l0.length l0) (hc0 : l0.length ≤ c0) (h : impl_best.f k l0 a1 = some (r1, r2, r3, r4)) :
  Calls Try.prog 65 #[.slice A0 l0.length c0, .int .i64 a1] w fun e w' => e = .returned (.tuple #[.agg #[.int .i64 r1, .int .i64 r2, .int .i64 r3], .bool r4]) ∧ Below w.heap.size w w' := by
 have hu43 := Try.underlying43
 have hu34 := Try.underlying34
 have HR0 := Aside0.mk hr0
 have HC0 := Aside0.mk hc0
 clear hr0 hc0
 have HB := Aside0.mk (Below.refl w.heap.size w)
 have H : (impl_best.l0 k a1 false l0 (l0.length : Int) 0 0 0 0) = some (r1, r2, r3, r4) := h
 clear h
 have H' := Aside0.mk H
 clear H
 go_enter Try.func65, Try.ntmps65
 go_wp2_with (first | ((with_reducible refine gate_dst (N := 4) rfl ?_); refine box_event ?hg (N := 4) ?hd (cs := #[.int .i64 0, .int .i64 0, .int .i64 0]) (t := 43) ?hr ?_; (case hd => rfl); (case hg => rfl); (case hr => first | (go_simp; done) | (go_simp; rfl)); intro gb284 hg w3 hbox hb; have BK284 := Aside0.mk hbox; have GW284 := ge_ HB hg; have GE284 := ge_ HB hg; replace HB := Aside0.mk (bt_ HB hb); clear hb hbox hg) | ((with_reducible refine gate_dst (N := 6) rfl ?_); refine box_event ?hg (N := 6) ?hd (cs := #[.int .i64 0, .int .i64 0, .int .i64 0]) (t := 43) ?hr ?_; (case hd => rfl); (case hg => rfl); (case hr => first | (go_simp; done) | (go_simp; rfl)); intro gb285 hg w4 hbox hb; have BK285 := Aside0.mk hbox; have GW285 := ge_ HB hg; have GE285 := ge_ HB hg; have NB284_285 := nl_ BK284 hg; have NB285_284 := ng_ BK284 hg; replace HB := Aside0.mk (bt_ HB hb); replace BK284 := Aside0.mk (bb_ BK284 hb); clear hb hbox hg; have hnb5 := NB285_284.out; have hnc5 := NB284_285.out; have hcz6_0 := cz_ BK285 0 (.int .i64 0); have hcz6_1 := cz_ BK285 1 (.int .i64 0); have hcz6_2 := cz_ BK285 2 (.int .i64 0); have hfz6_0 := blk_frozen BK285.out 0; have hfz6_1 := blk_frozen BK285.out 1; have hfz6_2 := blk_frozen BK285.out 2))
 go_loopg [7, 13] k (fun kq v7 v13 w' => ∃ (x7_1 : Bool) (x13_1 : Int) (x286000_1 : Int) (x286001_1 : Int) (x286002_1 : Int), v7 = .bool x7_1 ∧ v13 = .int .i64 x13_1 ∧ Aside0 (impl_best.l0 kq a1 x7_1 l0 (l0.length : Int) x13_1 x286000_1 x286001_1 x286002_1 = some (r1, r2, r3, r4)) ∧ Aside0 (kq ≤ k) ∧ Aside0 (w'.heap[gb284]? = some (.cells #[.int .i64 0, .int .i64 0, .int .i64 0] 43 (0, 0))) ∧ Aside0 (w'.heap[gb285]? = some (.cells #[.int .i64 x286000_1, .int .i64 x286001_1, .int .i64 x286002_1] 43 (0, 0))) ∧ Aside0 (Below w.heap.size w w'))
 case atStart => exact ⟨(false), (0), (0), (0), (0), (by first | rfl | (simp; done) | (simp [*]; done)), (by first | rfl | (simp; done) | (simp [*]; done)), H', ⟨Nat.le_refl _⟩, ⟨by (with_reducible repeat (first | refine blk_drewN ?_ _ | refine blk_drew ?_ | refine blk_alloc ?_ _)); refine blk_far ?_ NB284_285.out _; (with_reducible repeat (first | refine blk_drewN ?_ _ | refine blk_drew ?_ | refine blk_alloc ?_ _)); refine blk_far ?_ NB284_285.out _; (with_reducible repeat (first | refine blk_drewN ?_ _ | refine blk_drew ?_ | refine blk_alloc ?_ _)); refine blk_far ?_ NB284_285.out _; (with_reducible repeat (first | refine blk_drewN ?_ _ | refine blk_drew ?_ | refine blk_alloc ?_ _)); exact BK284.out⟩, ⟨by (with_reducible repeat (first | refine blk_drewN ?_ _ | refine blk_drew ?_ | refine blk_alloc ?_ _)); refine blk_put (cs := #[.int .i64 0, .int .i64 0, .int .i64 0]) ?_ 2 _ rfl; (with_reducible repeat (first | refine blk_drewN ?_ _ | refine blk_drew ?_ | refine blk_alloc ?_ _)); refine blk_put (cs := #[.int .i64 0, .int .i64 0, .int .i64 0]) ?_ 1 _ rfl; (with_reducible repeat (first | refine blk_drewN ?_ _ | refine blk_drew ?_ | refine blk_alloc ?_ _)); refine blk_put (cs := #[.int .i64 0, .int .i64 0, .int .i64 0]) ?_ 0 _ rfl; (with_reducible repeat (first | refine blk_drewN ?_ _ | refine blk_drew ?_ | refine blk_alloc ?_ _)); exact BK285.out⟩, ⟨by repeat (first | (with_reducible first | exact HB.out | apply below_alloc | apply pw_below_drewN | apply below_drew1 | refine below_set ?_ GE284.out | refine below_set ?_ GE285.out) | exact HB.out)⟩⟩
 case round =>
  clear H'
  try clear p2
  try clear c5
  try clear c6
  try clear hcz6_0
  try clear hcz6_1
  try clear hcz6_2
  try clear hfz6_0
  try clear hfz6_1
  try clear hfz6_2
  obtain ⟨x7_1, x13_1, x286000_1, x286001_1, x286002_1, rfl, rfl, HA, HK1, BK284, BK285, HB⟩ := hrel
  cases gk with
  | zero => exact absurd HA.out (by simp [impl_best.l0])
  | succ k1 =>
   have H := HA.out
   clear HA
   simp only [impl_best.l0] at H
   by_cases c7 : x13_1 < (l0.length : Int)
   rotate_left
   ·rw [if_neg c7] at H
    have c7b0 : decide (x13_1 < (l0.length : Int)) = false := decide_eq_false c7
    clear c7
    simp only [Option.some.injEq, Prod.mk.injEq] at H
    obtain ⟨rfl, rfl, rfl, rfl⟩ := H
    have hnb43 := NB285_284.out
    have hnc43 := NB284_285.out
    have hcz44_0 := cz_ BK285 0 (.int .i64 x286000_1)
    have hcz44_1 := cz_ BK285 1 (.int .i64 x286001_1)
    have hcz44_2 := cz_ BK285 2 (.int .i64 x286002_1)
    have hfz44_0 := blk_frozen BK285.out 0
    have hfz44_1 := blk_frozen BK285.out 1
    have hfz44_2 := blk_frozen BK285.out 2
    have hcz45_0 := cz_ BK284 0 (.int .i64 0)
    have hcz45_1 := cz_ BK284 1 (.int .i64 0)
    have hcz45_2 := cz_ BK284 2 (.int .i64 0)
    have hfz45_0 := blk_frozen BK284.out 0
    have hfz45_1 := blk_frozen BK284.out 1
    have hfz45_2 := blk_frozen BK284.out 2
    go_wp2
    refine bodyPost_ret (results_ct rfl _ _ gb284 43 #[.int .i64 x286000_1, .int .i64 x286001_1, .int .i64 x286002_1] (0, 0) _ rfl (by (with_reducible repeat (first | refine blk_drewN ?_ _ | refine blk_drew ?_ | refine blk_alloc ?_ _)); refine blk_put (cs := #[.int .i64 x286000_1, .int .i64 x286001_1, .int .i64 0]) ?_ 2 _ rfl; (with_reducible repeat (first | refine blk_drewN ?_ _ | refine blk_drew ?_ | refine blk_alloc ?_ _)); refine blk_put (cs := #[.int .i64 x286000_1, .int .i64 0, .int .i64 0]) ?_ 1 _ rfl; (with_reducible repeat (first | refine blk_drewN ?_ _ | refine blk_drew ?_ | refine blk_alloc ?_ _)); refine blk_put (cs := #[.int .i64 0, .int .i64 0, .int .i64 0]) ?_ 0 _ rfl; (with_reducible repeat (first | refine blk_drewN ?_ _ | refine blk_drew ?_ | refine blk_alloc ?_ _)); exact BK284.out) Try.underlying43 rfl (by kernel_rfl)) rfl ?_
    exact ⟨by first | rfl | (simp [errW_none, errW_some] <;> rfl) | (simp [*, errW_none, errW_some] <;> rfl), by repeat (first | (with_reducible first | exact HB.out | apply below_alloc | apply pw_below_drewN | apply below_drew1 | refine below_set ?_ GE284.out | refine below_set ?_ GE285.out) | exact HB.out)⟩
   rw [if_pos c7] at H
   have c7b0 : decide (x13_1 < (l0.length : Int)) = true := decide_eq_true c7
   clear c7
   by_cases c8 : 0 ≤ x13_1
   rotate_left
   ·rw [if_neg c8] at H
    exact absurd H (by simp)
   rw [if_pos c8] at H
   have c8b0 : decide (0 ≤ x13_1) = true := decide_eq_true c8
   clear c8
   by_cases c9 : x13_1 < (l0.length : Int)
   rotate_left
   ·rw [if_neg c9] at H
    exact absurd H (by simp)
   rw [if_pos c9] at H
   have c9b0 : decide (x13_1 < (l0.length : Int)) = true := decide_eq_true c9
   clear c9
   replace H := Option.bind_eq_some_iff.mp H
   obtain ⟨t288, A100, H⟩ := H
   have A10 := Aside0.mk A100
   clear A100
   by_cases c11 : t288 = true
   rotate_left
   ·replace c11 := Bool.eq_false_iff.mpr c11
    subst c11
    rw [if_neg (show ¬ (false = true) by decide)] at H
    have H' := Aside0.mk H
    clear H
    have p286 : 0 ≤ (x13_1 : Int) := of_decide_eq_true (by first | (with_reducible assumption) | assumption)
    have q286 : x13_1 < (l0.length : Int) := of_decide_eq_true (by first | (with_reducible assumption) | assumption)
    obtain ⟨ad286, e286, hx286_0, hx286_1, hx286_2⟩ := at_T43 HR0.out x13_1 p286 q286
    cases e286
    replace hx286_0 := (HB.out.cell (World.block_lt_of_cell? w _ hx286_0)).trans hx286_0
    replace hx286_1 := (HB.out.cell (World.block_lt_of_cell? w _ hx286_1)).trans hx286_1
    replace hx286_2 := (HB.out.cell (World.block_lt_of_cell? w _ hx286_2)).trans hx286_2
    replace p286 := eq_true p286
    replace q286 := eq_true q286
    go_wp2_with (first | ((with_reducible refine gate_dst (N := 9) rfl ?_); refine box_event ?hg (N := 9) ?hd (cs := #[.int .i64 0, .int .i64 0, .int .i64 0]) (t := 43) ?hr ?_; (case hd => rfl); (case hg => rfl); (case hr => first | (go_simp; done) | (go_simp; rfl)); intro gb287 hg w38 hbox hb; have BK287 := Aside0.mk hbox; have GW287 := ge_ HB hg; have GE287 := ge_ HB hg; have NB284_287 := nl_ BK284 hg; have NB287_284 := ng_ BK284 hg; have NB285_287 := nl_ BK285 hg; have NB287_285 := ng_ BK285 hg; replace HB := Aside0.mk (bt_ HB hb); replace BK284 := Aside0.mk (bb_ BK284 hb); replace BK285 := Aside0.mk (bb_ BK285 hb); clear hb hbox hg; have hnb39 := NB287_284.out; have hnc39 := NB284_287.out; have hnb40 := NB287_285.out; have hnc40 := NB285_287.out; have hcz41_0 := cz_ BK287 0 (.int .i64 0); have hcz41_1 := cz_ BK287 1 (.int .i64 0); have hcz41_2 := cz_ BK287 2 (.int .i64 0); have hfz41_0 := blk_frozen BK287.out 0; have hfz41_1 := blk_frozen BK287.out 1; have hfz41_2 := blk_frozen BK287.out 2) | ((with_reducible refine gate_callee (f := 70) rfl ?_); refine gl_ (some 20) Try.func70 #[.agg #[.int .i64 ((rd_T43 l0 x13_1).f0.f0), .int .i64 ((rd_T43 l0 x13_1).f0.f1)], .int .i64 a1] ?_; (with_reducible refine (impl_Prefix_has.calls ((rd_T43 l0 x13_1).f0.f0) ((rd_T43 l0 x13_1).f0.f1) a1 false _ A10.out).mono ?_); rintro e w42 ⟨rfl, hb⟩; refine ⟨_, rfl, ?_⟩; replace BK284 := bf_ BK284 NB284_287 hb; replace BK285 := bf_ BK285 NB285_287 hb; replace BK287 := Aside0.mk (blk_below (g := gb287) (o := .cells #[.int .i64 ((rd_T43 l0 x13_1).f0.f0), .int .i64 ((rd_T43 l0 x13_1).f0.f1), .int .i64 ((rd_T43 l0 x13_1).f1)] 43 (0, 0)) (by (with_reducible repeat (first | refine blk_drewN ?_ _ | refine blk_drew ?_ | refine blk_alloc ?_ _)); refine blk_put (cs := #[.int .i64 ((rd_T43 l0 x13_1).f0.f0), .int .i64 ((rd_T43 l0 x13_1).f0.f1), .int .i64 0]) ?_ 2 _ rfl; (with_reducible repeat (first | refine blk_drewN ?_ _ | refine blk_drew ?_ | refine blk_alloc ?_ _)); refine blk_put (cs := #[.int .i64 ((rd_T43 l0 x13_1).f0.f0), .int .i64 0, .int .i64 0]) ?_ 1 _ rfl; (with_reducible repeat (first | refine blk_drewN ?_ _ | refine blk_drew ?_ | refine blk_alloc ?_ _)); refine blk_put (cs := #[.int .i64 0, .int .i64 0, .int .i64 0]) ?_ 0 _ rfl; (with_reducible repeat (first | refine blk_drewN ?_ _ | refine blk_drew ?_ | refine blk_alloc ?_ _)); exact BK287.out) hb); replace HB := Aside0.mk (bt_ HB hb); (try clear hb); (try clear hb2); (try clear hk); (try clear hi)))
    go_roundg k1
    case measure => have := HK1.out; omega
    case rel => exact ⟨(x7_1), (wrap64 (x13_1 + 1)), (x286000_1), (x286001_1), (x286002_1), (by first | rfl | (simp; done) | (simp [*]; done)), (by first | rfl | (simp; done) | (simp [*]; done)), H', ⟨by have := HK1.out; omega⟩, ⟨by (with_reducible repeat (first | refine blk_drewN ?_ _ | refine blk_drew ?_ | refine blk_alloc ?_ _)); exact BK284.out⟩, ⟨by (with_reducible repeat (first | refine blk_drewN ?_ _ | refine blk_drew ?_ | refine blk_alloc ?_ _)); exact BK285.out⟩, ⟨by repeat (first | (with_reducible first | exact HB.out | apply below_alloc | apply pw_below_drewN | apply below_drew1 | refine below_set ?_ GE284.out | refine below_set ?_ GE285.out | refine below_set ?_ GE287.out) | exact HB.out)⟩⟩
   subst c11
   rw [if_pos rfl] at H
   by_cases c12 : x7_1 = true
   rotate_left
   ·replace c12 := Bool.eq_false_iff.mpr c12
    subst c12
    rw [if_neg (show ¬ (false = true) by decide)] at H
    have H' := Aside0.mk H
    clear H
    have p286 : 0 ≤ (x13_1 : Int) := of_decide_eq_true (by first | (with_reducible assumption) | assumption)
    have q286 : x13_1 < (l0.length : Int) := of_decide_eq_true (by first | (with_reducible assumption) | assumption)
    obtain ⟨ad286, e286, hx286_0, hx286_1, hx286_2⟩ := at_T43 HR0.out x13_1 p286 q286
    cases e286
    replace hx286_0 := (HB.out.cell (World.block_lt_of_cell? w _ hx286_0)).trans hx286_0
    replace hx286_1 := (HB.out.cell (World.block_lt_of_cell? w _ hx286_1)).trans hx286_1
    replace hx286_2 := (HB.out.cell (World.block_lt_of_cell? w _ hx286_2)).trans hx286_2
    replace p286 := eq_true p286
    replace q286 := eq_true q286
    go_wp2_with (first | ((with_reducible refine gate_dst (N := 9) rfl ?_); refine box_event ?hg (N := 9) ?hd (cs := #[.int .i64 0, .int .i64 0, .int .i64 0]) (t := 43) ?hr ?_; (case hd => rfl); (case hg => rfl); (case hr => first | (go_simp; done) | (go_simp; rfl)); intro gb287 hg w30 hbox hb; have BK287 := Aside0.mk hbox; have GW287 := ge_ HB hg; have GE287 := ge_ HB hg; have NB284_287 := nl_ BK284 hg; have NB287_284 := ng_ BK284 hg; have NB285_287 := nl_ BK285 hg; have NB287_285 := ng_ BK285 hg; replace HB := Aside0.mk (bt_ HB hb); replace BK284 := Aside0.mk (bb_ BK284 hb); replace BK285 := Aside0.mk (bb_ BK285 hb); clear hb hbox hg; have hnb31 := NB287_284.out; have hnc31 := NB284_287.out; have hnb32 := NB287_285.out; have hnc32 := NB285_287.out; have hcz33_0 := cz_ BK287 0 (.int .i64 0); have hcz33_1 := cz_ BK287 1 (.int .i64 0); have hcz33_2 := cz_ BK287 2 (.int .i64 0); have hfz33_0 := blk_frozen BK287.out 0; have hfz33_1 := blk_frozen BK287.out 1; have hfz33_2 := blk_frozen BK287.out 2) | ((with_reducible refine gate_callee (f := 70) rfl ?_); refine gl_ (some 20) Try.func70 #[.agg #[.int .i64 ((rd_T43 l0 x13_1).f0.f0), .int .i64 ((rd_T43 l0 x13_1).f0.f1)], .int .i64 a1] ?_; (with_reducible refine (impl_Prefix_has.calls ((rd_T43 l0 x13_1).f0.f0) ((rd_T43 l0 x13_1).f0.f1) a1 true _ A10.out).mono ?_); rintro e w34 ⟨rfl, hb⟩; refine ⟨_, rfl, ?_⟩; replace BK284 := bf_ BK284 NB284_287 hb; replace BK285 := bf_ BK285 NB285_287 hb; replace BK287 := Aside0.mk (blk_below (g := gb287) (o := .cells #[.int .i64 ((rd_T43 l0 x13_1).f0.f0), .int .i64 ((rd_T43 l0 x13_1).f0.f1), .int .i64 ((rd_T43 l0 x13_1).f1)] 43 (0, 0)) (by (with_reducible repeat (first | refine blk_drewN ?_ _ | refine blk_drew ?_ | refine blk_alloc ?_ _)); refine blk_put (cs := #[.int .i64 ((rd_T43 l0 x13_1).f0.f0), .int .i64 ((rd_T43 l0 x13_1).f0.f1), .int .i64 0]) ?_ 2 _ rfl; (with_reducible repeat (first | refine blk_drewN ?_ _ | refine blk_drew ?_ | refine blk_alloc ?_ _)); refine blk_put (cs := #[.int .i64 ((rd_T43 l0 x13_1).f0.f0), .int .i64 0, .int .i64 0]) ?_ 1 _ rfl; (with_reducible repeat (first | refine blk_drewN ?_ _ | refine blk_drew ?_ | refine blk_alloc ?_ _)); refine blk_put (cs := #[.int .i64 0, .int .i64 0, .int .i64 0]) ?_ 0 _ rfl; (with_reducible repeat (first | refine blk_drewN ?_ _ | refine blk_drew ?_ | refine blk_alloc ?_ _)); exact BK287.out) hb); replace HB := Aside0.mk (bt_ HB hb); (try clear hb); (try clear hb2); (try clear hk); (try clear hi); have hcz35_0 := cz_ BK287 0 (.int .i64 ((rd_T43 l0 x13_1).f0.f0)); have hcz35_1 := cz_ BK287 1 (.int .i64 ((rd_T43 l0 x13_1).f0.f1)); have hcz35_2 := cz_ BK287 2 (.int .i64 ((rd_T43 l0 x13_1).f1)); have hfz35_0 := blk_frozen BK287.out 0; have hfz35_1 := blk_frozen BK287.out 1; have hfz35_2 := blk_frozen BK287.out 2; have hnb36 := NB285_284.out; have hnc36 := NB284_285.out; have hcz37_0 := cz_ BK285 0 (.int .i64 x286000_1); have hcz37_1 := cz_ BK285 1 (.int .i64 x286001_1); have hcz37_2 := cz_ BK285 2 (.int .i64 x286002_1); have hfz37_0 := blk_frozen BK285.out 0; have hfz37_1 := blk_frozen BK285.out 1; have hfz37_2 := blk_frozen BK285.out 2))
    go_roundg k1
    case measure => have := HK1.out; omega
    case rel => exact ⟨(true), (wrap64 (x13_1 + 1)), ((rd_T43 l0 x13_1).f0.f0), ((rd_T43 l0 x13_1).f0.f1), ((rd_T43 l0 x13_1).f1), (by first | rfl | (simp; done) | (simp [*]; done)), (by first | rfl | (simp; done) | (simp [*]; done)), H', ⟨by have := HK1.out; omega⟩, ⟨by (with_reducible repeat (first | refine blk_drewN ?_ _ | refine blk_drew ?_ | refine blk_alloc ?_ _)); refine blk_far ?_ NB284_285.out _; (with_reducible repeat (first | refine blk_drewN ?_ _ | refine blk_drew ?_ | refine blk_alloc ?_ _)); refine blk_far ?_ NB284_285.out _; (with_reducible repeat (first | refine blk_drewN ?_ _ | refine blk_drew ?_ | refine blk_alloc ?_ _)); refine blk_far ?_ NB284_285.out _; (with_reducible repeat (first | refine blk_drewN ?_ _ | refine blk_drew ?_ | refine blk_alloc ?_ _)); exact BK284.out⟩, ⟨by (with_reducible repeat (first | refine blk_drewN ?_ _ | refine blk_drew ?_ | refine blk_alloc ?_ _)); refine blk_put (cs := #[.int .i64 ((rd_T43 l0 x13_1).f0.f0), .int .i64 ((rd_T43 l0 x13_1).f0.f1), .int .i64 x286002_1]) ?_ 2 _ rfl; (with_reducible repeat (first | refine blk_drewN ?_ _ | refine blk_drew ?_ | refine blk_alloc ?_ _)); refine blk_put (cs := #[.int .i64 ((rd_T43 l0 x13_1).f0.f0), .int .i64 x286001_1, .int .i64 x286002_1]) ?_ 1 _ rfl; (with_reducible repeat (first | refine blk_drewN ?_ _ | refine blk_drew ?_ | refine blk_alloc ?_ _)); refine blk_put (cs := #[.int .i64 x286000_1, .int .i64 x286001_1, .int .i64 x286002_1]) ?_ 0 _ rfl; (with_reducible repeat (first | refine blk_drewN ?_ _ | refine blk_drew ?_ | refine blk_alloc ?_ _)); exact BK285.out⟩, ⟨by repeat (first | (with_reducible first | exact HB.out | apply below_alloc | apply pw_below_drewN | apply below_drew1 | refine below_set ?_ GE284.out | refine below_set ?_ GE285.out | refine below_set ?_ GE287.out) | exact HB.out)⟩⟩
   subst c12
   rw [if_pos rfl] at H
   by_cases c13 : ((rd_T43 l0 x13_1).f0.f1) > x286001_1
   ·rw [if_pos c13] at H
    have c13b0 : decide (x286001_1 < ((rd_T43 l0 x13_1).f0.f1)) = true := decide_eq_true c13
    clear c13
    have H' := Aside0.mk H
    clear H
    have p286 : 0 ≤ (x13_1 : Int) := of_decide_eq_true (by first | (with_reducible assumption) | assumption)
    have q286 : x13_1 < (l0.length : Int) := of_decide_eq_true (by first | (with_reducible assumption) | assumption)
    obtain ⟨ad286, e286, hx286_0, hx286_1, hx286_2⟩ := at_T43 HR0.out x13_1 p286 q286
    cases e286
    replace hx286_0 := (HB.out.cell (World.block_lt_of_cell? w _ hx286_0)).trans hx286_0
    replace hx286_1 := (HB.out.cell (World.block_lt_of_cell? w _ hx286_1)).trans hx286_1
    replace hx286_2 := (HB.out.cell (World.block_lt_of_cell? w _ hx286_2)).trans hx286_2
    replace p286 := eq_true p286
    replace q286 := eq_true q286
    go_wp2_with (first | ((with_reducible refine gate_dst (N := 9) rfl ?_); refine box_event ?hg (N := 9) ?hd (cs := #[.int .i64 0, .int .i64 0, .int .i64 0]) (t := 43) ?hr ?_; (case hd => rfl); (case hg => rfl); (case hr => first | (go_simp; done) | (go_simp; rfl)); intro gb287 hg w14 hbox hb; have BK287 := Aside0.mk hbox; have GW287 := ge_ HB hg; have GE287 := ge_ HB hg; have NB284_287 := nl_ BK284 hg; have NB287_284 := ng_ BK284 hg; have NB285_287 := nl_ BK285 hg; have NB287_285 := ng_ BK285 hg; replace HB := Aside0.mk (bt_ HB hb); replace BK284 := Aside0.mk (bb_ BK284 hb); replace BK285 := Aside0.mk (bb_ BK285 hb); clear hb hbox hg; have hnb15 := NB287_284.out; have hnc15 := NB284_287.out; have hnb16 := NB287_285.out; have hnc16 := NB285_287.out; have hcz17_0 := cz_ BK287 0 (.int .i64 0); have hcz17_1 := cz_ BK287 1 (.int .i64 0); have hcz17_2 := cz_ BK287 2 (.int .i64 0); have hfz17_0 := blk_frozen BK287.out 0; have hfz17_1 := blk_frozen BK287.out 1; have hfz17_2 := blk_frozen BK287.out 2) | ((with_reducible refine gate_callee (f := 70) rfl ?_); refine gl_ (some 20) Try.func70 #[.agg #[.int .i64 ((rd_T43 l0 x13_1).f0.f0), .int .i64 ((rd_T43 l0 x13_1).f0.f1)], .int .i64 a1] ?_; (with_reducible refine (impl_Prefix_has.calls ((rd_T43 l0 x13_1).f0.f0) ((rd_T43 l0 x13_1).f0.f1) a1 true _ A10.out).mono ?_); rintro e w18 ⟨rfl, hb⟩; refine ⟨_, rfl, ?_⟩; replace BK284 := bf_ BK284 NB284_287 hb; replace BK285 := bf_ BK285 NB285_287 hb; replace BK287 := Aside0.mk (blk_below (g := gb287) (o := .cells #[.int .i64 ((rd_T43 l0 x13_1).f0.f0), .int .i64 ((rd_T43 l0 x13_1).f0.f1), .int .i64 ((rd_T43 l0 x13_1).f1)] 43 (0, 0)) (by (with_reducible repeat (first | refine blk_drewN ?_ _ | refine blk_drew ?_ | refine blk_alloc ?_ _)); refine blk_put (cs := #[.int .i64 ((rd_T43 l0 x13_1).f0.f0), .int .i64 ((rd_T43 l0 x13_1).f0.f1), .int .i64 0]) ?_ 2 _ rfl; (with_reducible repeat (first | refine blk_drewN ?_ _ | refine blk_drew ?_ | refine blk_alloc ?_ _)); refine blk_put (cs := #[.int .i64 ((rd_T43 l0 x13_1).f0.f0), .int .i64 0, .int .i64 0]) ?_ 1 _ rfl; (with_reducible repeat (first | refine blk_drewN ?_ _ | refine blk_drew ?_ | refine blk_alloc ?_ _)); refine blk_put (cs := #[.int .i64 0, .int .i64 0, .int .i64 0]) ?_ 0 _ rfl; (with_reducible repeat (first | refine blk_drewN ?_ _ | refine blk_drew ?_ | refine blk_alloc ?_ _)); exact BK287.out) hb); replace HB := Aside0.mk (bt_ HB hb); (try clear hb); (try clear hb2); (try clear hk); (try clear hi); have hcz19_0 := cz_ BK287 0 (.int .i64 ((rd_T43 l0 x13_1).f0.f0)); have hcz19_1 := cz_ BK287 1 (.int .i64 ((rd_T43 l0 x13_1).f0.f1)); have hcz19_2 := cz_ BK287 2 (.int .i64 ((rd_T43 l0 x13_1).f1)); have hfz19_0 := blk_frozen BK287.out 0; have hfz19_1 := blk_frozen BK287.out 1; have hfz19_2 := blk_frozen BK287.out 2; have hnb20 := NB285_284.out; have hnc20 := NB284_285.out; have hcz21_0 := cz_ BK285 0 (.int .i64 x286000_1); have hcz21_1 := cz_ BK285 1 (.int .i64 x286001_1); have hcz21_2 := cz_ BK285 2 (.int .i64 x286002_1); have hfz21_0 := blk_frozen BK285.out 0; have hfz21_1 := blk_frozen BK285.out 1; have hfz21_2 := blk_frozen BK285.out 2))
    go_roundg k1
    case measure => have := HK1.out; omega
    case rel => exact ⟨(true), (wrap64 (x13_1 + 1)), ((rd_T43 l0 x13_1).f0.f0), ((rd_T43 l0 x13_1).f0.f1), ((rd_T43 l0 x13_1).f1), (by first | rfl | (simp; done) | (simp [*]; done)), (by first | rfl | (simp; done) | (simp [*]; done)), H', ⟨by have := HK1.out; omega⟩, ⟨by (with_reducible repeat (first | refine blk_drewN ?_ _ | refine blk_drew ?_ | refine blk_alloc ?_ _)); refine blk_far ?_ NB284_285.out _; (with_reducible repeat (first | refine blk_drewN ?_ _ | refine blk_drew ?_ | refine blk_alloc ?_ _)); refine blk_far ?_ NB284_285.out _; (with_reducible repeat (first | refine blk_drewN ?_ _ | refine blk_drew ?_ | refine blk_alloc ?_ _)); refine blk_far ?_ NB284_285.out _; (with_reducible repeat (first | refine blk_drewN ?_ _ | refine blk_drew ?_ | refine blk_alloc ?_ _)); exact BK284.out⟩, ⟨by (with_reducible repeat (first | refine blk_drewN ?_ _ | refine blk_drew ?_ | refine blk_alloc ?_ _)); refine blk_put (cs := #[.int .i64 ((rd_T43 l0 x13_1).f0.f0), .int .i64 ((rd_T43 l0 x13_1).f0.f1), .int .i64 x286002_1]) ?_ 2 _ rfl; (with_reducible repeat (first | refine blk_drewN ?_ _ | refine blk_drew ?_ | refine blk_alloc ?_ _)); refine blk_put (cs := #[.int .i64 ((rd_T43 l0 x13_1).f0.f0), .int .i64 x286001_1, .int .i64 x286002_1]) ?_ 1 _ rfl; (with_reducible repeat (first | refine blk_drewN ?_ _ | refine blk_drew ?_ | refine blk_alloc ?_ _)); refine blk_put (cs := #[.int .i64 x286000_1, .int .i64 x286001_1, .int .i64 x286002_1]) ?_ 0 _ rfl; (with_reducible repeat (first | refine blk_drewN ?_ _ | refine blk_drew ?_ | refine blk_alloc ?_ _)); exact BK285.out⟩, ⟨by repeat (first | (with_reducible first | exact HB.out | apply below_alloc | apply pw_below_drewN | apply below_drew1 | refine below_set ?_ GE284.out | refine below_set ?_ GE285.out | refine below_set ?_ GE287.out) | exact HB.out)⟩⟩
   rw [if_neg c13] at H
   have c13b0 : decide (x286001_1 < ((rd_T43 l0 x13_1).f0.f1)) = false := decide_eq_false c13
   clear c13
   have H' := Aside0.mk H
   clear H
   have p286 : 0 ≤ (x13_1 : Int) := of_decide_eq_true (by first | (with_reducible assumption) | assumption)
   have q286 : x13_1 < (l0.length : Int) := of_decide_eq_true (by first | (with_reducible assumption) | assumption)
   obtain ⟨ad286, e286, hx286_0, hx286_1, hx286_2⟩ := at_T43 HR0.out x13_1 p286 q286
   cases e286
   replace hx286_0 := (HB.out.cell (World.block_lt_of_cell? w _ hx286_0)).trans hx286_0
   replace hx286_1 := (HB.out.cell (World.block_lt_of_cell? w _ hx286_1)).trans hx286_1
   replace hx286_2 := (HB.out.cell (World.block_lt_of_cell? w _ hx286_2)).trans hx286_2
   replace p286 := eq_true p286
   replace q286 := eq_true q286
   go_wp2_with (first | ((with_reducible refine gate_dst (N := 9) rfl ?_); refine box_event ?hg (N := 9) ?hd (cs := #[.int .i64 0, .int .i64 0, .int .i64 0]) (t := 43) ?hr ?_; (case hd => rfl); (case hg => rfl); (case hr => first | (go_simp; done) | (go_simp; rfl)); intro gb287 hg w22 hbox hb; have BK287 := Aside0.mk hbox; have GW287 := ge_ HB hg; have GE287 := ge_ HB hg; have NB284_287 := nl_ BK284 hg; have NB287_284 := ng_ BK284 hg; have NB285_287 := nl_ BK285 hg; have NB287_285 := ng_ BK285 hg; replace HB := Aside0.mk (bt_ HB hb); replace BK284 := Aside0.mk (bb_ BK284 hb); replace BK285 := Aside0.mk (bb_ BK285 hb); clear hb hbox hg; have hnb23 := NB287_284.out; have hnc23 := NB284_287.out; have hnb24 := NB287_285.out; have hnc24 := NB285_287.out; have hcz25_0 := cz_ BK287 0 (.int .i64 0); have hcz25_1 := cz_ BK287 1 (.int .i64 0); have hcz25_2 := cz_ BK287 2 (.int .i64 0); have hfz25_0 := blk_frozen BK287.out 0; have hfz25_1 := blk_frozen BK287.out 1; have hfz25_2 := blk_frozen BK287.out 2) | ((with_reducible refine gate_callee (f := 70) rfl ?_); refine gl_ (some 20) Try.func70 #[.agg #[.int .i64 ((rd_T43 l0 x13_1).f0.f0), .int .i64 ((rd_T43 l0 x13_1).f0.f1)], .int .i64 a1] ?_; (with_reducible refine (impl_Prefix_has.calls ((rd_T43 l0 x13_1).f0.f0) ((rd_T43 l0 x13_1).f0.f1) a1 true _ A10.out).mono ?_); rintro e w26 ⟨rfl, hb⟩; refine ⟨_, rfl, ?_⟩; replace BK284 := bf_ BK284 NB284_287 hb; replace BK285 := bf_ BK285 NB285_287 hb; replace BK287 := Aside0.mk (blk_below (g := gb287) (o := .cells #[.int .i64 ((rd_T43 l0 x13_1).f0.f0), .int .i64 ((rd_T43 l0 x13_1).f0.f1), .int .i64 ((rd_T43 l0 x13_1).f1)] 43 (0, 0)) (by (with_reducible repeat (first | refine blk_drewN ?_ _ | refine blk_drew ?_ | refine blk_alloc ?_ _)); refine blk_put (cs := #[.int .i64 ((rd_T43 l0 x13_1).f0.f0), .int .i64 ((rd_T43 l0 x13_1).f0.f1), .int .i64 0]) ?_ 2 _ rfl; (with_reducible repeat (first | refine blk_drewN ?_ _ | refine blk_drew ?_ | refine blk_alloc ?_ _)); refine blk_put (cs := #[.int .i64 ((rd_T43 l0 x13_1).f0.f0), .int .i64 0, .int .i64 0]) ?_ 1 _ rfl; (with_reducible repeat (first | refine blk_drewN ?_ _ | refine blk_drew ?_ | refine blk_alloc ?_ _)); refine blk_put (cs := #[.int .i64 0, .int .i64 0, .int .i64 0]) ?_ 0 _ rfl; (with_reducible repeat (first | refine blk_drewN ?_ _ | refine blk_drew ?_ | refine blk_alloc ?_ _)); exact BK287.out) hb); replace HB := Aside0.mk (bt_ HB hb); (try clear hb); (try clear hb2); (try clear hk); (try clear hi); have hcz27_0 := cz_ BK287 0 (.int .i64 ((rd_T43 l0 x13_1).f0.f0)); have hcz27_1 := cz_ BK287 1 (.int .i64 ((rd_T43 l0 x13_1).f0.f1)); have hcz27_2 := cz_ BK287 2 (.int .i64 ((rd_T43 l0 x13_1).f1)); have hfz27_0 := blk_frozen BK287.out 0; have hfz27_1 := blk_frozen BK287.out 1; have hfz27_2 := blk_frozen BK287.out 2; have hnb28 := NB285_284.out; have hnc28 := NB284_285.out; have hcz29_0 := cz_ BK285 0 (.int .i64 x286000_1); have hcz29_1 := cz_ BK285 1 (.int .i64 x286001_1); have hcz29_2 := cz_ BK285 2 (.int .i64 x286002_1); have hfz29_0 := blk_frozen BK285.out 0; have hfz29_1 := blk_frozen BK285.out 1; have hfz29_2 := blk_frozen BK285.out 2))
   go_roundg k1
   case measure => have := HK1.out; omega
   case rel => exact ⟨(true), (wrap64 (x13_1 + 1)), (x286000_1), (x286001_1), (x286002_1), (by first | rfl | (simp; done) | (simp [*]; done)), (by first | rfl | (simp; done) | (simp [*]; done)), H', ⟨by have := HK1.out; omega⟩, ⟨by (with_reducible repeat (first | refine blk_drewN ?_ _ | refine blk_drew ?_ | refine blk_alloc ?_ _)); exact BK284.out⟩, ⟨by (with_reducible repeat (first | refine blk_drewN ?_ _ | refine blk_drew ?_ | refine blk_alloc ?_ _)); exact BK285.out⟩, ⟨by repeat (first | (with_reducible first | exact HB.out | apply below_alloc | apply pw_below_drewN | apply below_drew1 | refine below_set ?_ GE284.out | refine below_set ?_ GE285.out | refine below_set ?_ GE287.out) | exact HB.out)⟩⟩

/-! ### impl_isRedundant: function 41 -/
def impl_isRedundant.f (k : Nat) (l0 : List (S43)) (a1_0 : Int) (a1_1 : Int) (a1_2 : Int) : Option (Bool) := (impl_isUsed.f k l0 a1_0 a1_1 a1_2).bind fun t290 => (if t290 = true then ((slices_Clone_impl_Route_impl_Route.f l0).bind fun t291 => ((slices_DeleteFunc_impl_Route_impl_Route.f k t291 [(⟨(⟨a1_0, a1_1⟩ : S34), a1_2⟩ : S43)]).bind fun t294 => ((impl_best.f k t294 a1_0).bind fun bt297 => (if bt297.2.2.2 = true then (some (bt297.2.2.1 == a1_2)) else (some false))))) else (some true))
theorem impl_isRedundant.mono : ∀ a0 a1 a2 a3 k, LeO (impl_isRedundant.f k a0 a1 a2 a3) (impl_isRedundant.f (k + 1) a0 a1 a2 a3) := by
 intro a0 a1 a2 a3 k
 unfold impl_isRedundant.f
 repeat' first
   | (with_reducible exact impl_best.mono _ _ _)
   | (with_reducible exact impl_isUsed.mono _ _ _ _ _)
   | (with_reducible exact slices_DeleteFunc_impl_Route_impl_Route.mono _ _ _)
   | (with_reducible exact LeO.refl _)
   | (with_reducible exact LeO.none _)
   | (with_reducible refine LeO.ite ?_ ?_)
   | (with_reducible refine LeO.bind ?_ (fun _ => ?_))
   | exact impl_best.mono _ _ _
   | exact impl_isUsed.mono _ _ _ _ _
   | exact slices_DeleteFunc_impl_Route_impl_Route.mono _ _ _
   | exact LeO.none _
   | refine LeO.ite ?_ ?_
   | refine LeO.bind ?_ (fun _ => ?_)
set_option maxHeartbeats 8000000 in
set_option maxRecDepth 100000 in
theorem impl_isRedundant.calls (k : Nat) (A0 : Option Addr) (c0 : Nat) (l0 : List (S43)) (a1_0 : Int) (a1_1 : Int) (a1_2 : Int) (r : Bool) (w : World) (hr0 : Kd.C k43 w A0 l0.length l0) (hc0 : l0.length ≤ c0) (h : impl_isRedundant.f k l0 a1_0 a1_1 a1_2 = some r) :
  Calls Try.prog 41 #[.slice A0 l0.length c0, .agg #[.int .i64 a1_0, .int .i64 a1_1, .int .i64 a1_2]] w fun e w' => e = .returned (.bool r) ∧ Below w.heap.size w w' := by
 have hu43 := Try.underlying43
 have HR0 := Aside0.mk hr0
 have HC0 := Aside0.mk hc0
 clear hr0 hc0
 have HB := Aside0.mk (Below.refl w.heap.size w)
 have H : ((impl_isUsed.f k l0 a1_0 a1_1 a1_2).bind fun t290 => (if t290 = true then ((slices_Clone_impl_Route_impl_Route.f l0).bind fun t291 => ((slices_DeleteFunc_impl_Route_impl_Route.f k t291 [(⟨(⟨a1_0, a1_1⟩ : S34), a1_2⟩ : S43)]).bind fun t294 => ((impl_best.f k t294 a1_0).bind fun bt297 => (if bt297.2.2.2 = true then (some (bt297.2.2.1 == a1_2)) else (some false))))) else (some true))) = some r := h
 clear h
 replace H := Option.bind_eq_some_iff.mp H
 obtain ⟨t290, A30, H⟩ := H
 have A3 := Aside0.mk A30
 clear A30
 by_cases c4 : t290 = true
 rotate_left
 ·replace c4 := Bool.eq_false_iff.mpr c4
  subst c4
  rw [if_neg (show ¬ (false = true) by decide)] at H
  obtain rfl := Option.some.inj H
  go_enter Try.func41, Try.ntmps41
  go_wp2_with (first | ((with_reducible refine gate_dst (N := 3) rfl ?_); refine box_event ?hg (N := 3) ?hd (cs := #[.int .i64 a1_0, .int .i64 a1_1, .int .i64 a1_2]) (t := 43) ?hr ?_; (case hd => rfl); (case hg => rfl); (case hr => first | (go_simp; done) | (go_simp; rfl)); intro gb289 hg w34 hbox hb; have BK289 := Aside0.mk hbox; have GW289 := ge_ HB hg; have GE289 := ge_ HB hg; replace HB := Aside0.mk (bt_ HB hb); clear hb hbox hg; have hcz35_0 := cz_ BK289 0 (.int .i64 a1_0); have hcz35_1 := cz_ BK289 1 (.int .i64 a1_1); have hcz35_2 := cz_ BK289 2 (.int .i64 a1_2); have hfz35_0 := blk_frozen BK289.out 0; have hfz35_1 := blk_frozen BK289.out 1; have hfz35_2 := blk_frozen BK289.out 2) | ((with_reducible refine gate_callee (f := 61) rfl ?_); refine gl_ (some 10) Try.func61 #[.slice A0 l0.length c0, .agg #[.int .i64 a1_0, .int .i64 a1_1, .int .i64 a1_2]] ?_; (with_reducible refine (impl_isUsed.calls k _ _ l0 a1_0 a1_1 a1_2 false _ ?side1 ?side2 A3.out).mono ?_); (case side1 => exact cb_ HR0 HB); (case side2 => exact HC0.out); rintro e w36 ⟨rfl, hb⟩; refine ⟨_, rfl, ?_⟩; replace BK289 := Aside0.mk (bb_ BK289 hb); replace HB := Aside0.mk (bt_ HB hb); (try clear hb); (try clear hb2); (try clear hk); (try clear hi)))
  go_ret
  exact ⟨by first | rfl | (simp [errW_none, errW_some] <;> rfl) | (simp [*, errW_none, errW_some] <;> rfl), by repeat (first | (with_reducible first | exact HB.out | apply below_alloc | apply pw_below_drewN | apply below_drew1 | refine below_set ?_ GE289.out) | exact HB.out)⟩
 subst c4
 rw [if_pos rfl] at H
 replace H := Option.bind_eq_some_iff.mp H
 obtain ⟨t291, A50, H⟩ := H
 have A5 := Aside0.mk A50
 clear A50
 replace H := Option.bind_eq_some_iff.mp H
 obtain ⟨t294, A60, H⟩ := H
 have A6 := Aside0.mk A60
 clear A60
 replace H := Option.bind_eq_some_iff.mp H
 obtain ⟨⟨t297, t298, t299, t300⟩, A70, H⟩ := H
 have A7 := Aside0.mk A70
 clear A70
 by_cases c8 : t300 = true
 ·subst c8
  rw [if_pos rfl] at H
  obtain rfl := Option.some.inj H
  go_enter Try.func41, Try.ntmps41
  go_wp2_with (first | ((with_reducible refine gate_dst (N := 3) rfl ?_); refine box_event ?hg (N := 3) ?hd (cs := #[.int .i64 a1_0, .int .i64 a1_1, .int .i64 a1_2]) (t := 43) ?hr ?_; (case hd => rfl); (case hg => rfl); (case hr => first | (go_simp; done) | (go_simp; rfl)); intro gb289 hg w9 hbox hb; have BK289 := Aside0.mk hbox; have GW289 := ge_ HB hg; have GE289 := ge_ HB hg; replace HB := Aside0.mk (bt_ HB hb); clear hb hbox hg; have hcz10_0 := cz_ BK289 0 (.int .i64 a1_0); have hcz10_1 := cz_ BK289 1 (.int .i64 a1_1); have hcz10_2 := cz_ BK289 2 (.int .i64 a1_2); have hfz10_0 := blk_frozen BK289.out 0; have hfz10_1 := blk_frozen BK289.out 1; have hfz10_2 := blk_frozen BK289.out 2) | ((with_reducible refine gate_callee (f := 61) rfl ?_); refine gl_ (some 10) Try.func61 #[.slice A0 l0.length c0, .agg #[.int .i64 a1_0, .int .i64 a1_1, .int .i64 a1_2]] ?_; (with_reducible refine (impl_isUsed.calls k _ _ l0 a1_0 a1_1 a1_2 true _ ?side1 ?side2 A3.out).mono ?_); (case side1 => exact cb_ HR0 HB); (case side2 => exact HC0.out); rintro e w11 ⟨rfl, hb⟩; refine ⟨_, rfl, ?_⟩; replace BK289 := Aside0.mk (bb_ BK289 hb); replace HB := Aside0.mk (bt_ HB hb); (try clear hb); (try clear hb2); (try clear hk); (try clear hi)) | ((with_reducible refine gate_callee (f := 51) rfl ?_); refine gl_ (some 13) Try.func51 #[.slice A0 l0.length c0] ?_; (with_reducible refine (slices_Clone_impl_Route_impl_Route.calls _ _ l0 t291 _ ?side1 ?side2 A5.out).mono ?_); (case side1 => exact cb_ HR0 HB); (case side2 => exact HC0.out); rintro e w12 ⟨v292, rfl, ho0, hb⟩; refine ⟨_, rfl, ?_⟩; have HO293 := Aside0.mk (Kd.R_lower (Kd.R_newB ho0 (g := gb289) (o := .cells #[.int .i64 a1_0, .int .i64 a1_1, .int .i64 a1_2] 43 (0, 0)) (by (with_reducible repeat (first | refine blk_drewN ?_ _ | refine blk_drew ?_ | refine blk_alloc ?_ _)); exact BK289.out)) (bz_ HB)); replace BK289 := Aside0.mk (bb_ BK289 hb); replace HB := Aside0.mk (bt_ HB hb); (try clear hb); (try clear hb2); (try clear hk); (try clear hi); (try clear ho0); obtain ⟨Ao13, co13, eo13⟩ := Kd.R_slice HO293.out; subst eo13) | ((with_reducible refine gate_callee (f := 62) rfl ?_); refine gl_ (some 15) Try.func62 #[.slice Ao13 t291.length co13, .func (.func 63) #[] #[.pointer (some ⟨gb289, 0, none⟩)]] ?_; (with_reducible refine (slices_DeleteFunc_impl_Route_impl_Route.calls k (fun k_ => some k_ = (.slice Ao13 t291.length co13 : Value).ownBlock) (.slice Ao13 t291.length co13) t291 _ [(⟨(⟨a1_0, a1_1⟩ : S34), a1_2⟩ : S43)] t294 w _ ?side1 ?side2 ?side3 A6.out).mono ?_); (case side1 => exact by_ HB); (case side2 => exact Kd.R_tight rfl HO293.out); (case side3 => exact C_box1_kept (cs := [.int .i64 a1_0, .int .i64 a1_1, .int .i64 a1_2]) (by (with_reducible repeat (first | refine blk_drewN ?_ _ | refine blk_drew ?_ | refine blk_alloc ?_ _)); exact BK289.out) (fun hs_ => (fun e_ => (Kd.R_away HO293.out (fun _ hk => hk.2)) e_) hs_) (fun W_ hk_ => k43_mk _ (⟨(⟨a1_0, a1_1⟩ : S34), a1_2⟩ : S43) )); rintro e w14 ⟨v295, rfl, ho0, hb, hkp⟩; refine ⟨_, rfl, ?_⟩; have HO296 := Aside0.mk (Kd.R_mono (ok' := fun k_ => k_ ≠ gb289) ho0 (fun k_ hk_ => Or.elim hk_ (fun hs_ => fun e_ => (Kd.R_away HO293.out (fun _ hk => hk.2)) (by rw [← e_]; exact hs_)) (fun hn_ => (Kd.freshB (g := gb289) (o := .cells #[.int .i64 a1_0, .int .i64 a1_1, .int .i64 a1_2] 43 (0, 0)) (by (with_reducible repeat (first | refine blk_drewN ?_ _ | refine blk_drew ?_ | refine blk_alloc ?_ _)); exact BK289.out) k_ hn_)))); replace BK289 := bk_ BK289 hkp (fun hs_ => (fun e_ => (Kd.R_away HO293.out (fun _ hk => hk.2)) e_) hs_); replace HB := Aside0.mk (hb); clear HO293; (try clear hb); (try clear hkp); (try clear ho0); have hcz15_0 := cz_ BK289 0 (.int .i64 a1_0); have hcz15_1 := cz_ BK289 1 (.int .i64 a1_1); have hcz15_2 := cz_ BK289 2 (.int .i64 a1_2); have hfz15_0 := blk_frozen BK289.out 0; have hfz15_1 := blk_frozen BK289.out 1; have hfz15_2 := blk_frozen BK289.out 2; obtain ⟨Ao16, co16, eo16⟩ := Kd.R_slice HO296.out; subst eo16) | ((with_reducible refine gate_callee (f := 65) rfl ?_); refine gl_ (some 21) Try.func65 #[.slice Ao16 t294.length co16, .int .i64 a1_0] ?_; (with_reducible refine (impl_best.calls k _ _ t294 a1_0 t297 t298 t299 true _ ?side1 ?side2 A7.out).mono ?_); (case side1 => exact rc_ HO296); (case side2 => exact (Kd.R_reads' HO296.out).2.1); rintro e w17 ⟨rfl, hb⟩; refine ⟨_, rfl, ?_⟩; replace HO296 := rb_ HO296 hb; replace BK289 := Aside0.mk (bb_ BK289 hb); replace HB := Aside0.mk (bt_ HB hb); (try clear hb); (try clear hb2); (try clear hk); (try clear hi)) | ((with_reducible refine gate_dst (N := 6) rfl ?_); refine box_event ?hg (N := 6) ?hd (cs := #[.int .i64 0, .int .i64 0, .int .i64 0]) (t := 43) ?hr ?_; (case hd => rfl); (case hg => rfl); (case hr => first | (go_simp; done) | (go_simp; rfl)); intro gb301 hg w18 hbox hb; have BK301 := Aside0.mk hbox; have GW301 := ge_ HB hg; have GE301 := ge_ HB hg; have NB289_301 := nl_ BK289 hg; have NB301_289 := ng_ BK289 hg; replace HO296 := Aside0.mk (Kd.R_below (Kd.R_elderB (hd_ HO296) gb301 (Nat.le_of_eq hg.symm)) hb); replace HB := Aside0.mk (bt_ HB hb); replace BK289 := Aside0.mk (bb_ BK289 hb); clear hb hbox hg; have hnb19 := NB301_289.out; have hnc19 := NB289_301.out; have hcz20_0 := cz_ BK301 0 (.int .i64 0); have hcz20_1 := cz_ BK301 1 (.int .i64 0); have hcz20_2 := cz_ BK301 2 (.int .i64 0); have hfz20_0 := blk_frozen BK301.out 0; have hfz20_1 := blk_frozen BK301.out 1; have hfz20_2 := blk_frozen BK301.out 2; have hcz21_0 := cz_ BK289 0 (.int .i64 a1_0); have hcz21_1 := cz_ BK289 1 (.int .i64 a1_1); have hcz21_2 := cz_ BK289 2 (.int .i64 a1_2); have hfz21_0 := blk_frozen BK289.out 0; have hfz21_1 := blk_frozen BK289.out 1; have hfz21_2 := blk_frozen BK289.out 2))
  go_ret
  exact ⟨by first | rfl | (simp [errW_none, errW_some] <;> rfl) | (simp [*, errW_none, errW_some] <;> rfl), by repeat (first | (with_reducible first | exact HB.out | apply below_alloc | apply pw_below_drewN | apply below_drew1 | refine below_set ?_ GE289.out | refine below_set ?_ GE301.out) | exact HB.out)⟩
 replace c8 := Bool.eq_false_iff.mpr c8
 subst c8
 rw [if_neg (show ¬ (false = true) by decide)] at H
 obtain rfl := Option.some.inj H
 go_enter Try.func41, Try.ntmps41
 go_wp2_with (first | ((with_reducible refine gate_dst (N := 3) rfl ?_); refine box_event ?hg (N := 3) ?hd (cs := #[.int .i64 a1_0, .int .i64 a1_1, .int .i64 a1_2]) (t := 43) ?hr ?_; (case hd => rfl); (case hg => rfl); (case hr => first | (go_simp; done) | (go_simp; rfl)); intro gb289 hg w22 hbox hb; have BK289 := Aside0.mk hbox; have GW289 := ge_ HB hg; have GE289 := ge_ HB hg; replace HB := Aside0.mk (bt_ HB hb); clear hb hbox hg; have hcz23_0 := cz_ BK289 0 (.int .i64 a1_0); have hcz23_1 := cz_ BK289 1 (.int .i64 a1_1); have hcz23_2 := cz_ BK289 2 (.int .i64 a1_2); have hfz23_0 := blk_frozen BK289.out 0; have hfz23_1 := blk_frozen BK289.out 1; have hfz23_2 := blk_frozen BK289.out 2) | ((with_reducible refine gate_callee (f := 61) rfl ?_); refine gl_ (some 10) Try.func61 #[.slice A0 l0.length c0, .agg #[.int .i64 a1_0, .int .i64 a1_1, .int .i64 a1_2]] ?_; (with_reducible refine (impl_isUsed.calls k _ _ l0 a1_0 a1_1 a1_2 true _ ?side1 ?side2 A3.out).mono ?_); (case side1 => exact cb_ HR0 HB); (case side2 => exact HC0.out); rintro e w24 ⟨rfl, hb⟩; refine ⟨_, rfl, ?_⟩; replace BK289 := Aside0.mk (bb_ BK289 hb); replace HB := Aside0.mk (bt_ HB hb); (try clear hb); (try clear hb2); (try clear hk); (try clear hi)) | ((with_reducible refine gate_callee (f := 51) rfl ?_); refine gl_ (some 13) Try.func51 #[.slice A0 l0.length c0] ?_; (with_reducible refine (slices_Clone_impl_Route_impl_Route.calls _ _ l0 t291 _ ?side1 ?side2 A5.out).mono ?_); (case side1 => exact cb_ HR0 HB); (case side2 => exact HC0.out); rintro e w25 ⟨v292, rfl, ho0, hb⟩; refine ⟨_, rfl, ?_⟩; have HO293 := Aside0.mk (Kd.R_lower (Kd.R_newB ho0 (g := gb289) (o := .cells #[.int .i64 a1_0, .int .i64 a1_1, .int .i64 a1_2] 43 (0, 0)) (by (with_reducible repeat (first | refine blk_drewN ?_ _ | refine blk_drew ?_ | refine blk_alloc ?_ _)); exact BK289.out)) (bz_ HB)); replace BK289 := Aside0.mk (bb_ BK289 hb); replace HB := Aside0.mk (bt_ HB hb); (try clear hb); (try clear hb2); (try clear hk); (try clear hi); (try clear ho0); obtain ⟨Ao26, co26, eo26⟩ := Kd.R_slice HO293.out; subst eo26) | ((with_reducible refine gate_callee (f := 62) rfl ?_); refine gl_ (some 15) Try.func62 #[.slice Ao26 t291.length co26, .func (.func 63) #[] #[.pointer (some ⟨gb289, 0, none⟩)]] ?_; (with_reducible refine (slices_DeleteFunc_impl_Route_impl_Route.calls k (fun k_ => some k_ = (.slice Ao26 t291.length co26 : Value).ownBlock) (.slice Ao26 t291.length co26) t291 _ [(⟨(⟨a1_0, a1_1⟩ : S34), a1_2⟩ : S43)] t294 w _ ?side1 ?side2 ?side3 A6.out).mono ?_); (case side1 => exact by_ HB); (case side2 => exact Kd.R_tight rfl HO293.out); (case side3 => exact C_box1_kept (cs := [.int .i64 a1_0, .int .i64 a1_1, .int .i64 a1_2]) (by (with_reducible repeat (first | refine blk_drewN ?_ _ | refine blk_drew ?_ | refine blk_alloc ?_ _)); exact BK289.out) (fun hs_ => (fun e_ => (Kd.R_away HO293.out (fun _ hk => hk.2)) e_) hs_) (fun W_ hk_ => k43_mk _ (⟨(⟨a1_0, a1_1⟩ : S34), a1_2⟩ : S43) )); rintro e w27 ⟨v295, rfl, ho0, hb, hkp⟩; refine ⟨_, rfl, ?_⟩; have HO296 := Aside0.mk (Kd.R_mono (ok' := fun k_ => k_ ≠ gb289) ho0 (fun k_ hk_ => Or.elim hk_ (fun hs_ => fun e_ => (Kd.R_away HO293.out (fun _ hk => hk.2)) (by rw [← e_]; exact hs_)) (fun hn_ => (Kd.freshB (g := gb289) (o := .cells #[.int .i64 a1_0, .int .i64 a1_1, .int .i64 a1_2] 43 (0, 0)) (by (with_reducible repeat (first | refine blk_drewN ?_ _ | refine blk_drew ?_ | refine blk_alloc ?_ _)); exact BK289.out) k_ hn_)))); replace BK289 := bk_ BK289 hkp (fun hs_ => (fun e_ => (Kd.R_away HO293.out (fun _ hk => hk.2)) e_) hs_); replace HB := Aside0.mk (hb); clear HO293; (try clear hb); (try clear hkp); (try clear ho0); have hcz28_0 := cz_ BK289 0 (.int .i64 a1_0); have hcz28_1 := cz_ BK289 1 (.int .i64 a1_1); have hcz28_2 := cz_ BK289 2 (.int .i64 a1_2); have hfz28_0 := blk_frozen BK289.out 0; have hfz28_1 := blk_frozen BK289.out 1; have hfz28_2 := blk_frozen BK289.out 2; obtain ⟨Ao29, co29, eo29⟩ := Kd.R_slice HO296.out; subst eo29) | ((with_reducible refine gate_callee (f := 65) rfl ?_); refine gl_ (some 21) Try.func65 #[.slice Ao29 t294.length co29, .int .i64 a1_0] ?_; (with_reducible refine (impl_best.calls k _ _ t294 a1_0 t297 t298 t299 false _ ?side1 ?side2 A7.out).mono ?_); (case side1 => exact rc_ HO296); (case side2 => exact (Kd.R_reads' HO296.out).2.1); rintro e w30 ⟨rfl, hb⟩; refine ⟨_, rfl, ?_⟩; replace HO296 := rb_ HO296 hb; replace BK289 := Aside0.mk (bb_ BK289 hb); replace HB := Aside0.mk (bt_ HB hb); (try clear hb); (try clear hb2); (try clear hk); (try clear hi)) | ((with_reducible refine gate_dst (N := 6) rfl ?_); refine box_event ?hg (N := 6) ?hd (cs := #[.int .i64 0, .int .i64 0, .int .i64 0]) (t := 43) ?hr ?_; (case hd => rfl); (case hg => rfl); (case hr => first | (go_simp; done) | (go_simp; rfl)); intro gb301 hg w31 hbox hb; have BK301 := Aside0.mk hbox; have GW301 := ge_ HB hg; have GE301 := ge_ HB hg; have NB289_301 := nl_ BK289 hg; have NB301_289 := ng_ BK289 hg; replace HO296 := Aside0.mk (Kd.R_below (Kd.R_elderB (hd_ HO296) gb301 (Nat.le_of_eq hg.symm)) hb); replace HB := Aside0.mk (bt_ HB hb); replace BK289 := Aside0.mk (bb_ BK289 hb); clear hb hbox hg; have hnb32 := NB301_289.out; have hnc32 := NB289_301.out; have hcz33_0 := cz_ BK301 0 (.int .i64 0); have hcz33_1 := cz_ BK301 1 (.int .i64 0); have hcz33_2 := cz_ BK301 2 (.int .i64 0); have hfz33_0 := blk_frozen BK301.out 0; have hfz33_1 := blk_frozen BK301.out 1; have hfz33_2 := blk_frozen BK301.out 2))
 go_ret
 exact ⟨by first | rfl | (simp [errW_none, errW_some] <;> rfl) | (simp [*, errW_none, errW_some] <;> rfl), by repeat (first | (with_reducible first | exact HB.out | apply below_alloc | apply pw_below_drewN | apply below_drew1 | refine below_set ?_ GE289.out | refine below_set ?_ GE301.out) | exact HB.out)⟩

end Go.Proofs.Ytflfbaofgfandaa.QFnExactSqueeze
