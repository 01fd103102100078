/- Contracts of functions that the law reaches: what each call returns and what it leaves in memory. Made by this session over the print of the kit. -/
import Derived.Test.YtjepmdngbafonaaQFnExactAggregatex0
import Derived.Test.YtjepmdngbafonaaQFnExactAggregatex4
import Derived.Test.YtjepmdngbafonaaQFnExactAggregatex12
import Derived.Test.YtjepmdngbafonaaQFnExactAggregatex13
namespace Go.Proofs.Ytjepmdngbafonaa.QFnExactAggregate
open Go.RowKit Go.Proofs.YtjepmdngbafonaaA.PrintWords Go.Proofs.YtjepmdngbafonaaA.PrintLast Go.Proofs.YtjepmdngbafonaaA.PrintMore
attribute [local go_sem] max2_int min2_int max_two min_two max_three min_three max_four min_four   -- for this text's walks alone
set_option linter.unusedVariables false
set_option linter.unusedSimpArgs false
def ba14_0 : Array Bool := #[false, false, false, false, false, false, false, false, false, false, false, false]
def ba14_1 : Array Bool := #[true, false, false, false, false, false, false, false, false, false, false, false]
def ba14_2 : Array Bool := #[true, true, false, false, false, false, false, false, false, false, false, false]
def ba14_3 : Array Bool := #[true, true, true, false, false, false, false, false, false, false, false, false]
def ba14_4 : Array Bool := #[true, true, true, true, false, false, false, false, false, false, false, false]
def ba14_5 : Array Bool := #[true, true, true, true, true, false, false, false, false, false, false, false]
def ba14_6 : Array Bool := #[true, true, true, true, true, true, false, false, false, false, false, false]
def ba14_7 : Array Bool := #[true, true, true, true, true, true, true, false, false, false, false, false]
def ba14_8 : Array Bool := #[true, true, true, true, true, true, true, true, false, false, false, false]
def ba14_9 : Array Bool := #[true, true, true, true, true, true, true, true, true, false, false, false]
def ba14_10 : Array Bool := #[true, true, true, true, true, true, true, true, true, true, false, false]
def ba14_11 : Array Bool := #[true, true, true, true, true, true, true, true, true, true, true, false]
def ba14_12 : Array Bool := #[true, true, true, true, true, true, true, true, true, true, true, true]
def ba14_13 : Array Bool := #[true, true, true, false, true, false, false, false, false, false, false, false]
def ba14_14 : Array Bool := #[true, true, true, false, true, true, false, false, false, false, false, false]

/-! ### impl_Aggregate: function 31 -/
mutual
def impl_Aggregate.j0 : Nat → List (S28) → Bool → Option ((List (S28)) × Bool)
 | 0, _, _ => none
 | k + 1, x0, x15 => if x15 = true then (some (([] : List (S28)), false)) else ((slices_Clone_impl_Prefix_impl_Prefix.f x0).bind fun t332 => ((slices_SortFunc_impl_Prefix_impl_Prefix.f t332).bind fun t335 => (impl_Aggregate.l0 k t335 (t332.length : Int) 0 (([] : List (S28))))))
def impl_Aggregate.l0 : Nat → List (S28) → Int → Int → List (S28) → Option ((List (S28)) × Bool)
 | 0, _, _, _, _ => none
 | k + 1, x21, x22, x23, x340000 => if x23 < x22 then (if 0 ≤ x23 then (if x23 < (x21.length : Int) then (if (x340000.length : Int) = 0 then (if x340000.length < 8796093022208 then (impl_Aggregate.l0 k x21 x22 (wrap64 (x23 + 1)) (x340000 ++ [(⟨(rd_T28 x21 x23).f0, (rd_T28 x21 x23).f1⟩ : S28)])) else (none)) else (if 0 ≤ (wrap64 ((x340000.length : Int) - 1)) then (if (wrap64 ((x340000.length : Int) - 1)) < (x340000.length : Int) then ((impl_Prefix_covers.f ((rd_T28 x340000 (wrap64 ((x340000.length : Int) - 1))).f0) ((rd_T28 x340000 (wrap64 ((x340000.length : Int) - 1))).f1) ((rd_T28 x21 x23).f0) ((rd_T28 x21 x23).f1)).bind fun t346 => (if t346 = true then (impl_Aggregate.l0 k x21 x22 (wrap64 (x23 + 1)) x340000) else (if x340000.length < 8796093022208 then (impl_Aggregate.l0 k x21 x22 (wrap64 (x23 + 1)) (x340000 ++ [(⟨(rd_T28 x21 x23).f0, (rd_T28 x21 x23).f1⟩ : S28)])) else (none)))) else (none)) else (none))) else (none)) else (none)) else ((impl_shortest.f k 0 0 [x340000] ([] : List (S28))).bind fun t350 => (some (t350, true)))
end
def impl_Aggregate.f (k : Nat) (l0 : List (S28)) : Option ((List (S28)) × Bool) := if (l0.length : Int) > 300 then (impl_Aggregate.j0 k l0 true) else ((slices_ContainsFunc_impl_Prefix_impl_Prefix.f k l0).bind fun t331 => (impl_Aggregate.j0 k l0 t331))
theorem impl_Aggregate.mono_l : ∀ k, (∀ y0 y1, LeO (impl_Aggregate.j0 k y0 y1) (impl_Aggregate.j0 (k + 1) y0 y1)) ∧ (∀ y0 y1 y2 y3, LeO (impl_Aggregate.l0 k y0 y1 y2 y3) (impl_Aggregate.l0 (k + 1) y0 y1 y2 y3))
 | 0 => ⟨fun _ _ r h => by simp [impl_Aggregate.j0] at h, fun _ _ _ _ r h => by simp [impl_Aggregate.l0] at h⟩
 | k + 1 => by
  obtain ⟨ih0, ih1⟩ := impl_Aggregate.mono_l k
  refine ⟨?_, ?_⟩
  ·intro y0 y1
   unfold impl_Aggregate.j0
   repeat' first
   | (with_reducible exact ih0 _ _)
   | (with_reducible exact ih1 _ _ _ _)
   | (with_reducible exact impl_shortest.mono _ _ _ _ _)
   | (with_reducible exact slices_ContainsFunc_impl_Prefix_impl_Prefix.mono _ _)
   | (with_reducible exact LeO.refl _)
   | (with_reducible exact LeO.none _)
   | (with_reducible refine LeO.ite ?_ ?_)
   | (with_reducible refine LeO.bind ?_ (fun _ => ?_))
   | exact ih0 _ _
   | exact ih1 _ _ _ _
   | exact impl_shortest.mono _ _ _ _ _
   | exact slices_ContainsFunc_impl_Prefix_impl_Prefix.mono _ _
   | exact LeO.none _
   | refine LeO.ite ?_ ?_
   | refine LeO.bind ?_ (fun _ => ?_)
  ·intro y0 y1 y2 y3
   unfold impl_Aggregate.l0
   repeat' first
   | (with_reducible exact ih0 _ _)
   | (with_reducible exact ih1 _ _ _ _)
   | (with_reducible exact impl_shortest.mono _ _ _ _ _)
   | (with_reducible exact slices_ContainsFunc_impl_Prefix_impl_Prefix.mono _ _)
   | (with_reducible exact LeO.refl _)
   | (with_reducible exact LeO.none _)
   | (with_reducible refine LeO.ite ?_ ?_)
   | (with_reducible refine LeO.bind ?_ (fun _ => ?_))
   | exact ih0 _ _
   | exact ih1 _ _ _ _
   | exact impl_shortest.mono _ _ _ _ _
   | exact slices_ContainsFunc_impl_Prefix_impl_Prefix.mono _ _
   | exact LeO.none _
   | refine LeO.ite ?_ ?_
   | refine LeO.bind ?_ (fun _ => ?_)
theorem impl_Aggregate.mono : ∀ a0 k, LeO (impl_Aggregate.f k a0) (impl_Aggregate.f (k + 1) a0) := by
 intro a0 k
 obtain ⟨ih0, ih1⟩ := impl_Aggregate.mono_l k
 unfold impl_Aggregate.f
 repeat' first
   | (with_reducible exact ih0 _ _)
   | (with_reducible exact ih1 _ _ _ _)
   | (with_reducible exact impl_shortest.mono _ _ _ _ _)
   | (with_reducible exact slices_ContainsFunc_impl_Prefix_impl_Prefix.mono _ _)
   | (with_reducible exact LeO.refl _)
   | (with_reducible exact LeO.none _)
   | (with_reducible refine LeO.ite ?_ ?_)
   | (with_reducible refine LeO.bind ?_ (fun _ => ?_))
   | exact ih0 _ _
   | exact ih1 _ _ _ _
   | exact impl_shortest.mono _ _ _ _ _
   | exact slices_ContainsFunc_impl_Prefix_impl_Prefix.mono _ _
   | exact LeO.none _
   | refine LeO.ite ?_ ?_
   | refine LeO.bind ?_ (fun _ => ?_)
def impl_Aggregate.T10 : Bool × List (List Nat × List Nat) := (true, [([], []), ([0], [0]), ([1], [1]), ([2], [2]), ([2], [2]), ([4, 2], [2, 4]), ([3, 5, 2], [2, 3, 5]), ([6, 2], [2, 6]), ([2], [2]), ([7, 8, 2, 2], [2, 7, 8]), ([9, 2], [2, 9]), ([2, 10], [2, 10])])
def impl_Aggregate.B10 : List Nat := [0, 1, 3, 7, 7, 23, 63, 127, 7, 511, 1023, 2047]
theorem impl_Aggregate.tab10 : rtab .any (opsOf Try.f31 10) = impl_Aggregate.T10 := by kernel_rfl
theorem impl_Aggregate.bits10 : waitsOk impl_Aggregate.T10.2 impl_Aggregate.B10 = true := by kernel_rfl
set_option maxHeartbeats 8000000 in
set_option maxRecDepth 100000 in
theorem impl_Aggregate.calls (k : Nat) (A0 : Option Addr) (c0 : Nat) (l0 : List (S28)) (r1 : List (S28)) (r2 : Bool) (w : World) (hr0 : Kd.C k28 w A0 l0.length l0) (hc0 : l0.length ≤ c0) (h : impl_Aggregate.f k l0 = some (r1, r2)) :
  Calls Try.prog 31 #[.slice A0 l0.length c0] w fun e w' => ∃ v0_ : Value, e = .returned (.tuple #[v0_, .bool r2]) ∧ Kd.R k28 28 w' w.heap.size (fun _ => True) v0_ r1 ∧ Below w.heap.size w w' := by
 have hu28 := Try.underlying28
 have HR0 := Aside0.mk hr0
 have HC0 := Aside0.mk hc0
 clear hr0 hc0
 have HB := Aside0.mk (Below.refl w.heap.size w)
 have H : (if (l0.length : Int) > 300 then (impl_Aggregate.j0 k l0 true) else ((slices_ContainsFunc_impl_Prefix_impl_Prefix.f k l0).bind fun t331 => (impl_Aggregate.j0 k l0 t331))) = some (r1, r2) := h
 clear h
 have HC2 := Aside0.mk H
 clear H
 go_enter Try.func31, Try.ntmps31
 go_upto_region 1 with (fail)
 go_cut [15] (fun v15 wc => ∃ (kq : Nat) (x15_1 : Bool), v15 = .bool x15_1 ∧ Aside0 (impl_Aggregate.j0 kq l0 x15_1 = some (r1, r2)) ∧ Aside0 (kq ≤ k) ∧ Aside0 (Below w.heap.size w wc))
 case first =>
  have H := HC2.out
  clear HC2
  by_cases c3 : (l0.length : Int) > 300
  ·rw [if_pos c3] at H
   have c3b0 : decide (300 < (l0.length : Int)) = true := decide_eq_true c3
   have c3b1 : decide (300 < l0.length) = true := decide_eq_true (by omega)
   clear c3
   (first | rw [c3b0] | (simp only [i64_w, i32_w]; rw [c3b0]) | skip)
   have H' := Aside0.mk H
   clear H
   go_wp2
   go_meet
   case rel => exact ⟨_, (true), (by first | rfl | (simp; done) | (simp [*]; done)), H', ⟨by first | omega | exact Nat.le_refl _⟩, ⟨by repeat (first | (with_reducible first | exact HB.out | apply below_alloc | apply pw_below_drewN | apply below_drew1) | exact HB.out)⟩⟩
  ·rw [if_neg c3] at H
   have c3b0 : decide (300 < (l0.length : Int)) = false := decide_eq_false c3
   have c3b1 : decide (300 < l0.length) = false := decide_eq_false (by omega)
   clear c3
   (first | rw [c3b0] | (simp only [i64_w, i32_w]; rw [c3b0]) | skip)
   replace H := Option.bind_eq_some_iff.mp H
   obtain ⟨t331, A40, H⟩ := H
   have A4 := Aside0.mk A40
   clear A40
   have H' := Aside0.mk H
   clear H
   go_wp2_with (first | (go_at_call 72; (with_reducible refine (slices_ContainsFunc_impl_Prefix_impl_Prefix.calls k _ _ l0  t331 _ ?side1 ?side2 A4.out).mono ?_); (case side1 => exact cb_ HR0 HB); (case side2 => exact HC0.out); rintro e w5 ⟨rfl, hb⟩; replace HB := Aside0.mk (bt_ HB hb); (try clear hb); (try clear hb2); (try clear hk); (try clear hi)))
   go_meet
   case rel => exact ⟨_, (t331), (by first | rfl | (simp; done) | (simp [*]; done)), H', ⟨by first | omega | exact Nat.le_refl _⟩, ⟨by repeat (first | (with_reducible first | exact HB.out | apply below_alloc | apply pw_below_drewN | apply below_drew1) | exact HB.out)⟩⟩
 case rest =>
  clear HC2
  try clear p2
  try clear c3
  try clear c3b0
  try clear c3b1
  obtain ⟨kq, x15_1, rfl, HA, HJ1, HB⟩ := hcut
  cases kq with
  | zero => exact absurd HA.out (by simp [impl_Aggregate.j0])
  | succ kj1 =>
   have H := HA.out
   clear HA
   simp only [impl_Aggregate.j0] at H
   by_cases c6 : x15_1 = true
   ·subst c6
    rw [if_pos rfl] at H
    simp only [Option.some.injEq, Prod.mk.injEq] at H
    obtain ⟨rfl, rfl⟩ := H
    go_wp2
    go_ret2
    exact ⟨_, by first | rfl | (simp [errW_none, errW_some] <;> rfl) | (simp [*, errW_none, errW_some] <;> rfl), by first | exact Kd.R_nil _ _ _ _ _ | exact Kd.N_nil _ _ _ _ _ | exact Kd.V_nil _ _ _ _ _ | exact Kd.Q_nil _ _ _ _ _ | exact Kd.S_nil _ _ _ _ _, by repeat (first | (with_reducible first | exact HB.out | apply below_alloc | apply pw_below_drewN | apply below_drew1) | exact HB.out)⟩
   ·replace c6 := Bool.eq_false_iff.mpr c6
    subst c6
    rw [if_neg (show ¬ (false = true) by decide)] at H
    replace H := Option.bind_eq_some_iff.mp H
    obtain ⟨t332, A70, H⟩ := H
    have A7 := Aside0.mk A70
    clear A70
    replace H := Option.bind_eq_some_iff.mp H
    obtain ⟨t335, A80, H⟩ := H
    have A8 := Aside0.mk A80
    clear A80
    obtain ⟨y336, hy336⟩ : ∃ y_ : List (S28), y_ = (([] : List (S28))) := ⟨_, rfl⟩
    replace H : (impl_Aggregate.l0 kj1 t335 (t332.length : Int) 0 y336) = some (r1, r2) := by first | (rw [hy336]; with_reducible exact H) | (have H2_ := (Option.bind_some _ _).symm.trans H; rw [hy336]; with_reducible exact H2_) | (have H2_ := (Option.bind_some _ _).symm.trans H; with_reducible exact H2_) | with_reducible exact H | (rw [hy336]; exact H) | exact H
    have Ny336 := Aside0.mk hy336
    clear hy336
    have H' := Aside0.mk H
    clear H
    go_wp2_with (first | ((with_reducible refine gate_callee (f := 75) rfl ?_); refine gl_ (some 17) Try.func75 #[.slice A0 l0.length c0] ?_; (with_reducible refine (slices_Clone_impl_Prefix_impl_Prefix.calls _ _ l0 t332 _ ?side1 ?side2 A7.out).mono ?_); (case side1 => exact cb_ HR0 HB); (case side2 => exact HC0.out); rintro e w9 ⟨v333, rfl, ho0, hb⟩; refine ⟨_, rfl, ?_⟩; have HO334 := Aside0.mk (Kd.R_lower ho0 (bz_ HB)); replace HB := Aside0.mk (bt_ HB hb); (try clear hb); (try clear hb2); (try clear hk); (try clear hi); (try clear ho0); obtain ⟨Ao10, co10, eo10⟩ := Kd.R_slice HO334.out; subst eo10) | ((with_reducible refine gate_callee (f := 76) rfl ?_); refine gl_ (some 19) Try.func76 #[.slice Ao10 t332.length co10, .func (.func 77) #[] #[]] ?_; (with_reducible refine (slices_SortFunc_impl_Prefix_impl_Prefix.calls (fun k_ => some k_ = (.slice Ao10 t332.length co10 : Value).ownBlock) (.slice Ao10 t332.length co10) t332  t335 w _ ?side1 ?side2 A8.out).mono ?_); (case side1 => exact by_ HB); (case side2 => exact Kd.R_tight rfl HO334.out); rintro e w11 ⟨rfl, hy0, hb, hkp⟩; refine ⟨_, rfl, ?_⟩; replace HO334 := Aside0.mk (Kd.R_reok rfl hy0 (fun k_ e_ => HO334.out.1 k_ e_)); replace HB := Aside0.mk (hb); (try clear hb); (try clear hkp); (try clear hy0)) | ((with_reducible refine gate_dst (N := 20) rfl ?_); refine Kd.R_lit k28 _ 28 ?hg (N := 20) ?hd (xs := ([] : List (S28))) (inner := []) (ok := fun _ => True) (okp := fun _ => True) ?hr ?hp (fun _ hk => hk) trivial (Below.refl _ _) (Nat.le_refl _) (by simp) ?_; (case hd => rfl); (case hg => rfl); (case hr => first | (go_simp; done) | (go_simp; rfl)); (case hp => exact (Reps.none _ _)); intro v337 w12 ho13 hb hg_ hnew_; clear hg_ hnew_; (first | rw [← Ny336.out] at ho13 | (simp only [Int.reduceToNat] at ho13; rw [← Ny336.out] at ho13)); have HO338 := Aside0.mk (Kd.R_lower (Kd.R_new' ho13 (Kd.R_lt (hd_ HO334))) (bz_ HB)); replace HO334 := Aside0.mk (Kd.R_elder' (hd_ HO334) (Kd.R_base ho13) hb); replace HB := Aside0.mk (bt_ HB hb); clear hb ho13) | ((with_reducible refine gate_dst (N := 5) rfl ?_); refine box_event ?hg (N := 5) ?hd (cs := #[.slice none 0 0]) (t := 51) ?hr ?_; (case hd => rfl); (case hg => rfl); (case hr => first | (go_simp; done) | (go_simp; rfl)); intro gb339 hg w14 hbox hb; have BK339 := Aside0.mk hbox; have GW339 := ge_ HB hg; have GE339 := ge_ HB hg; replace HO334 := rb_ HO334 hb; replace HO338 := rb_ HO338 hb; replace HB := Aside0.mk (bt_ HB hb); clear hb hbox hg; obtain ⟨Ao15, co15, eo15⟩ := Kd.R_slice HO338.out; subst eo15; have hcz16_0 := cz_ BK339 0 (.slice none 0 0); have hfz16_0 := blk_frozen BK339.out 0))
    (try simp only [Act.put, List.setIfInBounds_toArray, List.set_cons_zero, List.set_cons_succ])
    go_loopg [23] kj1 (fun kq v23 w' => ∃ (x23_2 : Int) (x340000_2 : List (S28)) (u340000 : Value), v23 = .int .i64 x23_2 ∧ Aside0 (impl_Aggregate.l0 kq t335 (t332.length : Int) x23_2 x340000_2 = some (r1, r2)) ∧ Aside0 (kq ≤ kj1) ∧ Aside0 (Kd.R k28 28 w' w.heap.size (fun k_ => some k_ ≠ (u340000 : Value).ownBlock) (.slice Ao10 t332.length co10) t335) ∧ Aside0 (Kd.R k28 28 w' w.heap.size (fun k_ => some k_ ≠ ((.slice Ao10 t332.length co10) : Value).ownBlock) u340000 x340000_2) ∧ Aside0 (w'.heap[gb339]? = some (.cells #[u340000] 51 (0, 0))) ∧ Aside0 (Below w.heap.size w w'))
    case atStart => exact ⟨(0), (y336), (.slice Ao15 y336.length co15), (by first | rfl | (simp; done) | (simp [*]; done)), H', ⟨Nat.le_refl _⟩, ⟨by (with_reducible repeat (first | apply Kd.R_alloc | apply Kd.R_drewN | apply Kd.R_drew)); exact Kd.R_mono (Kd.R_far (p := ⟨gb339, 0, none⟩) (Kd.R_types HO334.out BK339.out (by decide)) (fun _ hk => hk.2) (.slice Ao15 y336.length co15)) (fun _ hk => hk.1.2)⟩, ⟨by (with_reducible repeat (first | apply Kd.R_alloc | apply Kd.R_drewN | apply Kd.R_drew)); exact Kd.R_mono (Kd.R_far (p := ⟨gb339, 0, none⟩) (Kd.R_types HO338.out BK339.out (by decide)) (fun _ hk => hk.2) (.slice Ao15 y336.length co15)) (fun _ hk => hk.1.2)⟩, ⟨by (with_reducible repeat (first | refine blk_drewN ?_ _ | refine blk_drew ?_ | refine blk_alloc ?_ _)); refine blk_put (cs := #[.slice none 0 0]) ?_ 0 _ rfl; (with_reducible repeat (first | refine blk_drewN ?_ _ | refine blk_drew ?_ | refine blk_alloc ?_ _)); exact BK339.out⟩, ⟨by repeat (first | (with_reducible first | exact HB.out | apply below_alloc | apply pw_below_drewN | apply below_drew1 | refine below_set ?_ GE339.out) | exact HB.out)⟩⟩
    case round =>
     clear H'
     try clear p2
     try clear c3
     try clear c3b0
     try clear c3b1
     try clear c6
     try clear c7
     try clear hcz16_0
     try clear hfz16_0
     try clear p2
     obtain ⟨x23_2, x340000_2, u340000, rfl, HA, HK2, HO_21, HO_340000, BK339, HB⟩ := hrel
     have hl21_2 := (Kd.R_reads' HO_21.out).1
     rw [hl21_2] at HO_21
     (try simp only [hl21_2])
     (try simp only [hl21_2] at BK339)
     (try simp only [hl21_2] at HO_340000)
     cases gk with
     | zero => exact absurd HA.out (by simp [impl_Aggregate.l0])
     | succ k2 =>
      have H := HA.out
      clear HA
      simp only [impl_Aggregate.l0] at H
      by_cases c17 : x23_2 < (t332.length : Int)
      ·rw [if_pos c17] at H
       have c17b0 : decide (x23_2 < (t332.length : Int)) = true := decide_eq_true c17
       clear c17
       by_cases c18 : 0 ≤ x23_2
       ·rw [if_pos c18] at H
        have c18b0 : decide (0 ≤ x23_2) = true := decide_eq_true c18
        clear c18
        by_cases c19 : x23_2 < (t335.length : Int)
        ·rw [if_pos c19] at H
         have c19b0 : decide (x23_2 < (t335.length : Int)) = true := decide_eq_true c19
         clear c19
         by_cases c20 : (x340000_2.length : Int) = 0
         ·rw [if_pos c20] at H
          have c20b0 : ((x340000_2.length : Int) == 0) = true := beq_iff_eq.mpr c20
          have c20b1 : ((x340000_2.length : Int) != 0) = false := bne_eq_false_iff_eq.mpr c20
          clear c20
          by_cases c21 : x340000_2.length < 8796093022208
          ·rw [if_pos c21] at H
           have LMc21 := Aside0.mk c21
           clear c21
           obtain ⟨y342, hy342⟩ : ∃ y_ : List (S28), y_ = (x340000_2 ++ [(⟨(rd_T28 t335 x23_2).f0, (rd_T28 t335 x23_2).f1⟩ : S28)]) := ⟨_, rfl⟩
           replace H : (impl_Aggregate.l0 k2 t335 (t332.length : Int) (wrap64 (x23_2 + 1)) y342) = some (r1, r2) := by first | (rw [hy342]; with_reducible exact H) | (have H2_ := (Option.bind_some _ _).symm.trans H; rw [hy342]; with_reducible exact H2_) | (have H2_ := (Option.bind_some _ _).symm.trans H; with_reducible exact H2_) | with_reducible exact H | (rw [hy342]; exact H) | exact H
           have Ny342 := Aside0.mk hy342
           clear hy342
           have H' := Aside0.mk H
           clear H
           have p340 : 0 ≤ (x23_2 : Int) := of_decide_eq_true (by first | (with_reducible assumption) | assumption)
           have q340 : x23_2 < (t335.length : Int) := of_decide_eq_true (by first | (with_reducible assumption) | assumption)
           obtain ⟨ad340, e340, hx340_0, hx340_1⟩ := at_T28 (Kd.R_reads' HO_21.out).2.2 x23_2 p340 q340
           cases e340
           replace p340 := eq_true p340
           replace q340 := eq_true q340
           try go_wp2_with (first | ((with_reducible refine gate_dst (N := 7) rfl ?_); refine box_event ?hg (N := 7) ?hd (cs := #[.int .i64 0, .int .i64 0]) (t := 28) ?hr ?_; (case hd => rfl); (case hg => rfl); (case hr => first | (go_simp; done) | (go_simp; rfl)); intro gb341 hg w22 hbox hb; have BK341 := Aside0.mk hbox; have GW341 := ge_ HB hg; have GE341 := ge_ HB hg; have NB339_341 := nl_ BK339 hg; have NB341_339 := ng_ BK339 hg; replace HO_21 := Aside0.mk (Kd.R_below (Kd.R_elderB (hd_ HO_21) gb341 (Nat.le_of_eq hg.symm)) hb); replace HO_340000 := Aside0.mk (Kd.R_below (Kd.R_elderB (hd_ HO_340000) gb341 (Nat.le_of_eq hg.symm)) hb); replace HB := Aside0.mk (bt_ HB hb); replace BK339 := Aside0.mk (bb_ BK339 hb); clear hb hbox hg; have hnb23 := NB341_339.out; have hnc23 := NB339_341.out; have hcz24_0 := cz_ BK341 0 (.int .i64 0); have hcz24_1 := cz_ BK341 1 (.int .i64 0); have hfz24_0 := blk_frozen BK341.out 0; have hfz24_1 := blk_frozen BK341.out 1; have hcz25_0 := cz_ BK339 0 (u340000); have hfz25_0 := blk_frozen BK339.out 0; obtain ⟨Ao26, co26, eo26⟩ := Kd.R_slice HO_340000.out; subst eo26))
           have n0_ : Aside0 (Kd.R k28 28 ((w22.setCell ⟨gb341, 0, none⟩ (.int .i64 ((rd_T28 t335 x23_2).f0))).setCell ⟨gb341, 1, none⟩ (.int .i64 ((rd_T28 t335 x23_2).f1))) w.heap.size (fun k_ => some k_ ≠ (.slice Ao26 x340000_2.length co26 : Value).ownBlock ∧ k_ ≠ gb341) (.slice (some ad340) t335.length co10) t335) := ⟨by (with_reducible repeat (first | apply Kd.R_alloc | apply Kd.R_drewN | apply Kd.R_drew)); exact Kd.R_mono (Kd.R_far (p := ⟨gb341, 1, none⟩) (Kd.R_far (p := ⟨gb341, 0, none⟩) (Kd.R_mono HO_21.out (fun k_ hk => (⟨hk, hk.2⟩ : _ ∧ k_ ≠ gb341))) (fun _ hk => hk.2) (.int .i64 ((rd_T28 t335 x23_2).f0))) (fun _ hk => hk.2) (.int .i64 ((rd_T28 t335 x23_2).f1))) (fun _ hk => by first | exact ⟨hk.1.1, hk.1.2⟩ | grind)⟩
           have n1_ : Aside0 (Kd.R k28 28 ((w22.setCell ⟨gb341, 0, none⟩ (.int .i64 ((rd_T28 t335 x23_2).f0))).setCell ⟨gb341, 1, none⟩ (.int .i64 ((rd_T28 t335 x23_2).f1))) w.heap.size (fun k_ => some k_ ≠ (.slice (some ad340) t335.length co10 : Value).ownBlock ∧ k_ ≠ gb341) (.slice Ao26 x340000_2.length co26) x340000_2) := ⟨by (with_reducible repeat (first | apply Kd.R_alloc | apply Kd.R_drewN | apply Kd.R_drew)); exact Kd.R_mono (Kd.R_far (p := ⟨gb341, 1, none⟩) (Kd.R_far (p := ⟨gb341, 0, none⟩) (Kd.R_mono HO_340000.out (fun k_ hk => (⟨hk, hk.2⟩ : _ ∧ k_ ≠ gb341))) (fun _ hk => hk.2) (.int .i64 ((rd_T28 t335 x23_2).f0))) (fun _ hk => hk.2) (.int .i64 ((rd_T28 t335 x23_2).f1))) (fun _ hk => by first | exact ⟨hk.1.1, hk.1.2⟩ | grind)⟩
           have n2_ : Aside0 (((w22.setCell ⟨gb341, 0, none⟩ (.int .i64 ((rd_T28 t335 x23_2).f0))).setCell ⟨gb341, 1, none⟩ (.int .i64 ((rd_T28 t335 x23_2).f1))).heap[gb339]? = some (.cells #[.slice Ao26 x340000_2.length co26] 51 (0, 0))) := ⟨by (with_reducible repeat (first | refine blk_drewN ?_ _ | refine blk_drew ?_ | refine blk_alloc ?_ _)); refine blk_far ?_ NB339_341.out _; (with_reducible repeat (first | refine blk_drewN ?_ _ | refine blk_drew ?_ | refine blk_alloc ?_ _)); refine blk_far ?_ NB339_341.out _; (with_reducible repeat (first | refine blk_drewN ?_ _ | refine blk_drew ?_ | refine blk_alloc ?_ _)); exact BK339.out⟩
           have n3_ : Aside0 (((w22.setCell ⟨gb341, 0, none⟩ (.int .i64 ((rd_T28 t335 x23_2).f0))).setCell ⟨gb341, 1, none⟩ (.int .i64 ((rd_T28 t335 x23_2).f1))).heap[gb341]? = some (.cells #[.int .i64 ((rd_T28 t335 x23_2).f0), .int .i64 ((rd_T28 t335 x23_2).f1)] 28 (0, 0))) := ⟨by (with_reducible repeat (first | refine blk_drewN ?_ _ | refine blk_drew ?_ | refine blk_alloc ?_ _)); refine blk_put (cs := #[.int .i64 ((rd_T28 t335 x23_2).f0), .int .i64 0]) ?_ 1 _ rfl; (with_reducible repeat (first | refine blk_drewN ?_ _ | refine blk_drew ?_ | refine blk_alloc ?_ _)); refine blk_put (cs := #[.int .i64 0, .int .i64 0]) ?_ 0 _ rfl; (with_reducible repeat (first | refine blk_drewN ?_ _ | refine blk_drew ?_ | refine blk_alloc ?_ _)); exact BK341.out⟩
           have n4_ : Aside0 (Below w.heap.size w ((w22.setCell ⟨gb341, 0, none⟩ (.int .i64 ((rd_T28 t335 x23_2).f0))).setCell ⟨gb341, 1, none⟩ (.int .i64 ((rd_T28 t335 x23_2).f1)))) := ⟨by repeat (first | (with_reducible first | exact HB.out | apply below_alloc | apply pw_below_drewN | apply below_drew1 | refine below_set ?_ GE339.out | refine below_set ?_ GE341.out) | exact HB.out)⟩
           (try clear HO_21)
           (try clear HO_340000)
           (try clear BK339)
           (try clear BK341)
           (try clear HB)
           generalize ((w22.setCell ⟨gb341, 0, none⟩ (.int .i64 ((rd_T28 t335 x23_2).f0))).setCell ⟨gb341, 1, none⟩ (.int .i64 ((rd_T28 t335 x23_2).f1))) = w27 at n0_ n1_ n2_ n3_ n4_ ⊢
           have HO_21 := n0_
           have HO_340000 := n1_
           have BK339 := n2_
           have BK341 := n3_
           have HB := n4_
           clear n0_ n1_ n2_ n3_ n4_
           replace HO_21 := Aside0.mk (Kd.R_drew HO_21.out)
           replace HO_340000 := Aside0.mk (Kd.R_drew HO_340000.out)
           replace BK339 := Aside0.mk (blk_drew BK339.out)
           replace BK341 := Aside0.mk (blk_drew BK341.out)
           replace HB := Aside0.mk (below_drew1 HB.out)
           refine start_ (n := 12) (S := fun w' => True) (ds := []) ba14_0 (by kernel_rfl) rfl rfl trivial (fun hHeld => ?_); refine with_tabW impl_Aggregate.tab10 impl_Aggregate.bits10 (fun HT_ HW_ => ?_)
           generalize w27.drew = w28 at HO_21 HO_340000 BK339 BK341 HB hHeld ⊢
           refine pz_ 0 29 ba14_1 HT_ ?_
           refine pz_ 1 30 ba14_2 HT_ ?_
           refine pz_ 2 31 ba14_3 HT_ ?_
           refine pu_ 3 32 ba14_4 HT_ ?_
           refine pu_ 4 33 ba14_5 HT_ ?_
           refine pu_ 5 34 ba14_6 HT_ ?_
           refine pu_ 6 35 ba14_7 HT_ ?_
           refine pu_ 7 36 ba14_8 HT_ ?_
           refine pu_ 8 37 ba14_9 HT_ ?_
           refine pu_ 9 38 ba14_10 HT_ ?_
           refine pu_ 10 39 ba14_11 HT_ ?_
           refine pz_ 11 40 ba14_12 HT_ ?_
           refine done_ (done_of HT_.out (by kernel_rfl)) ?_
           have hcz29_0 := cz_ BK339 0 (.slice Ao26 x340000_2.length co26)
           have hfz29_0 := blk_frozen BK339.out 0
           have hcz30_0 := cz_ BK341 0 (.int .i64 ((rd_T28 t335 x23_2).f0))
           have hcz30_1 := cz_ BK341 1 (.int .i64 ((rd_T28 t335 x23_2).f1))
           have hfz30_0 := blk_frozen BK341.out 0
           have hfz30_1 := blk_frozen BK341.out 1
           try go_wp2_with (first | ((with_reducible refine gate_builtin (b := .append) (xs := #[.tmp 41, .tmp 43]) rfl ?_); at_builtin; refine Kd.R_append k28 (w0 := w) w.heap.size rfl (.tmp 41) (.tmp 43) 51 28 (.agg #[(.int .i64 0), (.int .i64 0)]) 16 rfl Try.underlying51 info28 rfl (by decide) (by omega) (.slice Ao26 x340000_2.length co26) x340000_2 (⟨(rd_T28 t335 x23_2).f0, (rd_T28 t335 x23_2).f1⟩ : S28) [.int .i64 ((rd_T28 t335 x23_2).f0), .int .i64 ((rd_T28 t335 x23_2).f1)] (fun k_ => some k_ ≠ (.slice (some ad340) t335.length co10 : Value).ownBlock ∧ k_ ≠ gb341) (fun _ => False) rfl rfl ?aP (fun _ hk => hk.elim) ?aF ?aO ?aB ?aS ?aL ?_; (case aP => exact k28_mkM _ _ _ (⟨(rd_T28 t335 x23_2).f0, (rd_T28 t335 x23_2).f1⟩ : S28)); (case aB => exact (by repeat (first | (with_reducible first | exact HB.out | apply below_alloc | apply pw_below_drewN | apply below_drew1 | refine below_set ?_ GE339.out | refine below_set ?_ GE341.out) | exact HB.out))); (case aF => exact (fun k_ hk => ⟨Kd.fresh' (Kd.R_lt (hd_ HO_21)) k_ hk, Kd.freshB (g := gb341) (o := .cells #[.int .i64 ((rd_T28 t335 x23_2).f0), .int .i64 ((rd_T28 t335 x23_2).f1)] 28 (0, 0)) (by (with_reducible repeat (first | refine blk_drewN ?_ _ | refine blk_drew ?_ | refine blk_alloc ?_ _)); exact BK341.out) k_ hk⟩)); (case aO => exact (hd_ HO_340000)); (case aS => exact (bz_ HB)); (case aL => have := LMc21.out; omega); intro v343 w31 ho hb hg hat; rw [← Ny342.out] at ho; have HO344 := Aside0.mk ho; replace HO_21 := Aside0.mk (Kd.R_after (ok := (fun k_ => k_ ≠ gb341)) (by (with_reducible repeat (first | apply Kd.R_alloc | apply Kd.R_drewN | apply Kd.R_drew)); exact Kd.R_mono HO_21.out (fun _ hk => by first | exact ⟨hk.2, hk.1⟩ | grind)) hg hat); replace BK339 := Aside0.mk (blk_grown (g := gb339) (o := .cells #[.slice Ao26 x340000_2.length co26] 51 (0, 0)) (by (with_reducible repeat (first | refine blk_drewN ?_ _ | refine blk_drew ?_ | refine blk_alloc ?_ _)); exact BK339.out) hg (Kd.R_ne HO_340000.out BK339.out (by decide))); replace BK341 := Aside0.mk (blk_grown (g := gb341) (o := .cells #[.int .i64 ((rd_T28 t335 x23_2).f0), .int .i64 ((rd_T28 t335 x23_2).f1)] 28 (0, 0)) (by (with_reducible repeat (first | refine blk_drewN ?_ _ | refine blk_drew ?_ | refine blk_alloc ?_ _)); exact BK341.out) hg (Kd.R_away HO_340000.out (fun _ hk => hk.2))); replace HB := Aside0.mk (hb); clear HO_340000; clear ho hb hg hat; obtain ⟨Ao32, co32, eo32⟩ := Kd.R_slice HO344.out; subst eo32; have hcz33_0 := cz_ BK339 0 (.slice Ao26 x340000_2.length co26); have hfz33_0 := blk_frozen BK339.out 0))
           (try simp only [← hl21_2])
           go_roundg k2
           case measure => have := HJ1.out; have := HK2.out; omega
           case rel => exact ⟨(wrap64 (x23_2 + 1)), (y342), (.slice Ao32 y342.length co32), (by first | rfl | (simp; done) | (simp [*]; done)), H', ⟨by have := HJ1.out; have := HK2.out; omega⟩, ⟨by (try simp only [hl21_2]); (with_reducible repeat (first | apply Kd.R_alloc | apply Kd.R_drewN | apply Kd.R_drew)); exact Kd.R_mono (Kd.R_far (p := ⟨gb339, 0, none⟩) (Kd.R_types HO_21.out BK339.out (by decide)) (fun _ hk => hk.2) (.slice Ao32 y342.length co32)) (fun _ hk => hk.1.2)⟩, ⟨by (try simp only [hl21_2]); (with_reducible repeat (first | apply Kd.R_alloc | apply Kd.R_drewN | apply Kd.R_drew)); exact Kd.R_mono (Kd.R_far (p := ⟨gb339, 0, none⟩) (Kd.R_types HO344.out BK339.out (by decide)) (fun _ hk => hk.2) (.slice Ao32 y342.length co32)) (fun _ hk => hk.1.1)⟩, ⟨by (try simp only [hl21_2]); (with_reducible repeat (first | refine blk_drewN ?_ _ | refine blk_drew ?_ | refine blk_alloc ?_ _)); refine blk_put (cs := #[.slice Ao26 x340000_2.length co26]) ?_ 0 _ rfl; (with_reducible repeat (first | refine blk_drewN ?_ _ | refine blk_drew ?_ | refine blk_alloc ?_ _)); exact BK339.out⟩, ⟨by repeat (first | (with_reducible first | exact HB.out | apply below_alloc | apply pw_below_drewN | apply below_drew1 | refine below_set ?_ GE339.out | refine below_set ?_ GE341.out) | exact HB.out)⟩⟩
          ·rw [if_neg c21] at H
           exact absurd H (by simp)
         ·rw [if_neg c20] at H
          have c20b0 : ((x340000_2.length : Int) == 0) = false := beq_eq_false_iff_ne.mpr c20
          have c20b1 : ((x340000_2.length : Int) != 0) = true := bne_iff_ne.mpr c20
          have c20b2 : ¬ (x340000_2 = []) := fun h_ => c20 (by rw [h_]; rfl)
          obtain ⟨ji34, hji34⟩ : ∃ j_ : Int, (wrap64 ((x340000_2.length : Int) - 1)) = j_ := ⟨_, rfl⟩
          first | rw [hji34] at H | simp only [hji34] at H
          have hji34w : (IntKind.i64.wrap ((x340000_2.length : Int) - 1)) = ji34 := (i64_w _).trans hji34
          by_cases c35 : 0 ≤ (ji34)
          ·rw [if_pos c35] at H
           have c35b0 : decide (0 ≤ (ji34)) = true := decide_eq_true c35
           clear c35
           by_cases c36 : (ji34) < (x340000_2.length : Int)
           ·rw [if_pos c36] at H
            have c36b0 : decide ((ji34) < (x340000_2.length : Int)) = true := decide_eq_true c36
            clear c36
            replace H := Option.bind_eq_some_iff.mp H
            obtain ⟨t346, A370, H⟩ := H
            have A37 := Aside0.mk A370
            clear A370
            by_cases c38 : t346 = true
            ·subst c38
             rw [if_pos rfl] at H
             have H' := Aside0.mk H
             clear H
             have p340 : 0 ≤ (x23_2 : Int) := of_decide_eq_true (by first | (with_reducible assumption) | assumption)
             have q340 : x23_2 < (t335.length : Int) := of_decide_eq_true (by first | (with_reducible assumption) | assumption)
             obtain ⟨ad340, e340, hx340_0, hx340_1⟩ := at_T28 (Kd.R_reads' HO_21.out).2.2 x23_2 p340 q340
             cases e340
             replace p340 := eq_true p340
             replace q340 := eq_true q340
             try go_wp2_with (first | ((with_reducible refine gate_dst (N := 7) rfl ?_); refine box_event ?hg (N := 7) ?hd (cs := #[.int .i64 0, .int .i64 0]) (t := 28) ?hr ?_; (case hd => rfl); (case hg => rfl); (case hr => first | (go_simp; done) | (go_simp; rfl)); intro gb341 hg w39 hbox hb; have BK341 := Aside0.mk hbox; have GW341 := ge_ HB hg; have GE341 := ge_ HB hg; have NB339_341 := nl_ BK339 hg; have NB341_339 := ng_ BK339 hg; replace HO_21 := Aside0.mk (Kd.R_below (Kd.R_elderB (hd_ HO_21) gb341 (Nat.le_of_eq hg.symm)) hb); replace HO_340000 := Aside0.mk (Kd.R_below (Kd.R_elderB (hd_ HO_340000) gb341 (Nat.le_of_eq hg.symm)) hb); replace HB := Aside0.mk (bt_ HB hb); replace BK339 := Aside0.mk (bb_ BK339 hb); clear hb hbox hg; have hnb40 := NB341_339.out; have hnc40 := NB339_341.out; have hcz41_0 := cz_ BK341 0 (.int .i64 0); have hcz41_1 := cz_ BK341 1 (.int .i64 0); have hfz41_0 := blk_frozen BK341.out 0; have hfz41_1 := blk_frozen BK341.out 1; have hcz42_0 := cz_ BK339 0 (u340000); have hfz42_0 := blk_frozen BK339.out 0; obtain ⟨Ao43, co43, eo43⟩ := Kd.R_slice HO_340000.out; subst eo43))
             have n0_ : Aside0 (Kd.R k28 28 ((w39.setCell ⟨gb341, 0, none⟩ (.int .i64 ((rd_T28 t335 x23_2).f0))).setCell ⟨gb341, 1, none⟩ (.int .i64 ((rd_T28 t335 x23_2).f1))) w.heap.size (fun k_ => some k_ ≠ (.slice Ao43 x340000_2.length co43 : Value).ownBlock ∧ k_ ≠ gb341) (.slice (some ad340) t335.length co10) t335) := ⟨by (with_reducible repeat (first | apply Kd.R_alloc | apply Kd.R_drewN | apply Kd.R_drew)); exact Kd.R_mono (Kd.R_far (p := ⟨gb341, 1, none⟩) (Kd.R_far (p := ⟨gb341, 0, none⟩) (Kd.R_mono HO_21.out (fun k_ hk => (⟨hk, hk.2⟩ : _ ∧ k_ ≠ gb341))) (fun _ hk => hk.2) (.int .i64 ((rd_T28 t335 x23_2).f0))) (fun _ hk => hk.2) (.int .i64 ((rd_T28 t335 x23_2).f1))) (fun _ hk => by first | exact ⟨hk.1.1, hk.1.2⟩ | grind)⟩
             have n1_ : Aside0 (Kd.R k28 28 ((w39.setCell ⟨gb341, 0, none⟩ (.int .i64 ((rd_T28 t335 x23_2).f0))).setCell ⟨gb341, 1, none⟩ (.int .i64 ((rd_T28 t335 x23_2).f1))) w.heap.size (fun k_ => some k_ ≠ (.slice (some ad340) t335.length co10 : Value).ownBlock ∧ k_ ≠ gb341) (.slice Ao43 x340000_2.length co43) x340000_2) := ⟨by (with_reducible repeat (first | apply Kd.R_alloc | apply Kd.R_drewN | apply Kd.R_drew)); exact Kd.R_mono (Kd.R_far (p := ⟨gb341, 1, none⟩) (Kd.R_far (p := ⟨gb341, 0, none⟩) (Kd.R_mono HO_340000.out (fun k_ hk => (⟨hk, hk.2⟩ : _ ∧ k_ ≠ gb341))) (fun _ hk => hk.2) (.int .i64 ((rd_T28 t335 x23_2).f0))) (fun _ hk => hk.2) (.int .i64 ((rd_T28 t335 x23_2).f1))) (fun _ hk => by first | exact ⟨hk.1.1, hk.1.2⟩ | grind)⟩
             have n2_ : Aside0 (((w39.setCell ⟨gb341, 0, none⟩ (.int .i64 ((rd_T28 t335 x23_2).f0))).setCell ⟨gb341, 1, none⟩ (.int .i64 ((rd_T28 t335 x23_2).f1))).heap[gb339]? = some (.cells #[.slice Ao43 x340000_2.length co43] 51 (0, 0))) := ⟨by (with_reducible repeat (first | refine blk_drewN ?_ _ | refine blk_drew ?_ | refine blk_alloc ?_ _)); refine blk_far ?_ NB339_341.out _; (with_reducible repeat (first | refine blk_drewN ?_ _ | refine blk_drew ?_ | refine blk_alloc ?_ _)); refine blk_far ?_ NB339_341.out _; (with_reducible repeat (first | refine blk_drewN ?_ _ | refine blk_drew ?_ | refine blk_alloc ?_ _)); exact BK339.out⟩
             have n3_ : Aside0 (((w39.setCell ⟨gb341, 0, none⟩ (.int .i64 ((rd_T28 t335 x23_2).f0))).setCell ⟨gb341, 1, none⟩ (.int .i64 ((rd_T28 t335 x23_2).f1))).heap[gb341]? = some (.cells #[.int .i64 ((rd_T28 t335 x23_2).f0), .int .i64 ((rd_T28 t335 x23_2).f1)] 28 (0, 0))) := ⟨by (with_reducible repeat (first | refine blk_drewN ?_ _ | refine blk_drew ?_ | refine blk_alloc ?_ _)); refine blk_put (cs := #[.int .i64 ((rd_T28 t335 x23_2).f0), .int .i64 0]) ?_ 1 _ rfl; (with_reducible repeat (first | refine blk_drewN ?_ _ | refine blk_drew ?_ | refine blk_alloc ?_ _)); refine blk_put (cs := #[.int .i64 0, .int .i64 0]) ?_ 0 _ rfl; (with_reducible repeat (first | refine blk_drewN ?_ _ | refine blk_drew ?_ | refine blk_alloc ?_ _)); exact BK341.out⟩
             have n4_ : Aside0 (Below w.heap.size w ((w39.setCell ⟨gb341, 0, none⟩ (.int .i64 ((rd_T28 t335 x23_2).f0))).setCell ⟨gb341, 1, none⟩ (.int .i64 ((rd_T28 t335 x23_2).f1)))) := ⟨by repeat (first | (with_reducible first | exact HB.out | apply below_alloc | apply pw_below_drewN | apply below_drew1 | refine below_set ?_ GE339.out | refine below_set ?_ GE341.out) | exact HB.out)⟩
             (try clear HO_21)
             (try clear HO_340000)
             (try clear BK339)
             (try clear BK341)
             (try clear HB)
             generalize ((w39.setCell ⟨gb341, 0, none⟩ (.int .i64 ((rd_T28 t335 x23_2).f0))).setCell ⟨gb341, 1, none⟩ (.int .i64 ((rd_T28 t335 x23_2).f1))) = w44 at n0_ n1_ n2_ n3_ n4_ ⊢
             have HO_21 := n0_
             have HO_340000 := n1_
             have BK339 := n2_
             have BK341 := n3_
             have HB := n4_
             clear n0_ n1_ n2_ n3_ n4_
             replace HO_21 := Aside0.mk (Kd.R_drew HO_21.out)
             replace HO_340000 := Aside0.mk (Kd.R_drew HO_340000.out)
             replace BK339 := Aside0.mk (blk_drew BK339.out)
             replace BK341 := Aside0.mk (blk_drew BK341.out)
             replace HB := Aside0.mk (below_drew1 HB.out)
             have p345 : 0 ≤ ((ji34) : Int) := of_decide_eq_true (by first | (with_reducible assumption) | assumption)
             have q345 : (ji34) < (x340000_2.length : Int) := of_decide_eq_true (by first | (with_reducible assumption) | assumption)
             obtain ⟨ad345, e345, hx345_0, hx345_1⟩ := at_T28 (Kd.R_reads' HO_340000.out).2.2 (ji34) p345 q345
             cases e345
             replace p345 := eq_true p345
             replace q345 := eq_true q345
             refine start_ (n := 12) (S := fun w' => w'.cell? ⟨gb339, 0, none⟩ = some (.slice (some ad345) x340000_2.length co43) ∧ w'.cell? ⟨gb341, 0, none⟩ = some (.int .i64 ((rd_T28 t335 x23_2).f0)) ∧ w'.cell? ⟨gb341, 1, none⟩ = some (.int .i64 ((rd_T28 t335 x23_2).f1)) ∧ w'.cell? (ad345.add (((ji34)).toNat * 2)) = some (.int .i64 ((rd_T28 x340000_2 (ji34)).f0)) ∧ w'.cell? ⟨(ad345.add (((ji34)).toNat * 2)).block, (ad345.add (((ji34)).toNat * 2)).off + 1, none⟩ = some (.int .i64 ((rd_T28 x340000_2 (ji34)).f1))) (ds := []) ba14_0 (by kernel_rfl) rfl rfl ⟨(blk_cell BK339.out 0).trans rfl, (blk_cell BK341.out 0).trans rfl, (blk_cell BK341.out 1).trans rfl, hx345_0, hx345_1⟩ (fun hHeld => ?_); refine with_tabW impl_Aggregate.tab10 impl_Aggregate.bits10 (fun HT_ HW_ => ?_)
             generalize w44.drew = w45 at HO_21 HO_340000 BK339 BK341 HB hx345_0 hx345_1 hHeld ⊢
             refine pz_ 0 29 ba14_1 HT_ ?_
             refine pz_ 1 30 ba14_2 HT_ ?_
             refine pz_ 2 31 ba14_3 HT_ ?_
             refine pz_ 4 33 ba14_13 HT_ ?_
             refine pz_ 5 34 ba14_14 HT_ ?_
             refine pt_ 3 32 ba14_6 HT_ HW_ hHeld ?_
             refine pz_ 6 35 ba14_7 HT_ ?_
             refine pt_ 7 36 ba14_8 HT_ HW_ hHeld ?_
             refine pt_ 8 37 ba14_9 HT_ HW_ hHeld ?_
             refine one_ (i := 9) (N := some 38) ba14_10 rfl rfl (one_of HT_.out (by kernel_rfl)) (by decide) (fun K hK => ?_)
             refine goes_ Try.func78 (by kernel_rfl) rfl #[.agg #[.int .i64 ((rd_T28 x340000_2 (ji34)).f0), .int .i64 ((rd_T28 x340000_2 (ji34)).f1)], .agg #[.int .i64 ((rd_T28 t335 x23_2).f0), .int .i64 ((rd_T28 t335 x23_2).f1)]] (by rfl) rfl rfl (by (try simp only [List.map_toArray, List.map_cons, List.map_nil]); first | done | (simp only [hji34]; rfl) | rfl | (simp only [List.length_drop, List.length_take]; rfl)) ?_
             with_reducible refine (impl_Prefix_covers.calls ((rd_T28 x340000_2 (ji34)).f0) ((rd_T28 x340000_2 (ji34)).f1) ((rd_T28 t335 x23_2).f0) ((rd_T28 t335 x23_2).f1) true _ A37.out).mono ?_
             rintro e w46 ⟨rfl, hb⟩
             have HS3_ := (hb.cell (World.block_lt_of_cell? _ _ (hHeld.2.2.2.1))).trans (hHeld.2.2.2.1)
             have HS4_ := (hb.cell (World.block_lt_of_cell? _ _ (hHeld.2.2.2.2))).trans (hHeld.2.2.2.2)
             refine ⟨_, rfl, ?_⟩
             replace HO_21 := rb_ HO_21 hb
             replace HO_340000 := rb_ HO_340000 hb
             replace BK339 := Aside0.mk (bb_ BK339 hb)
             replace BK341 := Aside0.mk (bb_ BK341 hb)
             replace HB := Aside0.mk (bt_ HB hb)
             (try clear hb)
             (try clear hb2)
             (try clear hk)
             (try clear hi)
             refine hK.out _ _ ⟨(blk_cell BK339.out 0).trans rfl, (blk_cell BK341.out 0).trans rfl, (blk_cell BK341.out 1).trans rfl, HS3_, HS4_⟩ (fun hHeld => ?_)
             clear hK K
             refine nz_ 38 ?_
             refine pz_ 10 39 ba14_11 HT_ ?_
             refine pz_ 11 40 ba14_12 HT_ ?_
             refine done_ (done_of HT_.out (by kernel_rfl)) ?_
             try go_wp2
             (try simp only [← hl21_2])
             go_roundg k2
             case measure => have := HJ1.out; have := HK2.out; omega
             case rel => exact ⟨(wrap64 (x23_2 + 1)), (x340000_2), (.slice (some ad345) x340000_2.length co43), (by first | rfl | (simp; done) | (simp [*]; done)), H', ⟨by have := HJ1.out; have := HK2.out; omega⟩, ⟨by (try simp only [hl21_2]); (with_reducible repeat (first | apply Kd.R_alloc | apply Kd.R_drewN | apply Kd.R_drew)); exact Kd.R_mono HO_21.out (fun _ hk => hk.1)⟩, ⟨by (try simp only [hl21_2]); (with_reducible repeat (first | apply Kd.R_alloc | apply Kd.R_drewN | apply Kd.R_drew)); exact Kd.R_mono HO_340000.out (fun _ hk => hk.1)⟩, ⟨by (try simp only [hl21_2]); (with_reducible repeat (first | refine blk_drewN ?_ _ | refine blk_drew ?_ | refine blk_alloc ?_ _)); exact BK339.out⟩, ⟨by repeat (first | (with_reducible first | exact HB.out | apply below_alloc | apply pw_below_drewN | apply below_drew1 | refine below_set ?_ GE339.out | refine below_set ?_ GE341.out) | exact HB.out)⟩⟩
            ·replace c38 := Bool.eq_false_iff.mpr c38
             subst c38
             rw [if_neg (show ¬ (false = true) by decide)] at H
             by_cases c47 : x340000_2.length < 8796093022208
             ·rw [if_pos c47] at H
              have LMc47 := Aside0.mk c47
              clear c47
              obtain ⟨y347, hy347⟩ : ∃ y_ : List (S28), y_ = (x340000_2 ++ [(⟨(rd_T28 t335 x23_2).f0, (rd_T28 t335 x23_2).f1⟩ : S28)]) := ⟨_, rfl⟩
              replace H : (impl_Aggregate.l0 k2 t335 (t332.length : Int) (wrap64 (x23_2 + 1)) y347) = some (r1, r2) := by first | (rw [hy347]; with_reducible exact H) | (have H2_ := (Option.bind_some _ _).symm.trans H; rw [hy347]; with_reducible exact H2_) | (have H2_ := (Option.bind_some _ _).symm.trans H; with_reducible exact H2_) | with_reducible exact H | (rw [hy347]; exact H) | exact H
              have Ny347 := Aside0.mk hy347
              clear hy347
              have H' := Aside0.mk H
              clear H
              have p340 : 0 ≤ (x23_2 : Int) := of_decide_eq_true (by first | (with_reducible assumption) | assumption)
              have q340 : x23_2 < (t335.length : Int) := of_decide_eq_true (by first | (with_reducible assumption) | assumption)
              obtain ⟨ad340, e340, hx340_0, hx340_1⟩ := at_T28 (Kd.R_reads' HO_21.out).2.2 x23_2 p340 q340
              cases e340
              replace p340 := eq_true p340
              replace q340 := eq_true q340
              try go_wp2_with (first | ((with_reducible refine gate_dst (N := 7) rfl ?_); refine box_event ?hg (N := 7) ?hd (cs := #[.int .i64 0, .int .i64 0]) (t := 28) ?hr ?_; (case hd => rfl); (case hg => rfl); (case hr => first | (go_simp; done) | (go_simp; rfl)); intro gb341 hg w48 hbox hb; have BK341 := Aside0.mk hbox; have GW341 := ge_ HB hg; have GE341 := ge_ HB hg; have NB339_341 := nl_ BK339 hg; have NB341_339 := ng_ BK339 hg; replace HO_21 := Aside0.mk (Kd.R_below (Kd.R_elderB (hd_ HO_21) gb341 (Nat.le_of_eq hg.symm)) hb); replace HO_340000 := Aside0.mk (Kd.R_below (Kd.R_elderB (hd_ HO_340000) gb341 (Nat.le_of_eq hg.symm)) hb); replace HB := Aside0.mk (bt_ HB hb); replace BK339 := Aside0.mk (bb_ BK339 hb); clear hb hbox hg; have hnb49 := NB341_339.out; have hnc49 := NB339_341.out; have hcz50_0 := cz_ BK341 0 (.int .i64 0); have hcz50_1 := cz_ BK341 1 (.int .i64 0); have hfz50_0 := blk_frozen BK341.out 0; have hfz50_1 := blk_frozen BK341.out 1; have hcz51_0 := cz_ BK339 0 (u340000); have hfz51_0 := blk_frozen BK339.out 0; obtain ⟨Ao52, co52, eo52⟩ := Kd.R_slice HO_340000.out; subst eo52))
              have n0_ : Aside0 (Kd.R k28 28 ((w48.setCell ⟨gb341, 0, none⟩ (.int .i64 ((rd_T28 t335 x23_2).f0))).setCell ⟨gb341, 1, none⟩ (.int .i64 ((rd_T28 t335 x23_2).f1))) w.heap.size (fun k_ => some k_ ≠ (.slice Ao52 x340000_2.length co52 : Value).ownBlock ∧ k_ ≠ gb341) (.slice (some ad340) t335.length co10) t335) := ⟨by (with_reducible repeat (first | apply Kd.R_alloc | apply Kd.R_drewN | apply Kd.R_drew)); exact Kd.R_mono (Kd.R_far (p := ⟨gb341, 1, none⟩) (Kd.R_far (p := ⟨gb341, 0, none⟩) (Kd.R_mono HO_21.out (fun k_ hk => (⟨hk, hk.2⟩ : _ ∧ k_ ≠ gb341))) (fun _ hk => hk.2) (.int .i64 ((rd_T28 t335 x23_2).f0))) (fun _ hk => hk.2) (.int .i64 ((rd_T28 t335 x23_2).f1))) (fun _ hk => by first | exact ⟨hk.1.1, hk.1.2⟩ | grind)⟩
              have n1_ : Aside0 (Kd.R k28 28 ((w48.setCell ⟨gb341, 0, none⟩ (.int .i64 ((rd_T28 t335 x23_2).f0))).setCell ⟨gb341, 1, none⟩ (.int .i64 ((rd_T28 t335 x23_2).f1))) w.heap.size (fun k_ => some k_ ≠ (.slice (some ad340) t335.length co10 : Value).ownBlock ∧ k_ ≠ gb341) (.slice Ao52 x340000_2.length co52) x340000_2) := ⟨by (with_reducible repeat (first | apply Kd.R_alloc | apply Kd.R_drewN | apply Kd.R_drew)); exact Kd.R_mono (Kd.R_far (p := ⟨gb341, 1, none⟩) (Kd.R_far (p := ⟨gb341, 0, none⟩) (Kd.R_mono HO_340000.out (fun k_ hk => (⟨hk, hk.2⟩ : _ ∧ k_ ≠ gb341))) (fun _ hk => hk.2) (.int .i64 ((rd_T28 t335 x23_2).f0))) (fun _ hk => hk.2) (.int .i64 ((rd_T28 t335 x23_2).f1))) (fun _ hk => by first | exact ⟨hk.1.1, hk.1.2⟩ | grind)⟩
              have n2_ : Aside0 (((w48.setCell ⟨gb341, 0, none⟩ (.int .i64 ((rd_T28 t335 x23_2).f0))).setCell ⟨gb341, 1, none⟩ (.int .i64 ((rd_T28 t335 x23_2).f1))).heap[gb339]? = some (.cells #[.slice Ao52 x340000_2.length co52] 51 (0, 0))) := ⟨by (with_reducible repeat (first | refine blk_drewN ?_ _ | refine blk_drew ?_ | refine blk_alloc ?_ _)); refine blk_far ?_ NB339_341.out _; (with_reducible repeat (first | refine blk_drewN ?_ _ | refine blk_drew ?_ | refine blk_alloc ?_ _)); refine blk_far ?_ NB339_341.out _; (with_reducible repeat (first | refine blk_drewN ?_ _ | refine blk_drew ?_ | refine blk_alloc ?_ _)); exact BK339.out⟩
              have n3_ : Aside0 (((w48.setCell ⟨gb341, 0, none⟩ (.int .i64 ((rd_T28 t335 x23_2).f0))).setCell ⟨gb341, 1, none⟩ (.int .i64 ((rd_T28 t335 x23_2).f1))).heap[gb341]? = some (.cells #[.int .i64 ((rd_T28 t335 x23_2).f0), .int .i64 ((rd_T28 t335 x23_2).f1)] 28 (0, 0))) := ⟨by (with_reducible repeat (first | refine blk_drewN ?_ _ | refine blk_drew ?_ | refine blk_alloc ?_ _)); refine blk_put (cs := #[.int .i64 ((rd_T28 t335 x23_2).f0), .int .i64 0]) ?_ 1 _ rfl; (with_reducible repeat (first | refine blk_drewN ?_ _ | refine blk_drew ?_ | refine blk_alloc ?_ _)); refine blk_put (cs := #[.int .i64 0, .int .i64 0]) ?_ 0 _ rfl; (with_reducible repeat (first | refine blk_drewN ?_ _ | refine blk_drew ?_ | refine blk_alloc ?_ _)); exact BK341.out⟩
              have n4_ : Aside0 (Below w.heap.size w ((w48.setCell ⟨gb341, 0, none⟩ (.int .i64 ((rd_T28 t335 x23_2).f0))).setCell ⟨gb341, 1, none⟩ (.int .i64 ((rd_T28 t335 x23_2).f1)))) := ⟨by repeat (first | (with_reducible first | exact HB.out | apply below_alloc | apply pw_below_drewN | apply below_drew1 | refine below_set ?_ GE339.out | refine below_set ?_ GE341.out) | exact HB.out)⟩
              (try clear HO_21)
              (try clear HO_340000)
              (try clear BK339)
              (try clear BK341)
              (try clear HB)
              generalize ((w48.setCell ⟨gb341, 0, none⟩ (.int .i64 ((rd_T28 t335 x23_2).f0))).setCell ⟨gb341, 1, none⟩ (.int .i64 ((rd_T28 t335 x23_2).f1))) = w53 at n0_ n1_ n2_ n3_ n4_ ⊢
              have HO_21 := n0_
              have HO_340000 := n1_
              have BK339 := n2_
              have BK341 := n3_
              have HB := n4_
              clear n0_ n1_ n2_ n3_ n4_
              replace HO_21 := Aside0.mk (Kd.R_drew HO_21.out)
              replace HO_340000 := Aside0.mk (Kd.R_drew HO_340000.out)
              replace BK339 := Aside0.mk (blk_drew BK339.out)
              replace BK341 := Aside0.mk (blk_drew BK341.out)
              replace HB := Aside0.mk (below_drew1 HB.out)
              have p345 : 0 ≤ ((ji34) : Int) := of_decide_eq_true (by first | (with_reducible assumption) | assumption)
              have q345 : (ji34) < (x340000_2.length : Int) := of_decide_eq_true (by first | (with_reducible assumption) | assumption)
              obtain ⟨ad345, e345, hx345_0, hx345_1⟩ := at_T28 (Kd.R_reads' HO_340000.out).2.2 (ji34) p345 q345
              cases e345
              replace p345 := eq_true p345
              replace q345 := eq_true q345
              refine start_ (n := 12) (S := fun w' => w'.cell? ⟨gb339, 0, none⟩ = some (.slice (some ad345) x340000_2.length co52) ∧ w'.cell? ⟨gb341, 0, none⟩ = some (.int .i64 ((rd_T28 t335 x23_2).f0)) ∧ w'.cell? ⟨gb341, 1, none⟩ = some (.int .i64 ((rd_T28 t335 x23_2).f1)) ∧ w'.cell? (ad345.add (((ji34)).toNat * 2)) = some (.int .i64 ((rd_T28 x340000_2 (ji34)).f0)) ∧ w'.cell? ⟨(ad345.add (((ji34)).toNat * 2)).block, (ad345.add (((ji34)).toNat * 2)).off + 1, none⟩ = some (.int .i64 ((rd_T28 x340000_2 (ji34)).f1))) (ds := []) ba14_0 (by kernel_rfl) rfl rfl ⟨(blk_cell BK339.out 0).trans rfl, (blk_cell BK341.out 0).trans rfl, (blk_cell BK341.out 1).trans rfl, hx345_0, hx345_1⟩ (fun hHeld => ?_); refine with_tabW impl_Aggregate.tab10 impl_Aggregate.bits10 (fun HT_ HW_ => ?_)
              generalize w53.drew = w54 at HO_21 HO_340000 BK339 BK341 HB hx345_0 hx345_1 hHeld ⊢
              refine pz_ 0 29 ba14_1 HT_ ?_
              refine pz_ 1 30 ba14_2 HT_ ?_
              refine pz_ 2 31 ba14_3 HT_ ?_
              refine pz_ 4 33 ba14_13 HT_ ?_
              refine pz_ 5 34 ba14_14 HT_ ?_
              refine pt_ 3 32 ba14_6 HT_ HW_ hHeld ?_
              refine pz_ 6 35 ba14_7 HT_ ?_
              refine pt_ 7 36 ba14_8 HT_ HW_ hHeld ?_
              refine pt_ 8 37 ba14_9 HT_ HW_ hHeld ?_
              refine one_ (i := 9) (N := some 38) ba14_10 rfl rfl (one_of HT_.out (by kernel_rfl)) (by decide) (fun K hK => ?_)
              refine goes_ Try.func78 (by kernel_rfl) rfl #[.agg #[.int .i64 ((rd_T28 x340000_2 (ji34)).f0), .int .i64 ((rd_T28 x340000_2 (ji34)).f1)], .agg #[.int .i64 ((rd_T28 t335 x23_2).f0), .int .i64 ((rd_T28 t335 x23_2).f1)]] (by rfl) rfl rfl (by (try simp only [List.map_toArray, List.map_cons, List.map_nil]); first | done | (simp only [hji34]; rfl) | rfl | (simp only [List.length_drop, List.length_take]; rfl)) ?_
              with_reducible refine (impl_Prefix_covers.calls ((rd_T28 x340000_2 (ji34)).f0) ((rd_T28 x340000_2 (ji34)).f1) ((rd_T28 t335 x23_2).f0) ((rd_T28 t335 x23_2).f1) false _ A37.out).mono ?_
              rintro e w55 ⟨rfl, hb⟩
              have HS3_ := (hb.cell (World.block_lt_of_cell? _ _ (hHeld.2.2.2.1))).trans (hHeld.2.2.2.1)
              have HS4_ := (hb.cell (World.block_lt_of_cell? _ _ (hHeld.2.2.2.2))).trans (hHeld.2.2.2.2)
              refine ⟨_, rfl, ?_⟩
              replace HO_21 := rb_ HO_21 hb
              replace HO_340000 := rb_ HO_340000 hb
              replace BK339 := Aside0.mk (bb_ BK339 hb)
              replace BK341 := Aside0.mk (bb_ BK341 hb)
              replace HB := Aside0.mk (bt_ HB hb)
              (try clear hb)
              (try clear hb2)
              (try clear hk)
              (try clear hi)
              refine hK.out _ _ ⟨(blk_cell BK339.out 0).trans rfl, (blk_cell BK341.out 0).trans rfl, (blk_cell BK341.out 1).trans rfl, HS3_, HS4_⟩ (fun hHeld => ?_)
              clear hK K
              refine nz_ 38 ?_
              refine pz_ 10 39 ba14_11 HT_ ?_
              refine pz_ 11 40 ba14_12 HT_ ?_
              refine done_ (done_of HT_.out (by kernel_rfl)) ?_
              have hcz56_0 := cz_ BK339 0 (.slice (some ad345) x340000_2.length co52)
              have hfz56_0 := blk_frozen BK339.out 0
              have hcz57_0 := cz_ BK341 0 (.int .i64 ((rd_T28 t335 x23_2).f0))
              have hcz57_1 := cz_ BK341 1 (.int .i64 ((rd_T28 t335 x23_2).f1))
              have hfz57_0 := blk_frozen BK341.out 0
              have hfz57_1 := blk_frozen BK341.out 1
              try go_wp2_with (first | ((with_reducible refine gate_builtin (b := .append) (xs := #[.tmp 41, .tmp 43]) rfl ?_); at_builtin; refine Kd.R_append k28 (w0 := w) w.heap.size rfl (.tmp 41) (.tmp 43) 51 28 (.agg #[(.int .i64 0), (.int .i64 0)]) 16 rfl Try.underlying51 info28 rfl (by decide) (by omega) (.slice (some ad345) x340000_2.length co52) x340000_2 (⟨(rd_T28 t335 x23_2).f0, (rd_T28 t335 x23_2).f1⟩ : S28) [.int .i64 ((rd_T28 t335 x23_2).f0), .int .i64 ((rd_T28 t335 x23_2).f1)] (fun k_ => some k_ ≠ (.slice (some ad340) t335.length co10 : Value).ownBlock ∧ k_ ≠ gb341) (fun _ => False) rfl rfl ?aP (fun _ hk => hk.elim) ?aF ?aO ?aB ?aS ?aL ?_; (case aP => exact k28_mkM _ _ _ (⟨(rd_T28 t335 x23_2).f0, (rd_T28 t335 x23_2).f1⟩ : S28)); (case aB => exact (by repeat (first | (with_reducible first | exact HB.out | apply below_alloc | apply pw_below_drewN | apply below_drew1 | refine below_set ?_ GE339.out | refine below_set ?_ GE341.out) | exact HB.out))); (case aF => exact (fun k_ hk => ⟨Kd.fresh' (Kd.R_lt (hd_ HO_21)) k_ hk, Kd.freshB (g := gb341) (o := .cells #[.int .i64 ((rd_T28 t335 x23_2).f0), .int .i64 ((rd_T28 t335 x23_2).f1)] 28 (0, 0)) (by (with_reducible repeat (first | refine blk_drewN ?_ _ | refine blk_drew ?_ | refine blk_alloc ?_ _)); exact BK341.out) k_ hk⟩)); (case aO => exact (hd_ HO_340000)); (case aS => exact (bz_ HB)); (case aL => have := LMc47.out; omega); intro v348 w58 ho hb hg hat; rw [← Ny347.out] at ho; have HO349 := Aside0.mk ho; replace HO_21 := Aside0.mk (Kd.R_after (ok := (fun k_ => k_ ≠ gb341)) (by (with_reducible repeat (first | apply Kd.R_alloc | apply Kd.R_drewN | apply Kd.R_drew)); exact Kd.R_mono HO_21.out (fun _ hk => by first | exact ⟨hk.2, hk.1⟩ | grind)) hg hat); replace BK339 := Aside0.mk (blk_grown (g := gb339) (o := .cells #[.slice (some ad345) x340000_2.length co52] 51 (0, 0)) (by (with_reducible repeat (first | refine blk_drewN ?_ _ | refine blk_drew ?_ | refine blk_alloc ?_ _)); exact BK339.out) hg (Kd.R_ne HO_340000.out BK339.out (by decide))); replace BK341 := Aside0.mk (blk_grown (g := gb341) (o := .cells #[.int .i64 ((rd_T28 t335 x23_2).f0), .int .i64 ((rd_T28 t335 x23_2).f1)] 28 (0, 0)) (by (with_reducible repeat (first | refine blk_drewN ?_ _ | refine blk_drew ?_ | refine blk_alloc ?_ _)); exact BK341.out) hg (Kd.R_away HO_340000.out (fun _ hk => hk.2))); replace HB := Aside0.mk (hb); clear HO_340000; clear ho hb hg hat; obtain ⟨Ao59, co59, eo59⟩ := Kd.R_slice HO349.out; subst eo59; have hcz60_0 := cz_ BK339 0 (.slice (some ad345) x340000_2.length co52); have hfz60_0 := blk_frozen BK339.out 0))
              (try simp only [← hl21_2])
              go_roundg k2
              case measure => have := HJ1.out; have := HK2.out; omega
              case rel => exact ⟨(wrap64 (x23_2 + 1)), (y347), (.slice Ao59 y347.length co59), (by first | rfl | (simp; done) | (simp [*]; done)), H', ⟨by have := HJ1.out; have := HK2.out; omega⟩, ⟨by (try simp only [hl21_2]); (with_reducible repeat (first | apply Kd.R_alloc | apply Kd.R_drewN | apply Kd.R_drew)); exact Kd.R_mono (Kd.R_far (p := ⟨gb339, 0, none⟩) (Kd.R_types HO_21.out BK339.out (by decide)) (fun _ hk => hk.2) (.slice Ao59 y347.length co59)) (fun _ hk => hk.1.2)⟩, ⟨by (try simp only [hl21_2]); (with_reducible repeat (first | apply Kd.R_alloc | apply Kd.R_drewN | apply Kd.R_drew)); exact Kd.R_mono (Kd.R_far (p := ⟨gb339, 0, none⟩) (Kd.R_types HO349.out BK339.out (by decide)) (fun _ hk => hk.2) (.slice Ao59 y347.length co59)) (fun _ hk => hk.1.1)⟩, ⟨by (try simp only [hl21_2]); (with_reducible repeat (first | refine blk_drewN ?_ _ | refine blk_drew ?_ | refine blk_alloc ?_ _)); refine blk_put (cs := #[.slice (some ad345) x340000_2.length co52]) ?_ 0 _ rfl; (with_reducible repeat (first | refine blk_drewN ?_ _ | refine blk_drew ?_ | refine blk_alloc ?_ _)); exact BK339.out⟩, ⟨by repeat (first | (with_reducible first | exact HB.out | apply below_alloc | apply pw_below_drewN | apply below_drew1 | refine below_set ?_ GE339.out | refine below_set ?_ GE341.out) | exact HB.out)⟩⟩
             ·rw [if_neg c47] at H
              exact absurd H (by simp)
           ·rw [if_neg c36] at H
            exact absurd H (by simp)
          ·rw [if_neg c35] at H
           exact absurd H (by simp)
        ·rw [if_neg c19] at H
         exact absurd H (by simp)
       ·rw [if_neg c18] at H
        exact absurd H (by simp)
      ·rw [if_neg c17] at H
       have c17b0 : decide (x23_2 < (t332.length : Int)) = false := decide_eq_false c17
       (try simp only [hl21_2] at c17b0)
       clear c17
       replace H := Option.bind_eq_some_iff.mp H
       obtain ⟨t350, A610, H⟩ := H
       have A61 := Aside0.mk A610
       clear A610
       simp only [Option.some.injEq, Prod.mk.injEq] at H
       obtain ⟨rfl, rfl⟩ := H
       obtain ⟨Ao62, co62, eo62⟩ := Kd.R_slice HO_340000.out
       subst eo62
       go_wp2_with (first | ((with_reducible refine gate_callee (f := 79) rfl ?_); refine gl_ (some 48) Try.func79 #[.agg #[.int .i64 0, .int .i64 0], .func (.func 80) #[] #[.pointer (some ⟨gb339, 0, none⟩)], .slice none 0 0] ?_; (refine (impl_shortest.calls k2 0 0 _ [x340000_2] (fun k_ => some k_ = (.slice none 0 0 : Value).ownBlock) (.slice none 0 0) ([] : List (S28)) t350 w _ ?side1 ?side2 ?side3 A61.out).mono ?_); (case side1 => exact by_ HB); (case side2 => exact C_box1_kept (cs := [.slice Ao62 x340000_2.length co62]) (by (with_reducible repeat (first | refine blk_drewN ?_ _ | refine blk_drew ?_ | refine blk_alloc ?_ _)); exact BK339.out) (fun hs_ => (fun e_ => by simp [Value.ownBlock] at e_) hs_) (fun W_ hk_ => ⟨_, _, rfl, ((Kd.R_reads' HO_340000.out).2.1), (Kd.C_kept_own (HO_340000.out) (fun k_ hk_ hs_ => (fun e_ => by simp [Value.ownBlock] at e_) hs_)) _ hk_⟩)); (case side3 => exact Kd.R_nil _ _ _ _ _); rintro e w63 ⟨v351, rfl, ho0, hb, hkp⟩; refine ⟨_, rfl, ?_⟩; have HO352 := Aside0.mk (Kd.R_mono (ok' := fun k_ => some k_ ≠ (.slice Ao10 t335.length co10 : Value).ownBlock ∧ some k_ ≠ (.slice Ao62 x340000_2.length co62 : Value).ownBlock) ho0 (fun k_ hk_ => ⟨Or.elim hk_ (fun hs_ => absurd hs_ (by simp [Value.ownBlock])) (fun hn_ => (Kd.fresh' (Kd.R_lt (hd_ HO_21)) k_ hn_)), Or.elim hk_ (fun hs_ => absurd hs_ (by simp [Value.ownBlock])) (fun hn_ => (Kd.fresh' (Kd.R_lt (hd_ HO_340000)) k_ hn_))⟩)); replace BK339 := bk_ BK339 hkp (fun hs_ => (fun e_ => by simp [Value.ownBlock] at e_) hs_); replace HO_21 := kp_ (fun k_ => some k_ ≠ (.slice Ao62 x340000_2.length co62 : Value).ownBlock ∧ some k_ ≠ (v351 : Value).ownBlock) (HO_21.out) hkp (hne := (fun k_ hk_ hs_ => (fun e_ => by simp [Value.ownBlock] at e_) hs_)) (ho := (fun k_ hk_ => ⟨hk_.1, fun e_ => Or.elim (ho0.1 k_ e_.symm) (fun hs_ => hk_.2.1 hs_) (fun hn_ => Nat.not_le.2 hk_.2.2 hn_)⟩)); replace HO_340000 := kp_ (fun k_ => some k_ ≠ (.slice Ao10 t335.length co10 : Value).ownBlock ∧ some k_ ≠ (v351 : Value).ownBlock) (HO_340000.out) hkp (hne := (fun k_ hk_ hs_ => (fun e_ => by simp [Value.ownBlock] at e_) hs_)) (ho := (fun k_ hk_ => ⟨hk_.1, fun e_ => Or.elim (ho0.1 k_ e_.symm) (fun hs_ => hk_.2.1 hs_) (fun hn_ => Nat.not_le.2 hk_.2.2 hn_)⟩)); replace HB := Aside0.mk (hb); (try clear hb); (try clear hkp); (try clear ho0)))
       go_ret2
       exact ⟨_, by first | rfl | (simp [errW_none, errW_some] <;> rfl) | (simp [*, errW_none, errW_some] <;> rfl), by (with_reducible repeat (first | apply Kd.R_alloc | apply Kd.R_drewN | apply Kd.R_drew)); exact Kd.R_mono HO352.out (fun _ hk => trivial), by repeat (first | (with_reducible first | exact HB.out | apply below_alloc | apply pw_below_drewN | apply below_drew1 | refine below_set ?_ GE339.out) | exact HB.out)⟩

/-! ### laws_markPrefixS: function 32 -/
def laws_markPrefixS.l0 : Nat → List (S28) → Int → Int → Option (Int × (List (S28)))
 | 0, _, _, _ => none
 | k + 1, x0, x1, x5 => if x5 < (x0.length : Int) then (if 0 ≤ x5 then ((some (x0.set (x5 : Int).toNat (⟨x1, (rd_T28 x0 x5).f1⟩ : S28) : List (S28))).bind fun y353 => (laws_markPrefixS.l0 k (y353.set (x5 : Int).toNat (⟨(rd_T28 y353 x5).f0, wrap64 (x1 + 1)⟩ : S28)) (wrap64 ((wrap64 (x1 + 1)) + 1)) (wrap64 (x5 + 1)))) else (none)) else (some (x1, x0))
def laws_markPrefixS.f (k : Nat) (l0 : List (S28)) (a1 : Int) : Option (Int × (List (S28))) := laws_markPrefixS.l0 k l0 a1 0
theorem laws_markPrefixS.mono_l : ∀ k, (∀ y0 y1 y2, LeO (laws_markPrefixS.l0 k y0 y1 y2) (laws_markPrefixS.l0 (k + 1) y0 y1 y2))
 | 0 => fun _ _ _ r h => by simp [laws_markPrefixS.l0] at h
 | k + 1 => by
  have ih0 := laws_markPrefixS.mono_l k
  ·intro y0 y1 y2
   unfold laws_markPrefixS.l0
   repeat' first
   | (with_reducible exact ih0 _ _ _)
   | (with_reducible exact LeO.refl _)
   | (with_reducible exact LeO.none _)
   | (with_reducible refine LeO.ite ?_ ?_)
   | (with_reducible refine LeO.bind ?_ (fun _ => ?_))
   | exact ih0 _ _ _
   | exact LeO.none _
   | refine LeO.ite ?_ ?_
   | refine LeO.bind ?_ (fun _ => ?_)
theorem laws_markPrefixS.mono : ∀ a0 a1 k, LeO (laws_markPrefixS.f k a0 a1) (laws_markPrefixS.f (k + 1) a0 a1) := by
 intro a0 a1 k
 have ih0 := laws_markPrefixS.mono_l k
 unfold laws_markPrefixS.f
 repeat' first
   | (with_reducible exact ih0 _ _ _)
   | (with_reducible exact LeO.refl _)
   | (with_reducible exact LeO.none _)
   | (with_reducible refine LeO.ite ?_ ?_)
   | (with_reducible refine LeO.bind ?_ (fun _ => ?_))
   | exact ih0 _ _ _
   | exact LeO.none _
   | refine LeO.ite ?_ ?_
   | refine LeO.bind ?_ (fun _ => ?_)
set_option maxHeartbeats 8000000 in
set_option maxRecDepth 100000 in
theorem laws_markPrefixS.calls (k : Nat) (P0_ : Nat → Prop) (u9000_ : Value) (l0 : List (S28)) (a1 : Int) (r1 : Int) (r2 : List (S28)) (w0 w : World) (hB : Below w0.heap.size w0 w) (ho0 : Kd.R k28 28 w w0.heap.size P0_ u9000_ l0) (h : laws_markPrefixS.f k l0 a1 = some (r1, r2)) :
  Calls Try.prog 32 #[u9000_, .int .i64 a1] w fun e w' => e = .returned (.int .i64 r1) ∧ Kd.R k28 28 w' w0.heap.size (fun k_ => (P0_ k_ ∨ w.heap.size ≤ k_)) u9000_ r2 ∧ Below w0.heap.size w0 w' ∧ Kept w w' (fun k_ => P0_ k_) := by
 have HO0 := Aside0.mk (show Kd.R k28 28 w w0.heap.size (fun k_ => (P0_ k_ ∨ w.heap.size ≤ k_)) u9000_ l0 from Kd.R_mono ho0 (fun k_ hk => (.inl hk)))
 have HK := Aside0.mk (Kept.refl w (fun k_ => P0_ k_))
 have HW0 := Aside0.mk hB.size
 have HB := Aside0.mk hB
 clear hB
 have H : (laws_markPrefixS.l0 k l0 a1 0) = some (r1, r2) := h
 clear h
 have H' := Aside0.mk H
 clear H
 go_enter Try.func32, Try.ntmps32
 go_wp2
 go_loopg [1, 5] k (fun kq v1 v5 w' => ∃ (x0_1 : List (S28)) (x1_1 : Int) (x5_1 : Int), v1 = .int .i64 x1_1 ∧ v5 = .int .i64 x5_1 ∧ Aside0 (laws_markPrefixS.l0 kq x0_1 x1_1 x5_1 = some (r1, r2)) ∧ Aside0 (kq ≤ k) ∧ Aside0 (Kd.R k28 28 w' w0.heap.size (fun k_ => (P0_ k_ ∨ w.heap.size ≤ k_)) u9000_ x0_1) ∧ Aside0 (Kept w w' (fun k_ => P0_ k_)) ∧ Aside0 (Below w0.heap.size w0 w'))
 case atStart => exact ⟨(l0), (a1), (0), (by first | rfl | (simp; done) | (simp [*]; done)), (by first | rfl | (simp; done) | (simp [*]; done)), H', ⟨Nat.le_refl _⟩, ⟨by (with_reducible repeat (first | apply Kd.R_alloc | apply Kd.R_drewN | apply Kd.R_drew)); exact HO0.out⟩, ⟨by repeat (first | (with_reducible first | exact HK.out | apply Kept.alloc | apply Kept.drewN | apply Kept.drew) | exact HK.out)⟩, ⟨by repeat (first | (with_reducible first | exact HB.out | apply below_alloc | apply pw_below_drewN | apply below_drew1) | exact HB.out)⟩⟩
 case round =>
  clear H'
  try clear p2
  obtain ⟨x0_1, x1_1, x5_1, rfl, rfl, HA, HK1, HO_0, HK, HB⟩ := hrel
  cases gk with
  | zero => exact absurd HA.out (by simp [laws_markPrefixS.l0])
  | succ k1 =>
   have H := HA.out
   clear HA
   simp only [laws_markPrefixS.l0] at H
   by_cases c3 : x5_1 < (x0_1.length : Int)
   ·rw [if_pos c3] at H
    have c3b0 : decide (x5_1 < (x0_1.length : Int)) = true := decide_eq_true c3
    clear c3
    by_cases c4 : 0 ≤ x5_1
    ·rw [if_pos c4] at H
     have c4b0 : decide (0 ≤ x5_1) = true := decide_eq_true c4
     clear c4
     obtain ⟨y353, hy353⟩ : ∃ y_ : List (S28), y_ = (x0_1.set (x5_1 : Int).toNat (⟨x1_1, (rd_T28 x0_1 x5_1).f1⟩ : S28)) := ⟨_, rfl⟩
     replace H : (laws_markPrefixS.l0 k1 (y353.set (x5_1 : Int).toNat (⟨(rd_T28 y353 x5_1).f0, wrap64 (x1_1 + 1)⟩ : S28)) (wrap64 ((wrap64 (x1_1 + 1)) + 1)) (wrap64 (x5_1 + 1))) = some (r1, r2) := by first | (rw [hy353]; with_reducible exact H) | (have H2_ := (Option.bind_some _ _).symm.trans H; rw [hy353]; with_reducible exact H2_) | (have H2_ := (Option.bind_some _ _).symm.trans H; with_reducible exact H2_) | with_reducible exact H | (rw [hy353]; exact H) | exact H
     have Ny353 := Aside0.mk hy353
     clear hy353
     obtain ⟨y354, hy354⟩ : ∃ y_ : List (S28), y_ = (y353.set (x5_1 : Int).toNat (⟨(rd_T28 y353 x5_1).f0, wrap64 (x1_1 + 1)⟩ : S28)) := ⟨_, rfl⟩
     replace H : (laws_markPrefixS.l0 k1 y354 (wrap64 ((wrap64 (x1_1 + 1)) + 1)) (wrap64 (x5_1 + 1))) = some (r1, r2) := by first | (rw [hy354]; with_reducible exact H) | (have H2_ := (Option.bind_some _ _).symm.trans H; rw [hy354]; with_reducible exact H2_) | (have H2_ := (Option.bind_some _ _).symm.trans H; with_reducible exact H2_) | with_reducible exact H | (rw [hy354]; exact H) | exact H
     have Ny354 := Aside0.mk hy354
     clear hy354
     have H' := Aside0.mk H
     clear H
     obtain ⟨Ao7, co7, eo7⟩ := Kd.R_slice HO_0.out
     subst eo7
     have p5 : 0 ≤ (x5_1 : Int) := of_decide_eq_true (by first | (with_reducible assumption) | assumption)
     have q5 : (x5_1 : Int) < ((x0_1.length : Int) : Int) := of_decide_eq_true (by first | (with_reducible assumption) | assumption)
     obtain ⟨go5, co5, eo5, gb5, gl5, cl5, HG5⟩ := Kd.R_form HO_0.out (by omega)
     (first | cases eo5 | (injection eo5 with ea_ en_ ec_; (first | subst ea_ | (injection ea_ with ea_; subst ea_)); subst ec_; clear en_))
     have GB5 := Aside0.mk gb5
     have GG5 := Aside0.mk HG5
     clear gb5 gl5 HG5
     have HMgo5 := Aside0.mk (show (P0_ go5 ∨ w.heap.size ≤ go5) from (HO_0.out.1 _ rfl))
     obtain ⟨ce5, hcl5, hM5, hcc5, hfr5⟩ := Kd.R_elem HO_0.out z28 (x5_1 : Int) p5 q5
     obtain rfl := k28_openM hM5
     have hx5_0 : wr.cell? ⟨go5, (x5_1 : Int).toNat * 2, none⟩ = some (.int .i64 ((rd_T28 x0_1 x5_1).f0)) := hcc5 0 _ rfl
     have hx5_1 : wr.cell? ⟨go5, (x5_1 : Int).toNat * 2 + 1, none⟩ = some (.int .i64 ((rd_T28 x0_1 x5_1).f1)) := hcc5 1 _ rfl
     have hf5_0 : wr.frozen? ⟨go5, (x5_1 : Int).toNat * 2, none⟩ = false := hfr5 0
     have hf5_1 : wr.frozen? ⟨go5, (x5_1 : Int).toNat * 2 + 1, none⟩ = false := hfr5 1
     clear hcl5 hcc5 hfr5 hM5
     replace p5 := eq_true p5
     replace q5 := eq_true q5
     have HX8 := Aside0.mk (show Kd.R k28 28 wr w0.heap.size (fun k_ => (P0_ k_ ∨ w.heap.size ≤ k_)) (.slice (some ⟨go5, 0, none⟩) x0_1.length co7) x0_1 from (hd_ HO_0))
     obtain ⟨ce8, hcl8, hM8, hcc8, hfr8⟩ := Kd.R_elem HX8.out z28 (x5_1 : Int) (of_decide_eq_true (by first | (with_reducible assumption) | assumption)) (by have h_ : (x5_1 : Int) < ((x0_1.length : Int) : Int) := of_decide_eq_true (by first | (with_reducible assumption) | assumption); first | exact h_ | (have e_ := (Kd.R_reads' HO_0.out).1; omega) | simpa using h_)
     obtain rfl := k28_openM hM8
     have HP8 := Kd.R_seg HX8.out (x5_1 : Int) (of_decide_eq_true (by first | (with_reducible assumption) | assumption)) (by have h_ : (x5_1 : Int) < ((x0_1.length : Int) : Int) := of_decide_eq_true (by first | (with_reducible assumption) | assumption); first | exact h_ | (have e_ := (Kd.R_reads' HO_0.out).1; omega) | simpa using h_) (seg := [.int .i64 x1_1]) (j := 0) hcl8 hcc8 (show 1 ≤ 2 from by decide) (x' := (⟨x1_1, (rd_T28 x0_1 x5_1).f1⟩ : S28)) (k28_mkM _ _ _ (⟨x1_1, (rd_T28 x0_1 x5_1).f1⟩ : S28) ) (fun _ hk => hk)
     have hx8_0 := hcc8 0 _ rfl
     (try simp only [show (k28).sz = 2 from rfl, Nat.mul_one, Nat.add_zero] at hx8_0)
     have hf8_0 := hfr8 0
     (try simp only [show (k28).sz = 2 from rfl, Nat.mul_one, Nat.add_zero] at hf8_0)
     clear hcl8 hcc8 hfr8 hM8
     go_wp2_with (first | ((with_reducible refine gate_store (t := 3) (p := 16) rfl ?_); refine store_event (t := 3) (p := 16) (v := ?vo_w9) (w1 := (wr.setCell ⟨go5, (x5_1 : Int).toNat * 2, none⟩ (.int .i64 x1_1))) ?hg ?ho ?hn ?hr ?_; (case ho => rfl); (case hg => rfl); (case hn => rfl); (case hr => first | (go_simp; done) | (go_simp; rfl)); intro w9 hw; have hg : wr.grownBy w9 (some go5) := (by rw [hw]; exact HP8.2); have hp_ : Kd.R k28 28 w9 w0.heap.size (fun k_ => (P0_ k_ ∨ w.heap.size ≤ k_)) (.slice (some ⟨go5, 0, none⟩) x0_1.length co7) y353 := (by rw [hw, Ny353.out]; exact HP8.1); clear HP8; replace HB := Aside0.mk ((by rw [hw]; exact below_set (HB.out) GB5.out : Below w0.heap.size w0 w9)); replace HK := Aside0.mk (Kept.of_grown (S := (fun k_ => P0_ k_)) hg (by repeat (first | (with_reducible first | exact HK.out | apply Kept.alloc | apply Kept.drewN | apply Kept.drew) | exact HK.out)) (fun k_ e_ => (HO_0.out.1 k_ e_))); replace HO_0 := Aside0.mk (hp_); clear hg hw hp_; have p6 : 0 ≤ (x5_1 : Int) := of_decide_eq_true (by first | (with_reducible assumption) | assumption); have q6 : (x5_1 : Int) < ((x0_1.length : Int) : Int) := of_decide_eq_true (by first | (with_reducible assumption) | assumption); obtain ⟨ce6, hcl6, hM6, hcc6, hfr6⟩ := Kd.R_elem HO_0.out z28 (x5_1 : Int) p6 q6; obtain rfl := k28_openM hM6; have hx6_0 : w9.cell? ⟨go5, (x5_1 : Int).toNat * 2, none⟩ = some (.int .i64 ((rd_T28 y353 x5_1).f0)) := hcc6 0 _ rfl; have hx6_1 : w9.cell? ⟨go5, (x5_1 : Int).toNat * 2 + 1, none⟩ = some (.int .i64 ((rd_T28 y353 x5_1).f1)) := hcc6 1 _ rfl; have hf6_0 : w9.frozen? ⟨go5, (x5_1 : Int).toNat * 2, none⟩ = false := hfr6 0; have hf6_1 : w9.frozen? ⟨go5, (x5_1 : Int).toNat * 2 + 1, none⟩ = false := hfr6 1; clear hcl6 hcc6 hfr6 hM6; replace p6 := eq_true p6; replace q6 := eq_true q6; have HX10 := Aside0.mk (show Kd.R k28 28 w9 w0.heap.size (fun k_ => (P0_ k_ ∨ w.heap.size ≤ k_)) (.slice (some ⟨go5, 0, none⟩) x0_1.length co7) y353 from (hd_ HO_0)); obtain ⟨ce10, hcl10, hM10, hcc10, hfr10⟩ := Kd.R_elem HX10.out z28 (x5_1 : Int) (of_decide_eq_true (by first | (with_reducible assumption) | assumption)) (by have h_ : (x5_1 : Int) < ((x0_1.length : Int) : Int) := of_decide_eq_true (by first | (with_reducible assumption) | assumption); first | exact h_ | (have e_ := (Kd.R_reads' HO_0.out).1; omega) | simpa using h_); obtain rfl := k28_openM hM10; have HP10 := Kd.R_seg HX10.out (x5_1 : Int) (of_decide_eq_true (by first | (with_reducible assumption) | assumption)) (by have h_ : (x5_1 : Int) < ((x0_1.length : Int) : Int) := of_decide_eq_true (by first | (with_reducible assumption) | assumption); first | exact h_ | (have e_ := (Kd.R_reads' HO_0.out).1; omega) | simpa using h_) (seg := [.int .i64 (wrap64 (x1_1 + 1))]) (j := 1) hcl10 hcc10 (show 2 ≤ 2 from by decide) (x' := (⟨(rd_T28 y353 x5_1).f0, wrap64 (x1_1 + 1)⟩ : S28)) (k28_mkM _ _ _ (⟨(rd_T28 y353 x5_1).f0, wrap64 (x1_1 + 1)⟩ : S28) ) (fun _ hk => hk); have hx10_1 := hcc10 1 _ rfl; (try simp only [show (k28).sz = 2 from rfl, Nat.mul_one, Nat.add_zero] at hx10_1); have hf10_1 := hfr10 1; (try simp only [show (k28).sz = 2 from rfl, Nat.mul_one, Nat.add_zero] at hf10_1); clear hcl10 hcc10 hfr10 hM10) | ((with_reducible refine gate_store (t := 3) (p := 23) rfl ?_); refine store_event (t := 3) (p := 23) (v := ?vo_w11) (w1 := (w9.setCell ⟨go5, (x5_1 : Int).toNat * 2 + 1, none⟩ (.int .i64 (wrap64 (x1_1 + 1))))) ?hg ?ho ?hn ?hr ?_; (case ho => rfl); (case hg => rfl); (case hn => rfl); (case hr => first | (go_simp; done) | (go_simp; rfl)); intro w11 hw; have hg : w9.grownBy w11 (some go5) := (by rw [hw]; exact HP10.2); have hp_ : Kd.R k28 28 w11 w0.heap.size (fun k_ => (P0_ k_ ∨ w.heap.size ≤ k_)) (.slice (some ⟨go5, 0, none⟩) x0_1.length co7) y354 := (by rw [hw, Ny354.out]; exact HP10.1); clear HP10; replace HB := Aside0.mk ((by rw [hw]; exact below_set (HB.out) GB5.out : Below w0.heap.size w0 w11)); replace HK := Aside0.mk (Kept.of_grown (S := (fun k_ => P0_ k_)) hg (by repeat (first | (with_reducible first | exact HK.out | apply Kept.alloc | apply Kept.drewN | apply Kept.drew) | exact HK.out)) (fun k_ e_ => (HO_0.out.1 k_ e_))); replace HO_0 := Aside0.mk (hp_); clear hg hw hp_))
     go_roundg k1
     case measure => have := HK1.out; omega
     case rel => exact ⟨(y354), (wrap64 ((wrap64 (x1_1 + 1)) + 1)), (wrap64 (x5_1 + 1)), (by first | rfl | (simp; done) | (simp [*]; done)), (by first | rfl | (simp; done) | (simp [*]; done)), H', ⟨by have := HK1.out; omega⟩, ⟨by (with_reducible repeat (first | apply Kd.R_alloc | apply Kd.R_drewN | apply Kd.R_drew)); exact HO_0.out⟩, ⟨by repeat (first | (with_reducible first | exact HK.out | apply Kept.alloc | apply Kept.drewN | apply Kept.drew) | exact HK.out)⟩, ⟨by repeat (first | (with_reducible first | exact HB.out | apply below_alloc | apply pw_below_drewN | apply below_drew1) | exact HB.out)⟩⟩
    ·rw [if_neg c4] at H
     exact absurd H (by simp)
   ·rw [if_neg c3] at H
    have c3b0 : decide (x5_1 < (x0_1.length : Int)) = false := decide_eq_false c3
    clear c3
    simp only [Option.some.injEq, Prod.mk.injEq] at H
    obtain ⟨rfl, rfl⟩ := H
    obtain ⟨Ao12, co12, eo12⟩ := Kd.R_slice HO_0.out
    subst eo12
    go_wp2
    go_ret
    exact ⟨by first | rfl | (simp [errW_none, errW_some] <;> rfl) | (simp [*, errW_none, errW_some] <;> rfl), by (with_reducible repeat (first | apply Kd.R_alloc | apply Kd.R_drewN | apply Kd.R_drew)); exact HO_0.out, by repeat (first | (with_reducible first | exact HB.out | apply below_alloc | apply pw_below_drewN | apply below_drew1) | exact HB.out), by repeat (first | (with_reducible first | exact HK.out | apply Kept.alloc | apply Kept.drewN | apply Kept.drew) | exact HK.out)⟩

end Go.Proofs.Ytjepmdngbafonaa.QFnExactAggregate
