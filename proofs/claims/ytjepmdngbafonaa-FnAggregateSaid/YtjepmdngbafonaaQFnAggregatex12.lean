/- Contracts of functions that the law reaches: what each call returns and what it leaves in memory. Made by this session over the print of the kit. -/
import Derived.Test.YtjepmdngbafonaaQFnAggregatex0
import Derived.Test.YtjepmdngbafonaaQFnAggregatex2
import Derived.Test.YtjepmdngbafonaaQFnAggregatex10
import Derived.Test.YtjepmdngbafonaaQFnAggregatex11
namespace Go.Proofs.Ytjepmdngbafonaa.QFnAggregate
open Go.RowKit Go.Proofs.YtjepmdngbafonaaB.PrintWords Go.Proofs.YtjepmdngbafonaaB.PrintLast Go.Proofs.YtjepmdngbafonaaB.PrintMore
attribute [local go_sem] max2_int min2_int max_two min_two max_three min_three max_four min_four   -- for this text's walks alone
set_option linter.unusedVariables false
set_option linter.unusedSimpArgs false
abbrev tb12 : Bool := true
abbrev fb12 : Bool := false
def ba12_0 : Array Bool := #[fb12,fb12,fb12,fb12,fb12,fb12,fb12,fb12,fb12,fb12,fb12,fb12]
def ba12_1 : Array Bool := #[tb12,fb12,fb12,fb12,fb12,fb12,fb12,fb12,fb12,fb12,fb12,fb12]
def ba12_2 : Array Bool := #[tb12,tb12,fb12,fb12,fb12,fb12,fb12,fb12,fb12,fb12,fb12,fb12]
def ba12_3 : Array Bool := #[tb12,tb12,tb12,fb12,fb12,fb12,fb12,fb12,fb12,fb12,fb12,fb12]
def ba12_4 : Array Bool := #[tb12,tb12,tb12,tb12,fb12,fb12,fb12,fb12,fb12,fb12,fb12,fb12]
def ba12_5 : Array Bool := #[tb12,tb12,tb12,tb12,tb12,fb12,fb12,fb12,fb12,fb12,fb12,fb12]
def ba12_6 : Array Bool := #[tb12,tb12,tb12,tb12,tb12,tb12,fb12,fb12,fb12,fb12,fb12,fb12]
def ba12_7 : Array Bool := #[tb12,tb12,tb12,tb12,tb12,tb12,tb12,fb12,fb12,fb12,fb12,fb12]
def ba12_8 : Array Bool := #[tb12,tb12,tb12,tb12,tb12,tb12,tb12,tb12,fb12,fb12,fb12,fb12]
def ba12_9 : Array Bool := #[tb12,tb12,tb12,tb12,tb12,tb12,tb12,tb12,tb12,fb12,fb12,fb12]
def ba12_10 : Array Bool := #[tb12,tb12,tb12,tb12,tb12,tb12,tb12,tb12,tb12,tb12,fb12,fb12]
def ba12_11 : Array Bool := #[tb12,tb12,tb12,tb12,tb12,tb12,tb12,tb12,tb12,tb12,tb12,fb12]
def ba12_12 : Array Bool := #[tb12,tb12,tb12,tb12,tb12,tb12,tb12,tb12,tb12,tb12,tb12,tb12]
def ba12_13 : Array Bool := #[tb12,tb12,tb12,fb12,tb12,fb12,fb12,fb12,fb12,fb12,fb12,fb12]
def ba12_14 : Array Bool := #[tb12,tb12,tb12,fb12,tb12,tb12,fb12,fb12,fb12,fb12,fb12,fb12]

/-! ### impl_Aggregate: function 31 -/
mutual
def impl_Aggregate.j0 : Nat → List (S28) → Bool → Option ((List (S28)) × Bool)
 | 0, _, _ => none
 | k + 1, x0, x15 => if x15 = true then (some (([] : List (S28)), false)) else ((slices_Clone_impl_Prefix_impl_Prefix.f x0).bind fun t271 => ((slices_SortFunc_impl_Prefix_impl_Prefix.f t271).bind fun t274 => (impl_Aggregate.l0 k t274 (t271.length : Int) 0 (([] : List (S28))))))
def impl_Aggregate.l0 : Nat → List (S28) → Int → Int → List (S28) → Option ((List (S28)) × Bool)
 | 0, _, _, _, _ => none
 | k + 1, x21, x22, x23, x279000 => if x23 < x22 then (if 0 ≤ x23 then (if x23 < (x21.length : Int) then (if (x279000.length : Int) = 0 then (if x279000.length < 8796093022208 then (impl_Aggregate.l0 k x21 x22 (wrap64 (x23 + 1)) (x279000 ++ [(⟨(rd_T28 x21 x23).f0, (rd_T28 x21 x23).f1⟩ : S28)])) else (none)) else (if 0 ≤ (wrap64 ((x279000.length : Int) - 1)) then (if (wrap64 ((x279000.length : Int) - 1)) < (x279000.length : Int) then ((impl_Prefix_covers.f ((rd_T28 x279000 (wrap64 ((x279000.length : Int) - 1))).f0) ((rd_T28 x279000 (wrap64 ((x279000.length : Int) - 1))).f1) ((rd_T28 x21 x23).f0) ((rd_T28 x21 x23).f1)).bind fun t285 => (if t285 = true then (impl_Aggregate.l0 k x21 x22 (wrap64 (x23 + 1)) x279000) else (if x279000.length < 8796093022208 then (impl_Aggregate.l0 k x21 x22 (wrap64 (x23 + 1)) (x279000 ++ [(⟨(rd_T28 x21 x23).f0, (rd_T28 x21 x23).f1⟩ : S28)])) else (none)))) else (none)) else (none))) else (none)) else (none)) else ((impl_shortest.f k 0 0 [x279000] ([] : List (S28))).bind fun t289 => (some (t289, true)))
end
def impl_Aggregate.f (k : Nat) (l0 : List (S28)) : Option ((List (S28)) × Bool) := if (l0.length : Int) > 300 then (impl_Aggregate.j0 k l0 true) else ((slices_ContainsFunc_impl_Prefix_impl_Prefix.f k l0).bind fun t270 => (impl_Aggregate.j0 k l0 t270))
theorem impl_Aggregate.mono_l : ∀ k, (∀ y0 y1, LeO (impl_Aggregate.j0 k y0 y1) (impl_Aggregate.j0 (k + 1) y0 y1)) ∧ (∀ y0 y1 y2 y3, LeO (impl_Aggregate.l0 k y0 y1 y2 y3) (impl_Aggregate.l0 (k + 1) y0 y1 y2 y3))
 | 0 => ⟨fun _ _ r h => by simp [impl_Aggregate.j0] at h, fun _ _ _ _ r h => by simp [impl_Aggregate.l0] at h⟩
 | k + 1 => by
  obtain ⟨ih0, ih1⟩ := impl_Aggregate.mono_l k
  refine ⟨?_, ?_⟩
  ·intro y0 y1
   unfold impl_Aggregate.j0
   repeat' first
   | (with_reducible exact ih0 _ _)
   | (with_reducible exact ih1 _ _ _ _)
   | (with_reducible exact impl_shortest.mono _ _ _ _ _)
   | (with_reducible exact slices_ContainsFunc_impl_Prefix_impl_Prefix.mono _ _)
   | (with_reducible exact LeO.refl _)
   | (with_reducible exact LeO.none _)
   | (with_reducible refine LeO.ite ?_ ?_)
   | (with_reducible refine LeO.bind ?_ (fun _ => ?_))
   | exact ih0 _ _
   | exact ih1 _ _ _ _
   | exact impl_shortest.mono _ _ _ _ _
   | exact slices_ContainsFunc_impl_Prefix_impl_Prefix.mono _ _
   | exact LeO.none _
   | refine LeO.ite ?_ ?_
   | refine LeO.bind ?_ (fun _ => ?_)
  ·intro y0 y1 y2 y3
   unfold impl_Aggregate.l0
   repeat' first
   | (with_reducible exact ih0 _ _)
   | (with_reducible exact ih1 _ _ _ _)
   | (with_reducible exact impl_shortest.mono _ _ _ _ _)
   | (with_reducible exact slices_ContainsFunc_impl_Prefix_impl_Prefix.mono _ _)
   | (with_reducible exact LeO.refl _)
   | (with_reducible exact LeO.none _)
   | (with_reducible refine LeO.ite ?_ ?_)
   | (with_reducible refine LeO.bind ?_ (fun _ => ?_))
   | exact ih0 _ _
   | exact ih1 _ _ _ _
   | exact impl_shortest.mono _ _ _ _ _
   | exact slices_ContainsFunc_impl_Prefix_impl_Prefix.mono _ _
   | exact LeO.none _
   | refine LeO.ite ?_ ?_
   | refine LeO.bind ?_ (fun _ => ?_)
theorem impl_Aggregate.mono : ∀ a0 k, LeO (impl_Aggregate.f k a0) (impl_Aggregate.f (k + 1) a0) := by
 intro a0 k
 obtain ⟨ih0, ih1⟩ := impl_Aggregate.mono_l k
 unfold impl_Aggregate.f
 repeat' first
   | (with_reducible exact ih0 _ _)
   | (with_reducible exact ih1 _ _ _ _)
   | (with_reducible exact impl_shortest.mono _ _ _ _ _)
   | (with_reducible exact slices_ContainsFunc_impl_Prefix_impl_Prefix.mono _ _)
   | (with_reducible exact LeO.refl _)
   | (with_reducible exact LeO.none _)
   | (with_reducible refine LeO.ite ?_ ?_)
   | (with_reducible refine LeO.bind ?_ (fun _ => ?_))
   | exact ih0 _ _
   | exact ih1 _ _ _ _
   | exact impl_shortest.mono _ _ _ _ _
   | exact slices_ContainsFunc_impl_Prefix_impl_Prefix.mono _ _
   | exact LeO.none _
   | refine LeO.ite ?_ ?_
   | refine LeO.bind ?_ (fun _ => ?_)
def impl_Aggregate.T10 : Bool × List (List Nat × List Nat) := (true, [([], []), ([0], [0]), ([1], [1]), ([2], [2]), ([2], [2]), ([4, 2], [2, 4]), ([3, 5, 2], [2, 3, 5]), ([6, 2], [2, 6]), ([2], [2]), ([7, 8, 2, 2], [2, 7, 8]), ([9, 2], [2, 9]), ([2, 10], [2, 10])])
def impl_Aggregate.B10 : List Nat := [0, 1, 3, 7, 7, 23, 63, 127, 7, 511, 1023, 2047]
theorem impl_Aggregate.tab10 : rtab .any (opsOf Try.f31 10) = impl_Aggregate.T10 := by kernel_rfl
theorem impl_Aggregate.bits10 : waitsOk impl_Aggregate.T10.2 impl_Aggregate.B10 = true := by kernel_rfl
set_option maxHeartbeats 8000000 in
set_option maxRecDepth 100000 in
theorem impl_Aggregate.calls (k : Nat) (A0 : Option Addr) (c0 : Nat) (l0 : List (S28)) (r1 : List (S28)) (r2 : Bool) (w : World) (hr0 : Kd.C k28 w A0 l0.length l0) (hc0 : l0.length ≤ c0) (h : impl_Aggregate.f k l0 = some (r1, r2)) :
  Calls Try.prog 31 #[.slice A0 l0.length c0] w fun e w' => ∃ v0_ : Value, e = .returned (.tuple #[v0_, .bool r2]) ∧ Kd.R k28 28 w' w.heap.size (fun _ => True) v0_ r1 ∧ Below w.heap.size w w' := by
 have hu28 := Try.underlying28
 have HR0 := Aside0.mk hr0
 have HC0 := Aside0.mk hc0
 clear hr0 hc0
 have HB := Aside0.mk (Below.refl w.heap.size w)
 have H : (if (l0.length : Int) > 300 then (impl_Aggregate.j0 k l0 true) else ((slices_ContainsFunc_impl_Prefix_impl_Prefix.f k l0).bind fun t270 => (impl_Aggregate.j0 k l0 t270))) = some (r1, r2) := h
 clear h
 have HC2 := Aside0.mk H
 clear H
 go_enter Try.func31, Try.ntmps31
 go_upto_region 1 with (fail)
 go_cut [15] (fun v15 wc => ∃ (kq : Nat) (x15_1 : Bool), v15 = .bool x15_1 ∧ Aside0 (impl_Aggregate.j0 kq l0 x15_1 = some (r1, r2)) ∧ Aside0 (kq ≤ k) ∧ Aside0 (Below w.heap.size w wc))
 case first =>
  have H := HC2.out
  clear HC2
  by_cases c3 : (l0.length : Int) > 300
  ·rw [if_pos c3] at H
   have c3b0 : decide (300 < (l0.length : Int)) = true := decide_eq_true c3
   have c3b1 : decide (300 < l0.length) = true := decide_eq_true (by omega)
   clear c3
   (first | rw [c3b0] | (simp only [i64_w, i32_w]; rw [c3b0]) | skip)
   have H' := Aside0.mk H
   clear H
   go_wp2
   go_meet
   case rel => exact ⟨_, (true), (by first | rfl | (simp; done) | (simp [*]; done)), H', ⟨by first | omega | exact Nat.le_refl _⟩, ⟨by repeat (first | (with_reducible first | exact HB.out | apply below_alloc | apply pw_below_drewN | apply below_drew1) | exact HB.out)⟩⟩
  rw [if_neg c3] at H
  have c3b0 : decide (300 < (l0.length : Int)) = false := decide_eq_false c3
  have c3b1 : decide (300 < l0.length) = false := decide_eq_false (by omega)
  clear c3
  (first | rw [c3b0] | (simp only [i64_w, i32_w]; rw [c3b0]) | skip)
  replace H := Option.bind_eq_some_iff.mp H
  obtain ⟨t270, A40, H⟩ := H
  have A4 := Aside0.mk A40
  clear A40
  have H' := Aside0.mk H
  clear H
  go_wp2_with (first | (go_at_call 72; (with_reducible refine (slices_ContainsFunc_impl_Prefix_impl_Prefix.calls k _ _ l0  t270 _ ?side1 ?side2 A4.out).mono ?_); (case side1 => exact cb_ HR0 HB); (case side2 => exact HC0.out); rintro e w5 ⟨rfl, hb⟩; replace HB := Aside0.mk (bt_ HB hb); (try clear hb); (try clear hb2); (try clear hk); (try clear hi)))
  go_meet
  case rel => exact ⟨_, (t270), (by first | rfl | (simp; done) | (simp [*]; done)), H', ⟨by first | omega | exact Nat.le_refl _⟩, ⟨by repeat (first | (with_reducible first | exact HB.out | apply below_alloc | apply pw_below_drewN | apply below_drew1) | exact HB.out)⟩⟩
 case rest =>
  clear HC2
  try clear p2
  try clear c3
  try clear c3b0
  try clear c3b1
  obtain ⟨kq, x15_1, rfl, HA, HJ1, HB⟩ := hcut
  cases kq with
  | zero => exact absurd HA.out (by simp [impl_Aggregate.j0])
  | succ kj1 =>
   have H := HA.out
   clear HA
   simp only [impl_Aggregate.j0] at H
   by_cases c6 : x15_1 = true
   ·subst c6
    rw [if_pos rfl] at H
    simp only [Option.some.injEq, Prod.mk.injEq] at H
    obtain ⟨rfl, rfl⟩ := H
    go_wp2
    go_ret2
    exact ⟨_, by first | rfl | (simp [errW_none, errW_some] <;> rfl) | (simp [*, errW_none, errW_some] <;> rfl), by first | exact Kd.R_nil _ _ _ _ _ | exact Kd.N_nil _ _ _ _ _ | exact Kd.V_nil _ _ _ _ _ | exact Kd.Q_nil _ _ _ _ _ | exact Kd.S_nil _ _ _ _ _, by repeat (first | (with_reducible first | exact HB.out | apply below_alloc | apply pw_below_drewN | apply below_drew1) | exact HB.out)⟩
   replace c6 := Bool.eq_false_iff.mpr c6
   subst c6
   rw [if_neg (show ¬ (false = true) by decide)] at H
   replace H := Option.bind_eq_some_iff.mp H
   obtain ⟨t271, A70, H⟩ := H
   have A7 := Aside0.mk A70
   clear A70
   replace H := Option.bind_eq_some_iff.mp H
   obtain ⟨t274, A80, H⟩ := H
   have A8 := Aside0.mk A80
   clear A80
   obtain ⟨y275, hy275⟩ : ∃ y_ : List (S28), y_ = (([] : List (S28))) := ⟨_, rfl⟩
   replace H : (impl_Aggregate.l0 kj1 t274 (t271.length : Int) 0 y275) = some (r1, r2) := by first | (rw [hy275]; with_reducible exact H) | (have H2_ := (Option.bind_some _ _).symm.trans H; rw [hy275]; with_reducible exact H2_) | (have H2_ := (Option.bind_some _ _).symm.trans H; with_reducible exact H2_) | with_reducible exact H | (rw [hy275]; exact H) | exact H
   have Ny275 := Aside0.mk hy275
   clear hy275
   have H' := Aside0.mk H
   clear H
   go_wp2_with (first | ((with_reducible refine gate_callee (f := 75) rfl ?_); refine gl_ (some 17) Try.func75 #[.slice A0 l0.length c0] ?_; (with_reducible refine (slices_Clone_impl_Prefix_impl_Prefix.calls _ _ l0 t271 _ ?side1 ?side2 A7.out).mono ?_); (case side1 => exact cb_ HR0 HB); (case side2 => exact HC0.out); rintro e w9 ⟨v272, rfl, ho0, hb⟩; refine ⟨_, rfl, ?_⟩; have HO273 := Aside0.mk (Kd.R_lower ho0 (bz_ HB)); replace HB := Aside0.mk (bt_ HB hb); (try clear hb); (try clear hb2); (try clear hk); (try clear hi); (try clear ho0); obtain ⟨Ao10, co10, eo10⟩ := Kd.R_slice HO273.out; subst eo10) | ((with_reducible refine gate_callee (f := 76) rfl ?_); refine gl_ (some 19) Try.func76 #[.slice Ao10 t271.length co10, .func (.func 77) #[] #[]] ?_; (with_reducible refine (slices_SortFunc_impl_Prefix_impl_Prefix.calls (fun k_ => some k_ = (.slice Ao10 t271.length co10 : Value).ownBlock) (.slice Ao10 t271.length co10) t271  t274 w _ ?side1 ?side2 A8.out).mono ?_); (case side1 => exact by_ HB); (case side2 => exact Kd.R_tight rfl HO273.out); rintro e w11 ⟨rfl, hy0, hb, hkp⟩; refine ⟨_, rfl, ?_⟩; replace HO273 := Aside0.mk (Kd.R_reok rfl hy0 (fun k_ e_ => HO273.out.1 k_ e_)); replace HB := Aside0.mk (hb); (try clear hb); (try clear hkp); (try clear hy0)) | ((with_reducible refine gate_dst (N := 20) rfl ?_); refine Kd.R_lit k28 _ 28 ?hg (N := 20) ?hd (xs := ([] : List (S28))) (inner := []) (ok := fun _ => True) (okp := fun _ => True) ?hr ?hp (fun _ hk => hk) trivial (Below.refl _ _) (Nat.le_refl _) (by simp) ?_; (case hd => rfl); (case hg => rfl); (case hr => first | (go_simp; done) | (go_simp; rfl)); (case hp => exact (Reps.none _ _)); intro v276 w12 ho13 hb hg_ hnew_; clear hg_ hnew_; (first | rw [← Ny275.out] at ho13 | (simp only [Int.reduceToNat] at ho13; rw [← Ny275.out] at ho13)); have HO277 := Aside0.mk (Kd.R_lower (Kd.R_new' ho13 (Kd.R_lt (hd_ HO273))) (bz_ HB)); replace HO273 := Aside0.mk (Kd.R_elder' (hd_ HO273) (Kd.R_base ho13) hb); replace HB := Aside0.mk (bt_ HB hb); clear hb ho13) | ((with_reducible refine gate_dst (N := 5) rfl ?_); refine box_event ?hg (N := 5) ?hd (cs := #[.slice none 0 0]) (t := 51) ?hr ?_; (case hd => rfl); (case hg => rfl); (case hr => first | (go_simp; done) | (go_simp; rfl)); intro gb278 hg w14 hbox hb; have BK278 := Aside0.mk hbox; have GW278 := ge_ HB hg; have GE278 := ge_ HB hg; replace HO273 := rb_ HO273 hb; replace HO277 := rb_ HO277 hb; replace HB := Aside0.mk (bt_ HB hb); clear hb hbox hg; obtain ⟨Ao15, co15, eo15⟩ := Kd.R_slice HO277.out; subst eo15; have hcz16_0 := cz_ BK278 0 (.slice none 0 0); have hfz16_0 := blk_frozen BK278.out 0))
   (try simp only [Act.put, List.setIfInBounds_toArray, List.set_cons_zero, List.set_cons_succ])
   go_loopg [23] kj1 (fun kq v23 w' => ∃ (x23_2 : Int) (x279000_2 : List (S28)) (u279000 : Value), v23 = .int .i64 x23_2 ∧ Aside0 (impl_Aggregate.l0 kq t274 (t271.length : Int) x23_2 x279000_2 = some (r1, r2)) ∧ Aside0 (kq ≤ kj1) ∧ Aside0 (Kd.R k28 28 w' w.heap.size (fun k_ => some k_ ≠ (u279000 : Value).ownBlock) (.slice Ao10 t271.length co10) t274) ∧ Aside0 (Kd.R k28 28 w' w.heap.size (fun k_ => some k_ ≠ ((.slice Ao10 t271.length co10) : Value).ownBlock) u279000 x279000_2) ∧ Aside0 (w'.heap[gb278]? = some (.cells #[u279000] 51 (0, 0))) ∧ Aside0 (Below w.heap.size w w'))
   case atStart => exact ⟨(0), (y275), (.slice Ao15 y275.length co15), (by first | rfl | (simp; done) | (simp [*]; done)), H', ⟨Nat.le_refl _⟩, ⟨by (with_reducible repeat (first | apply Kd.R_alloc | apply Kd.R_drewN | apply Kd.R_drew)); exact Kd.R_mono (Kd.R_far (p := ⟨gb278, 0, none⟩) (Kd.R_types HO273.out BK278.out (by decide)) (fun _ hk => hk.2) (.slice Ao15 y275.length co15)) (fun _ hk => hk.1.2)⟩, ⟨by (with_reducible repeat (first | apply Kd.R_alloc | apply Kd.R_drewN | apply Kd.R_drew)); exact Kd.R_mono (Kd.R_far (p := ⟨gb278, 0, none⟩) (Kd.R_types HO277.out BK278.out (by decide)) (fun _ hk => hk.2) (.slice Ao15 y275.length co15)) (fun _ hk => hk.1.2)⟩, ⟨by (with_reducible repeat (first | refine blk_drewN ?_ _ | refine blk_drew ?_ | refine blk_alloc ?_ _)); refine blk_put (cs := #[.slice none 0 0]) ?_ 0 _ rfl; (with_reducible repeat (first | refine blk_drewN ?_ _ | refine blk_drew ?_ | refine blk_alloc ?_ _)); exact BK278.out⟩, ⟨by repeat (first | (with_reducible first | exact HB.out | apply below_alloc | apply pw_below_drewN | apply below_drew1 | refine below_set ?_ GE278.out) | exact HB.out)⟩⟩
   case round =>
    clear H'
    try clear p2
    try clear c3
    try clear c3b0
    try clear c3b1
    try clear c6
    try clear c7
    try clear hcz16_0
    try clear hfz16_0
    try clear p2
    obtain ⟨x23_2, x279000_2, u279000, rfl, HA, HK2, HO_21, HO_279000, BK278, HB⟩ := hrel
    have hl21_2 := (Kd.R_reads' HO_21.out).1
    rw [hl21_2] at HO_21
    (try simp only [hl21_2])
    (try simp only [hl21_2] at BK278)
    (try simp only [hl21_2] at HO_279000)
    cases gk with
    | zero => exact absurd HA.out (by simp [impl_Aggregate.l0])
    | succ k2 =>
     have H := HA.out
     clear HA
     simp only [impl_Aggregate.l0] at H
     by_cases c17 : x23_2 < (t271.length : Int)
     rotate_left
     ·rw [if_neg c17] at H
      have c17b0 : decide (x23_2 < (t271.length : Int)) = false := decide_eq_false c17
      (try simp only [hl21_2] at c17b0)
      clear c17
      replace H := Option.bind_eq_some_iff.mp H
      obtain ⟨t289, A610, H⟩ := H
      have A61 := Aside0.mk A610
      clear A610
      simp only [Option.some.injEq, Prod.mk.injEq] at H
      obtain ⟨rfl, rfl⟩ := H
      obtain ⟨Ao62, co62, eo62⟩ := Kd.R_slice HO_279000.out
      subst eo62
      go_wp2_with (first | ((with_reducible refine gate_callee (f := 79) rfl ?_); refine gl_ (some 48) Try.func79 #[.agg #[.int .i64 0, .int .i64 0], .func (.func 80) #[] #[.pointer (some ⟨gb278, 0, none⟩)], .slice none 0 0] ?_; (refine (impl_shortest.calls k2 0 0 _ [x279000_2] (fun k_ => some k_ = (.slice none 0 0 : Value).ownBlock) (.slice none 0 0) ([] : List (S28)) t289 w _ ?side1 ?side2 ?side3 A61.out).mono ?_); (case side1 => exact by_ HB); (case side2 => exact C_box1_kept (cs := [.slice Ao62 x279000_2.length co62]) (by (with_reducible repeat (first | refine blk_drewN ?_ _ | refine blk_drew ?_ | refine blk_alloc ?_ _)); exact BK278.out) (fun hs_ => (fun e_ => by simp [Value.ownBlock] at e_) hs_) (fun W_ hk_ => ⟨_, _, rfl, ((Kd.R_reads' HO_279000.out).2.1), (Kd.C_kept_own (HO_279000.out) (fun k_ hk_ hs_ => (fun e_ => by simp [Value.ownBlock] at e_) hs_)) _ hk_⟩)); (case side3 => exact Kd.R_nil _ _ _ _ _); rintro e w63 ⟨v290, rfl, ho0, hb, hkp⟩; refine ⟨_, rfl, ?_⟩; have HO291 := Aside0.mk (Kd.R_mono (ok' := fun k_ => some k_ ≠ (.slice Ao10 t274.length co10 : Value).ownBlock ∧ some k_ ≠ (.slice Ao62 x279000_2.length co62 : Value).ownBlock) ho0 (fun k_ hk_ => ⟨Or.elim hk_ (fun hs_ => absurd hs_ (by simp [Value.ownBlock])) (fun hn_ => (Kd.fresh' (Kd.R_lt (hd_ HO_21)) k_ hn_)), Or.elim hk_ (fun hs_ => absurd hs_ (by simp [Value.ownBlock])) (fun hn_ => (Kd.fresh' (Kd.R_lt (hd_ HO_279000)) k_ hn_))⟩)); replace BK278 := bk_ BK278 hkp (fun hs_ => (fun e_ => by simp [Value.ownBlock] at e_) hs_); replace HO_21 := kp_ (fun k_ => some k_ ≠ (.slice Ao62 x279000_2.length co62 : Value).ownBlock ∧ some k_ ≠ (v290 : Value).ownBlock) (HO_21.out) hkp (hne := (fun k_ hk_ hs_ => (fun e_ => by simp [Value.ownBlock] at e_) hs_)) (ho := (fun k_ hk_ => ⟨hk_.1, fun e_ => Or.elim (ho0.1 k_ e_.symm) (fun hs_ => hk_.2.1 hs_) (fun hn_ => Nat.not_le.2 hk_.2.2 hn_)⟩)); replace HO_279000 := kp_ (fun k_ => some k_ ≠ (.slice Ao10 t274.length co10 : Value).ownBlock ∧ some k_ ≠ (v290 : Value).ownBlock) (HO_279000.out) hkp (hne := (fun k_ hk_ hs_ => (fun e_ => by simp [Value.ownBlock] at e_) hs_)) (ho := (fun k_ hk_ => ⟨hk_.1, fun e_ => Or.elim (ho0.1 k_ e_.symm) (fun hs_ => hk_.2.1 hs_) (fun hn_ => Nat.not_le.2 hk_.2.2 hn_)⟩)); replace HB := Aside0.mk (hb); (try clear hb); (try clear hkp); (try clear ho0)))
      go_ret2
      exact ⟨_, by first | rfl | (simp [errW_none, errW_some] <;> rfl) | (simp [*, errW_none, errW_some] <;> rfl), by (with_reducible repeat (first | apply Kd.R_alloc | apply Kd.R_drewN | apply Kd.R_drew)); exact Kd.R_mono HO291.out (fun _ hk => trivial), by repeat (first | (with_reducible first | exact HB.out | apply below_alloc | apply pw_below_drewN | apply below_drew1 | refine below_set ?_ GE278.out) | exact HB.out)⟩
     rw [if_pos c17] at H
     have c17b0 : decide (x23_2 < (t271.length : Int)) = true := decide_eq_true c17
     clear c17
     by_cases c18 : 0 ≤ x23_2
     rotate_left
     ·rw [if_neg c18] at H
      exact absurd H (by simp)
     rw [if_pos c18] at H
     have c18b0 : decide (0 ≤ x23_2) = true := decide_eq_true c18
     clear c18
     by_cases c19 : x23_2 < (t274.length : Int)
     rotate_left
     ·rw [if_neg c19] at H
      exact absurd H (by simp)
     rw [if_pos c19] at H
     have c19b0 : decide (x23_2 < (t274.length : Int)) = true := decide_eq_true c19
     clear c19
     by_cases c20 : (x279000_2.length : Int) = 0
     ·rw [if_pos c20] at H
      have c20b0 : ((x279000_2.length : Int) == 0) = true := beq_iff_eq.mpr c20
      have c20b1 : ((x279000_2.length : Int) != 0) = false := bne_eq_false_iff_eq.mpr c20
      clear c20
      by_cases c21 : x279000_2.length < 8796093022208
      rotate_left
      ·rw [if_neg c21] at H
       exact absurd H (by simp)
      rw [if_pos c21] at H
      have LMc21 := Aside0.mk c21
      clear c21
      obtain ⟨y281, hy281⟩ : ∃ y_ : List (S28), y_ = (x279000_2 ++ [(⟨(rd_T28 t274 x23_2).f0, (rd_T28 t274 x23_2).f1⟩ : S28)]) := ⟨_, rfl⟩
      replace H : (impl_Aggregate.l0 k2 t274 (t271.length : Int) (wrap64 (x23_2 + 1)) y281) = some (r1, r2) := by first | (rw [hy281]; with_reducible exact H) | (have H2_ := (Option.bind_some _ _).symm.trans H; rw [hy281]; with_reducible exact H2_) | (have H2_ := (Option.bind_some _ _).symm.trans H; with_reducible exact H2_) | with_reducible exact H | (rw [hy281]; exact H) | exact H
      have Ny281 := Aside0.mk hy281
      clear hy281
      have H' := Aside0.mk H
      clear H
      have p279 : 0 ≤ (x23_2 : Int) := of_decide_eq_true (by first | (with_reducible assumption) | assumption)
      have q279 : x23_2 < (t274.length : Int) := of_decide_eq_true (by first | (with_reducible assumption) | assumption)
      obtain ⟨ad279, e279, hx279_0, hx279_1⟩ := at_T28 (Kd.R_reads' HO_21.out).2.2 x23_2 p279 q279
      cases e279
      replace p279 := eq_true p279
      replace q279 := eq_true q279
      try go_wp2_with (first | ((with_reducible refine gate_dst (N := 7) rfl ?_); refine box_event ?hg (N := 7) ?hd (cs := #[.int .i64 0, .int .i64 0]) (t := 28) ?hr ?_; (case hd => rfl); (case hg => rfl); (case hr => first | (go_simp; done) | (go_simp; rfl)); intro gb280 hg w22 hbox hb; have BK280 := Aside0.mk hbox; have GW280 := ge_ HB hg; have GE280 := ge_ HB hg; have NB278_280 := nl_ BK278 hg; have NB280_278 := ng_ BK278 hg; replace HO_21 := Aside0.mk (Kd.R_below (Kd.R_elderB (hd_ HO_21) gb280 (Nat.le_of_eq hg.symm)) hb); replace HO_279000 := Aside0.mk (Kd.R_below (Kd.R_elderB (hd_ HO_279000) gb280 (Nat.le_of_eq hg.symm)) hb); replace HB := Aside0.mk (bt_ HB hb); replace BK278 := Aside0.mk (bb_ BK278 hb); clear hb hbox hg; have hnb23 := NB280_278.out; have hnc23 := NB278_280.out; have hcz24_0 := cz_ BK280 0 (.int .i64 0); have hcz24_1 := cz_ BK280 1 (.int .i64 0); have hfz24_0 := blk_frozen BK280.out 0; have hfz24_1 := blk_frozen BK280.out 1; have hcz25_0 := cz_ BK278 0 (u279000); have hfz25_0 := blk_frozen BK278.out 0; obtain ⟨Ao26, co26, eo26⟩ := Kd.R_slice HO_279000.out; subst eo26))
      have n0_ : Aside0 (Kd.R k28 28 ((w22.setCell ⟨gb280, 0, none⟩ (.int .i64 ((rd_T28 t274 x23_2).f0))).setCell ⟨gb280, 1, none⟩ (.int .i64 ((rd_T28 t274 x23_2).f1))) w.heap.size (fun k_ => some k_ ≠ (.slice Ao26 x279000_2.length co26 : Value).ownBlock ∧ k_ ≠ gb280) (.slice (some ad279) t274.length co10) t274) := ⟨by (with_reducible repeat (first | apply Kd.R_alloc | apply Kd.R_drewN | apply Kd.R_drew)); exact Kd.R_mono (Kd.R_far (p := ⟨gb280, 1, none⟩) (Kd.R_far (p := ⟨gb280, 0, none⟩) (Kd.R_mono HO_21.out (fun k_ hk => (⟨hk, hk.2⟩ : _ ∧ k_ ≠ gb280))) (fun _ hk => hk.2) (.int .i64 ((rd_T28 t274 x23_2).f0))) (fun _ hk => hk.2) (.int .i64 ((rd_T28 t274 x23_2).f1))) (fun _ hk => by first | exact ⟨hk.1.1, hk.1.2⟩ | grind)⟩
      have n1_ : Aside0 (Kd.R k28 28 ((w22.setCell ⟨gb280, 0, none⟩ (.int .i64 ((rd_T28 t274 x23_2).f0))).setCell ⟨gb280, 1, none⟩ (.int .i64 ((rd_T28 t274 x23_2).f1))) w.heap.size (fun k_ => some k_ ≠ (.slice (some ad279) t274.length co10 : Value).ownBlock ∧ k_ ≠ gb280) (.slice Ao26 x279000_2.length co26) x279000_2) := ⟨by (with_reducible repeat (first | apply Kd.R_alloc | apply Kd.R_drewN | apply Kd.R_drew)); exact Kd.R_mono (Kd.R_far (p := ⟨gb280, 1, none⟩) (Kd.R_far (p := ⟨gb280, 0, none⟩) (Kd.R_mono HO_279000.out (fun k_ hk => (⟨hk, hk.2⟩ : _ ∧ k_ ≠ gb280))) (fun _ hk => hk.2) (.int .i64 ((rd_T28 t274 x23_2).f0))) (fun _ hk => hk.2) (.int .i64 ((rd_T28 t274 x23_2).f1))) (fun _ hk => by first | exact ⟨hk.1.1, hk.1.2⟩ | grind)⟩
      have n2_ : Aside0 (((w22.setCell ⟨gb280, 0, none⟩ (.int .i64 ((rd_T28 t274 x23_2).f0))).setCell ⟨gb280, 1, none⟩ (.int .i64 ((rd_T28 t274 x23_2).f1))).heap[gb278]? = some (.cells #[.slice Ao26 x279000_2.length co26] 51 (0, 0))) := ⟨by (with_reducible repeat (first | refine blk_drewN ?_ _ | refine blk_drew ?_ | refine blk_alloc ?_ _)); refine blk_far ?_ NB278_280.out _; (with_reducible repeat (first | refine blk_drewN ?_ _ | refine blk_drew ?_ | refine blk_alloc ?_ _)); refine blk_far ?_ NB278_280.out _; (with_reducible repeat (first | refine blk_drewN ?_ _ | refine blk_drew ?_ | refine blk_alloc ?_ _)); exact BK278.out⟩
      have n3_ : Aside0 (((w22.setCell ⟨gb280, 0, none⟩ (.int .i64 ((rd_T28 t274 x23_2).f0))).setCell ⟨gb280, 1, none⟩ (.int .i64 ((rd_T28 t274 x23_2).f1))).heap[gb280]? = some (.cells #[.int .i64 ((rd_T28 t274 x23_2).f0), .int .i64 ((rd_T28 t274 x23_2).f1)] 28 (0, 0))) := ⟨by (with_reducible repeat (first | refine blk_drewN ?_ _ | refine blk_drew ?_ | refine blk_alloc ?_ _)); refine blk_put (cs := #[.int .i64 ((rd_T28 t274 x23_2).f0), .int .i64 0]) ?_ 1 _ rfl; (with_reducible repeat (first | refine blk_drewN ?_ _ | refine blk_drew ?_ | refine blk_alloc ?_ _)); refine blk_put (cs := #[.int .i64 0, .int .i64 0]) ?_ 0 _ rfl; (with_reducible repeat (first | refine blk_drewN ?_ _ | refine blk_drew ?_ | refine blk_alloc ?_ _)); exact BK280.out⟩
      have n4_ : Aside0 (Below w.heap.size w ((w22.setCell ⟨gb280, 0, none⟩ (.int .i64 ((rd_T28 t274 x23_2).f0))).setCell ⟨gb280, 1, none⟩ (.int .i64 ((rd_T28 t274 x23_2).f1)))) := ⟨by repeat (first | (with_reducible first | exact HB.out | apply below_alloc | apply pw_below_drewN | apply below_drew1 | refine below_set ?_ GE278.out | refine below_set ?_ GE280.out) | exact HB.out)⟩
      (try clear HO_21)
      (try clear HO_279000)
      (try clear BK278)
      (try clear BK280)
      (try clear HB)
      generalize ((w22.setCell ⟨gb280, 0, none⟩ (.int .i64 ((rd_T28 t274 x23_2).f0))).setCell ⟨gb280, 1, none⟩ (.int .i64 ((rd_T28 t274 x23_2).f1))) = w27 at n0_ n1_ n2_ n3_ n4_ ⊢
      have HO_21 := n0_
      have HO_279000 := n1_
      have BK278 := n2_
      have BK280 := n3_
      have HB := n4_
      clear n0_ n1_ n2_ n3_ n4_
      replace HO_21 := Aside0.mk (Kd.R_drew HO_21.out)
      replace HO_279000 := Aside0.mk (Kd.R_drew HO_279000.out)
      replace BK278 := Aside0.mk (blk_drew BK278.out)
      replace BK280 := Aside0.mk (blk_drew BK280.out)
      replace HB := Aside0.mk (below_drew1 HB.out)
      refine start_ (n := 12) (S := fun w' => True) (ds := []) ba12_0 (by kernel_rfl) rfl rfl trivial (fun hHeld => ?_); refine with_tabW impl_Aggregate.tab10 impl_Aggregate.bits10 (fun HT_ HW_ => ?_)
      generalize w27.drew = w28 at HO_21 HO_279000 BK278 BK280 HB hHeld ⊢
      refine pz_ 0 29 ba12_1 HT_ ?_
      refine pz_ 1 30 ba12_2 HT_ ?_
      refine pz_ 2 31 ba12_3 HT_ ?_
      refine pu_ 3 32 ba12_4 HT_ ?_
      refine pu_ 4 33 ba12_5 HT_ ?_
      refine pu_ 5 34 ba12_6 HT_ ?_
      refine pu_ 6 35 ba12_7 HT_ ?_
      refine pu_ 7 36 ba12_8 HT_ ?_
      refine pu_ 8 37 ba12_9 HT_ ?_
      refine pu_ 9 38 ba12_10 HT_ ?_
      refine pu_ 10 39 ba12_11 HT_ ?_
      refine pz_ 11 40 ba12_12 HT_ ?_
      refine done_ (done_of HT_.out (by kernel_rfl)) ?_
      have hcz29_0 := cz_ BK278 0 (.slice Ao26 x279000_2.length co26)
      have hfz29_0 := blk_frozen BK278.out 0
      have hcz30_0 := cz_ BK280 0 (.int .i64 ((rd_T28 t274 x23_2).f0))
      have hcz30_1 := cz_ BK280 1 (.int .i64 ((rd_T28 t274 x23_2).f1))
      have hfz30_0 := blk_frozen BK280.out 0
      have hfz30_1 := blk_frozen BK280.out 1
      try go_wp2_with (first | ((with_reducible refine gate_builtin (b := .append) (xs := #[.tmp 41, .tmp 43]) rfl ?_); at_builtin; refine Kd.R_append k28 (w0 := w) w.heap.size rfl (.tmp 41) (.tmp 43) 51 28 (.agg #[(.int .i64 0), (.int .i64 0)]) 16 rfl Try.underlying51 info28 rfl (by decide) (by omega) (.slice Ao26 x279000_2.length co26) x279000_2 (⟨(rd_T28 t274 x23_2).f0, (rd_T28 t274 x23_2).f1⟩ : S28) [.int .i64 ((rd_T28 t274 x23_2).f0), .int .i64 ((rd_T28 t274 x23_2).f1)] (fun k_ => some k_ ≠ (.slice (some ad279) t274.length co10 : Value).ownBlock ∧ k_ ≠ gb280) (fun _ => False) rfl rfl ?aP (fun _ hk => hk.elim) ?aF ?aO ?aB ?aS ?aL ?_; (case aP => exact k28_mkM _ _ _ (⟨(rd_T28 t274 x23_2).f0, (rd_T28 t274 x23_2).f1⟩ : S28)); (case aB => exact (by repeat (first | (with_reducible first | exact HB.out | apply below_alloc | apply pw_below_drewN | apply below_drew1 | refine below_set ?_ GE278.out | refine below_set ?_ GE280.out) | exact HB.out))); (case aF => exact (fun k_ hk => ⟨Kd.fresh' (Kd.R_lt (hd_ HO_21)) k_ hk, Kd.freshB (g := gb280) (o := .cells #[.int .i64 ((rd_T28 t274 x23_2).f0), .int .i64 ((rd_T28 t274 x23_2).f1)] 28 (0, 0)) (by (with_reducible repeat (first | refine blk_drewN ?_ _ | refine blk_drew ?_ | refine blk_alloc ?_ _)); exact BK280.out) k_ hk⟩)); (case aO => exact (hd_ HO_279000)); (case aS => exact (bz_ HB)); (case aL => have := LMc21.out; omega); intro v282 w31 ho hb hg hat; rw [← Ny281.out] at ho; have HO283 := Aside0.mk ho; replace HO_21 := Aside0.mk (Kd.R_after (ok := (fun k_ => k_ ≠ gb280)) (by (with_reducible repeat (first | apply Kd.R_alloc | apply Kd.R_drewN | apply Kd.R_drew)); exact Kd.R_mono HO_21.out (fun _ hk => by first | exact ⟨hk.2, hk.1⟩ | grind)) hg hat); replace BK278 := Aside0.mk (blk_grown (g := gb278) (o := .cells #[.slice Ao26 x279000_2.length co26] 51 (0, 0)) (by (with_reducible repeat (first | refine blk_drewN ?_ _ | refine blk_drew ?_ | refine blk_alloc ?_ _)); exact BK278.out) hg (Kd.R_ne HO_279000.out BK278.out (by decide))); replace BK280 := Aside0.mk (blk_grown (g := gb280) (o := .cells #[.int .i64 ((rd_T28 t274 x23_2).f0), .int .i64 ((rd_T28 t274 x23_2).f1)] 28 (0, 0)) (by (with_reducible repeat (first | refine blk_drewN ?_ _ | refine blk_drew ?_ | refine blk_alloc ?_ _)); exact BK280.out) hg (Kd.R_away HO_279000.out (fun _ hk => hk.2))); replace HB := Aside0.mk (hb); clear HO_279000; clear ho hb hg hat; obtain ⟨Ao32, co32, eo32⟩ := Kd.R_slice HO283.out; subst eo32; have hcz33_0 := cz_ BK278 0 (.slice Ao26 x279000_2.length co26); have hfz33_0 := blk_frozen BK278.out 0))
      (try simp only [← hl21_2])
      go_roundg k2
      case measure => have := HJ1.out; have := HK2.out; omega
      case rel => exact ⟨(wrap64 (x23_2 + 1)), (y281), (.slice Ao32 y281.length co32), (by first | rfl | (simp; done) | (simp [*]; done)), H', ⟨by have := HJ1.out; have := HK2.out; omega⟩, ⟨by (try simp only [hl21_2]); (with_reducible repeat (first | apply Kd.R_alloc | apply Kd.R_drewN | apply Kd.R_drew)); exact Kd.R_mono (Kd.R_far (p := ⟨gb278, 0, none⟩) (Kd.R_types HO_21.out BK278.out (by decide)) (fun _ hk => hk.2) (.slice Ao32 y281.length co32)) (fun _ hk => hk.1.2)⟩, ⟨by (try simp only [hl21_2]); (with_reducible repeat (first | apply Kd.R_alloc | apply Kd.R_drewN | apply Kd.R_drew)); exact Kd.R_mono (Kd.R_far (p := ⟨gb278, 0, none⟩) (Kd.R_types HO283.out BK278.out (by decide)) (fun _ hk => hk.2) (.slice Ao32 y281.length co32)) (fun _ hk => hk.1.1)⟩, ⟨by (try simp only [hl21_2]); (with_reducible repeat (first | refine blk_drewN ?_ _ | refine blk_drew ?_ | refine blk_alloc ?_ _)); refine blk_put (cs := #[.slice Ao26 x279000_2.length co26]) ?_ 0 _ rfl; (with_reducible repeat (first | refine blk_drewN ?_ _ | refine blk_drew ?_ | refine blk_alloc ?_ _)); exact BK278.out⟩, ⟨by repeat (first | (with_reducible first | exact HB.out | apply below_alloc | apply pw_below_drewN | apply below_drew1 | refine below_set ?_ GE278.out | refine below_set ?_ GE280.out) | exact HB.out)⟩⟩
     rw [if_neg c20] at H
     have c20b0 : ((x279000_2.length : Int) == 0) = false := beq_eq_false_iff_ne.mpr c20
     have c20b1 : ((x279000_2.length : Int) != 0) = true := bne_iff_ne.mpr c20
     have c20b2 : ¬ (x279000_2 = []) := fun h_ => c20 (by rw [h_]; rfl)
     obtain ⟨ji34, hji34⟩ : ∃ j_ : Int, (wrap64 ((x279000_2.length : Int) - 1)) = j_ := ⟨_, rfl⟩
     first | rw [hji34] at H | simp only [hji34] at H
     have hji34w : (IntKind.i64.wrap ((x279000_2.length : Int) - 1)) = ji34 := (i64_w _).trans hji34
     by_cases c35 : 0 ≤ (ji34)
     rotate_left
     ·rw [if_neg c35] at H
      exact absurd H (by simp)
     rw [if_pos c35] at H
     have c35b0 : decide (0 ≤ (ji34)) = true := decide_eq_true c35
     clear c35
     by_cases c36 : (ji34) < (x279000_2.length : Int)
     rotate_left
     ·rw [if_neg c36] at H
      exact absurd H (by simp)
     rw [if_pos c36] at H
     have c36b0 : decide ((ji34) < (x279000_2.length : Int)) = true := decide_eq_true c36
     clear c36
     replace H := Option.bind_eq_some_iff.mp H
     obtain ⟨t285, A370, H⟩ := H
     have A37 := Aside0.mk A370
     clear A370
     by_cases c38 : t285 = true
     ·subst c38
      rw [if_pos rfl] at H
      have H' := Aside0.mk H
      clear H
      have p279 : 0 ≤ (x23_2 : Int) := of_decide_eq_true (by first | (with_reducible assumption) | assumption)
      have q279 : x23_2 < (t274.length : Int) := of_decide_eq_true (by first | (with_reducible assumption) | assumption)
      obtain ⟨ad279, e279, hx279_0, hx279_1⟩ := at_T28 (Kd.R_reads' HO_21.out).2.2 x23_2 p279 q279
      cases e279
      replace p279 := eq_true p279
      replace q279 := eq_true q279
      try go_wp2_with (first | ((with_reducible refine gate_dst (N := 7) rfl ?_); refine box_event ?hg (N := 7) ?hd (cs := #[.int .i64 0, .int .i64 0]) (t := 28) ?hr ?_; (case hd => rfl); (case hg => rfl); (case hr => first | (go_simp; done) | (go_simp; rfl)); intro gb280 hg w39 hbox hb; have BK280 := Aside0.mk hbox; have GW280 := ge_ HB hg; have GE280 := ge_ HB hg; have NB278_280 := nl_ BK278 hg; have NB280_278 := ng_ BK278 hg; replace HO_21 := Aside0.mk (Kd.R_below (Kd.R_elderB (hd_ HO_21) gb280 (Nat.le_of_eq hg.symm)) hb); replace HO_279000 := Aside0.mk (Kd.R_below (Kd.R_elderB (hd_ HO_279000) gb280 (Nat.le_of_eq hg.symm)) hb); replace HB := Aside0.mk (bt_ HB hb); replace BK278 := Aside0.mk (bb_ BK278 hb); clear hb hbox hg; have hnb40 := NB280_278.out; have hnc40 := NB278_280.out; have hcz41_0 := cz_ BK280 0 (.int .i64 0); have hcz41_1 := cz_ BK280 1 (.int .i64 0); have hfz41_0 := blk_frozen BK280.out 0; have hfz41_1 := blk_frozen BK280.out 1; have hcz42_0 := cz_ BK278 0 (u279000); have hfz42_0 := blk_frozen BK278.out 0; obtain ⟨Ao43, co43, eo43⟩ := Kd.R_slice HO_279000.out; subst eo43))
      have n0_ : Aside0 (Kd.R k28 28 ((w39.setCell ⟨gb280, 0, none⟩ (.int .i64 ((rd_T28 t274 x23_2).f0))).setCell ⟨gb280, 1, none⟩ (.int .i64 ((rd_T28 t274 x23_2).f1))) w.heap.size (fun k_ => some k_ ≠ (.slice Ao43 x279000_2.length co43 : Value).ownBlock ∧ k_ ≠ gb280) (.slice (some ad279) t274.length co10) t274) := ⟨by (with_reducible repeat (first | apply Kd.R_alloc | apply Kd.R_drewN | apply Kd.R_drew)); exact Kd.R_mono (Kd.R_far (p := ⟨gb280, 1, none⟩) (Kd.R_far (p := ⟨gb280, 0, none⟩) (Kd.R_mono HO_21.out (fun k_ hk => (⟨hk, hk.2⟩ : _ ∧ k_ ≠ gb280))) (fun _ hk => hk.2) (.int .i64 ((rd_T28 t274 x23_2).f0))) (fun _ hk => hk.2) (.int .i64 ((rd_T28 t274 x23_2).f1))) (fun _ hk => by first | exact ⟨hk.1.1, hk.1.2⟩ | grind)⟩
      have n1_ : Aside0 (Kd.R k28 28 ((w39.setCell ⟨gb280, 0, none⟩ (.int .i64 ((rd_T28 t274 x23_2).f0))).setCell ⟨gb280, 1, none⟩ (.int .i64 ((rd_T28 t274 x23_2).f1))) w.heap.size (fun k_ => some k_ ≠ (.slice (some ad279) t274.length co10 : Value).ownBlock ∧ k_ ≠ gb280) (.slice Ao43 x279000_2.length co43) x279000_2) := ⟨by (with_reducible repeat (first | apply Kd.R_alloc | apply Kd.R_drewN | apply Kd.R_drew)); exact Kd.R_mono (Kd.R_far (p := ⟨gb280, 1, none⟩) (Kd.R_far (p := ⟨gb280, 0, none⟩) (Kd.R_mono HO_279000.out (fun k_ hk => (⟨hk, hk.2⟩ : _ ∧ k_ ≠ gb280))) (fun _ hk => hk.2) (.int .i64 ((rd_T28 t274 x23_2).f0))) (fun _ hk => hk.2) (.int .i64 ((rd_T28 t274 x23_2).f1))) (fun _ hk => by first | exact ⟨hk.1.1, hk.1.2⟩ | grind)⟩
      have n2_ : Aside0 (((w39.setCell ⟨gb280, 0, none⟩ (.int .i64 ((rd_T28 t274 x23_2).f0))).setCell ⟨gb280, 1, none⟩ (.int .i64 ((rd_T28 t274 x23_2).f1))).heap[gb278]? = some (.cells #[.slice Ao43 x279000_2.length co43] 51 (0, 0))) := ⟨by (with_reducible repeat (first | refine blk_drewN ?_ _ | refine blk_drew ?_ | refine blk_alloc ?_ _)); refine blk_far ?_ NB278_280.out _; (with_reducible repeat (first | refine blk_drewN ?_ _ | refine blk_drew ?_ | refine blk_alloc ?_ _)); refine blk_far ?_ NB278_280.out _; (with_reducible repeat (first | refine blk_drewN ?_ _ | refine blk_drew ?_ | refine blk_alloc ?_ _)); exact BK278.out⟩
      have n3_ : Aside0 (((w39.setCell ⟨gb280, 0, none⟩ (.int .i64 ((rd_T28 t274 x23_2).f0))).setCell ⟨gb280, 1, none⟩ (.int .i64 ((rd_T28 t274 x23_2).f1))).heap[gb280]? = some (.cells #[.int .i64 ((rd_T28 t274 x23_2).f0), .int .i64 ((rd_T28 t274 x23_2).f1)] 28 (0, 0))) := ⟨by (with_reducible repeat (first | refine blk_drewN ?_ _ | refine blk_drew ?_ | refine blk_alloc ?_ _)); refine blk_put (cs := #[.int .i64 ((rd_T28 t274 x23_2).f0), .int .i64 0]) ?_ 1 _ rfl; (with_reducible repeat (first | refine blk_drewN ?_ _ | refine blk_drew ?_ | refine blk_alloc ?_ _)); refine blk_put (cs := #[.int .i64 0, .int .i64 0]) ?_ 0 _ rfl; (with_reducible repeat (first | refine blk_drewN ?_ _ | refine blk_drew ?_ | refine blk_alloc ?_ _)); exact BK280.out⟩
      have n4_ : Aside0 (Below w.heap.size w ((w39.setCell ⟨gb280, 0, none⟩ (.int .i64 ((rd_T28 t274 x23_2).f0))).setCell ⟨gb280, 1, none⟩ (.int .i64 ((rd_T28 t274 x23_2).f1)))) := ⟨by repeat (first | (with_reducible first | exact HB.out | apply below_alloc | apply pw_below_drewN | apply below_drew1 | refine below_set ?_ GE278.out | refine below_set ?_ GE280.out) | exact HB.out)⟩
      (try clear HO_21)
      (try clear HO_279000)
      (try clear BK278)
      (try clear BK280)
      (try clear HB)
      generalize ((w39.setCell ⟨gb280, 0, none⟩ (.int .i64 ((rd_T28 t274 x23_2).f0))).setCell ⟨gb280, 1, none⟩ (.int .i64 ((rd_T28 t274 x23_2).f1))) = w44 at n0_ n1_ n2_ n3_ n4_ ⊢
      have HO_21 := n0_
      have HO_279000 := n1_
      have BK278 := n2_
      have BK280 := n3_
      have HB := n4_
      clear n0_ n1_ n2_ n3_ n4_
      replace HO_21 := Aside0.mk (Kd.R_drew HO_21.out)
      replace HO_279000 := Aside0.mk (Kd.R_drew HO_279000.out)
      replace BK278 := Aside0.mk (blk_drew BK278.out)
      replace BK280 := Aside0.mk (blk_drew BK280.out)
      replace HB := Aside0.mk (below_drew1 HB.out)
      have p284 : 0 ≤ ((ji34) : Int) := of_decide_eq_true (by first | (with_reducible assumption) | assumption)
      have q284 : (ji34) < (x279000_2.length : Int) := of_decide_eq_true (by first | (with_reducible assumption) | assumption)
      obtain ⟨ad284, e284, hx284_0, hx284_1⟩ := at_T28 (Kd.R_reads' HO_279000.out).2.2 (ji34) p284 q284
      cases e284
      replace p284 := eq_true p284
      replace q284 := eq_true q284
      refine start_ (n := 12) (S := fun w' => w'.cell? ⟨gb278, 0, none⟩ = some (.slice (some ad284) x279000_2.length co43) ∧ w'.cell? ⟨gb280, 0, none⟩ = some (.int .i64 ((rd_T28 t274 x23_2).f0)) ∧ w'.cell? ⟨gb280, 1, none⟩ = some (.int .i64 ((rd_T28 t274 x23_2).f1)) ∧ w'.cell? (ad284.add (((ji34)).toNat * 2)) = some (.int .i64 ((rd_T28 x279000_2 (ji34)).f0)) ∧ w'.cell? ⟨(ad284.add (((ji34)).toNat * 2)).block, (ad284.add (((ji34)).toNat * 2)).off + 1, none⟩ = some (.int .i64 ((rd_T28 x279000_2 (ji34)).f1))) (ds := []) ba12_0 (by kernel_rfl) rfl rfl ⟨(blk_cell BK278.out 0).trans rfl, (blk_cell BK280.out 0).trans rfl, (blk_cell BK280.out 1).trans rfl, hx284_0, hx284_1⟩ (fun hHeld => ?_); refine with_tabW impl_Aggregate.tab10 impl_Aggregate.bits10 (fun HT_ HW_ => ?_)
      generalize w44.drew = w45 at HO_21 HO_279000 BK278 BK280 HB hx284_0 hx284_1 hHeld ⊢
      refine pz_ 0 29 ba12_1 HT_ ?_
      refine pz_ 1 30 ba12_2 HT_ ?_
      refine pz_ 2 31 ba12_3 HT_ ?_
      refine pz_ 4 33 ba12_13 HT_ ?_
      refine pz_ 5 34 ba12_14 HT_ ?_
      refine pt_ 3 32 ba12_6 HT_ HW_ hHeld ?_
      refine pz_ 6 35 ba12_7 HT_ ?_
      refine pt_ 7 36 ba12_8 HT_ HW_ hHeld ?_
      refine pt_ 8 37 ba12_9 HT_ HW_ hHeld ?_
      refine one_ (i := 9) (N := some 38) ba12_10 rfl rfl (one_of HT_.out (by kernel_rfl)) (by decide) (fun K hK => ?_)
      refine goes_ Try.func78 (by kernel_rfl) rfl #[.agg #[.int .i64 ((rd_T28 x279000_2 (ji34)).f0), .int .i64 ((rd_T28 x279000_2 (ji34)).f1)], .agg #[.int .i64 ((rd_T28 t274 x23_2).f0), .int .i64 ((rd_T28 t274 x23_2).f1)]] (by rfl) rfl rfl (by (try simp only [List.map_toArray, List.map_cons, List.map_nil]); first | done | (simp only [hji34]; rfl) | rfl | (simp only [List.length_drop, List.length_take]; rfl)) ?_
      with_reducible refine (impl_Prefix_covers.calls ((rd_T28 x279000_2 (ji34)).f0) ((rd_T28 x279000_2 (ji34)).f1) ((rd_T28 t274 x23_2).f0) ((rd_T28 t274 x23_2).f1) true _ A37.out).mono ?_
      rintro e w46 ⟨rfl, hb⟩
      have HS3_ := (hb.cell (World.block_lt_of_cell? _ _ (hHeld.2.2.2.1))).trans (hHeld.2.2.2.1)
      have HS4_ := (hb.cell (World.block_lt_of_cell? _ _ (hHeld.2.2.2.2))).trans (hHeld.2.2.2.2)
      refine ⟨_, rfl, ?_⟩
      replace HO_21 := rb_ HO_21 hb
      replace HO_279000 := rb_ HO_279000 hb
      replace BK278 := Aside0.mk (bb_ BK278 hb)
      replace BK280 := Aside0.mk (bb_ BK280 hb)
      replace HB := Aside0.mk (bt_ HB hb)
      (try clear hb)
      (try clear hb2)
      (try clear hk)
      (try clear hi)
      refine hK.out _ _ ⟨(blk_cell BK278.out 0).trans rfl, (blk_cell BK280.out 0).trans rfl, (blk_cell BK280.out 1).trans rfl, HS3_, HS4_⟩ (fun hHeld => ?_)
      clear hK K
      refine nz_ 38 ?_
      refine pz_ 10 39 ba12_11 HT_ ?_
      refine pz_ 11 40 ba12_12 HT_ ?_
      refine done_ (done_of HT_.out (by kernel_rfl)) ?_
      try go_wp2
      (try simp only [← hl21_2])
      go_roundg k2
      case measure => have := HJ1.out; have := HK2.out; omega
      case rel => exact ⟨(wrap64 (x23_2 + 1)), (x279000_2), (.slice (some ad284) x279000_2.length co43), (by first | rfl | (simp; done) | (simp [*]; done)), H', ⟨by have := HJ1.out; have := HK2.out; omega⟩, ⟨by (try simp only [hl21_2]); (with_reducible repeat (first | apply Kd.R_alloc | apply Kd.R_drewN | apply Kd.R_drew)); exact Kd.R_mono HO_21.out (fun _ hk => hk.1)⟩, ⟨by (try simp only [hl21_2]); (with_reducible repeat (first | apply Kd.R_alloc | apply Kd.R_drewN | apply Kd.R_drew)); exact Kd.R_mono HO_279000.out (fun _ hk => hk.1)⟩, ⟨by (try simp only [hl21_2]); (with_reducible repeat (first | refine blk_drewN ?_ _ | refine blk_drew ?_ | refine blk_alloc ?_ _)); exact BK278.out⟩, ⟨by repeat (first | (with_reducible first | exact HB.out | apply below_alloc | apply pw_below_drewN | apply below_drew1 | refine below_set ?_ GE278.out | refine below_set ?_ GE280.out) | exact HB.out)⟩⟩
     replace c38 := Bool.eq_false_iff.mpr c38
     subst c38
     rw [if_neg (show ¬ (false = true) by decide)] at H
     by_cases c47 : x279000_2.length < 8796093022208
     rotate_left
     ·rw [if_neg c47] at H
      exact absurd H (by simp)
     rw [if_pos c47] at H
     have LMc47 := Aside0.mk c47
     clear c47
     obtain ⟨y286, hy286⟩ : ∃ y_ : List (S28), y_ = (x279000_2 ++ [(⟨(rd_T28 t274 x23_2).f0, (rd_T28 t274 x23_2).f1⟩ : S28)]) := ⟨_, rfl⟩
     replace H : (impl_Aggregate.l0 k2 t274 (t271.length : Int) (wrap64 (x23_2 + 1)) y286) = some (r1, r2) := by first | (rw [hy286]; with_reducible exact H) | (have H2_ := (Option.bind_some _ _).symm.trans H; rw [hy286]; with_reducible exact H2_) | (have H2_ := (Option.bind_some _ _).symm.trans H; with_reducible exact H2_) | with_reducible exact H | (rw [hy286]; exact H) | exact H
     have Ny286 := Aside0.mk hy286
     clear hy286
     have H' := Aside0.mk H
     clear H
     have p279 : 0 ≤ (x23_2 : Int) := of_decide_eq_true (by first | (with_reducible assumption) | assumption)
     have q279 : x23_2 < (t274.length : Int) := of_decide_eq_true (by first | (with_reducible assumption) | assumption)
     obtain ⟨ad279, e279, hx279_0, hx279_1⟩ := at_T28 (Kd.R_reads' HO_21.out).2.2 x23_2 p279 q279
     cases e279
     replace p279 := eq_true p279
     replace q279 := eq_true q279
     try go_wp2_with (first | ((with_reducible refine gate_dst (N := 7) rfl ?_); refine box_event ?hg (N := 7) ?hd (cs := #[.int .i64 0, .int .i64 0]) (t := 28) ?hr ?_; (case hd => rfl); (case hg => rfl); (case hr => first | (go_simp; done) | (go_simp; rfl)); intro gb280 hg w48 hbox hb; have BK280 := Aside0.mk hbox; have GW280 := ge_ HB hg; have GE280 := ge_ HB hg; have NB278_280 := nl_ BK278 hg; have NB280_278 := ng_ BK278 hg; replace HO_21 := Aside0.mk (Kd.R_below (Kd.R_elderB (hd_ HO_21) gb280 (Nat.le_of_eq hg.symm)) hb); replace HO_279000 := Aside0.mk (Kd.R_below (Kd.R_elderB (hd_ HO_279000) gb280 (Nat.le_of_eq hg.symm)) hb); replace HB := Aside0.mk (bt_ HB hb); replace BK278 := Aside0.mk (bb_ BK278 hb); clear hb hbox hg; have hnb49 := NB280_278.out; have hnc49 := NB278_280.out; have hcz50_0 := cz_ BK280 0 (.int .i64 0); have hcz50_1 := cz_ BK280 1 (.int .i64 0); have hfz50_0 := blk_frozen BK280.out 0; have hfz50_1 := blk_frozen BK280.out 1; have hcz51_0 := cz_ BK278 0 (u279000); have hfz51_0 := blk_frozen BK278.out 0; obtain ⟨Ao52, co52, eo52⟩ := Kd.R_slice HO_279000.out; subst eo52))
     have n0_ : Aside0 (Kd.R k28 28 ((w48.setCell ⟨gb280, 0, none⟩ (.int .i64 ((rd_T28 t274 x23_2).f0))).setCell ⟨gb280, 1, none⟩ (.int .i64 ((rd_T28 t274 x23_2).f1))) w.heap.size (fun k_ => some k_ ≠ (.slice Ao52 x279000_2.length co52 : Value).ownBlock ∧ k_ ≠ gb280) (.slice (some ad279) t274.length co10) t274) := ⟨by (with_reducible repeat (first | apply Kd.R_alloc | apply Kd.R_drewN | apply Kd.R_drew)); exact Kd.R_mono (Kd.R_far (p := ⟨gb280, 1, none⟩) (Kd.R_far (p := ⟨gb280, 0, none⟩) (Kd.R_mono HO_21.out (fun k_ hk => (⟨hk, hk.2⟩ : _ ∧ k_ ≠ gb280))) (fun _ hk => hk.2) (.int .i64 ((rd_T28 t274 x23_2).f0))) (fun _ hk => hk.2) (.int .i64 ((rd_T28 t274 x23_2).f1))) (fun _ hk => by first | exact ⟨hk.1.1, hk.1.2⟩ | grind)⟩
     have n1_ : Aside0 (Kd.R k28 28 ((w48.setCell ⟨gb280, 0, none⟩ (.int .i64 ((rd_T28 t274 x23_2).f0))).setCell ⟨gb280, 1, none⟩ (.int .i64 ((rd_T28 t274 x23_2).f1))) w.heap.size (fun k_ => some k_ ≠ (.slice (some ad279) t274.length co10 : Value).ownBlock ∧ k_ ≠ gb280) (.slice Ao52 x279000_2.length co52) x279000_2) := ⟨by (with_reducible repeat (first | apply Kd.R_alloc | apply Kd.R_drewN | apply Kd.R_drew)); exact Kd.R_mono (Kd.R_far (p := ⟨gb280, 1, none⟩) (Kd.R_far (p := ⟨gb280, 0, none⟩) (Kd.R_mono HO_279000.out (fun k_ hk => (⟨hk, hk.2⟩ : _ ∧ k_ ≠ gb280))) (fun _ hk => hk.2) (.int .i64 ((rd_T28 t274 x23_2).f0))) (fun _ hk => hk.2) (.int .i64 ((rd_T28 t274 x23_2).f1))) (fun _ hk => by first | exact ⟨hk.1.1, hk.1.2⟩ | grind)⟩
     have n2_ : Aside0 (((w48.setCell ⟨gb280, 0, none⟩ (.int .i64 ((rd_T28 t274 x23_2).f0))).setCell ⟨gb280, 1, none⟩ (.int .i64 ((rd_T28 t274 x23_2).f1))).heap[gb278]? = some (.cells #[.slice Ao52 x279000_2.length co52] 51 (0, 0))) := ⟨by (with_reducible repeat (first | refine blk_drewN ?_ _ | refine blk_drew ?_ | refine blk_alloc ?_ _)); refine blk_far ?_ NB278_280.out _; (with_reducible repeat (first | refine blk_drewN ?_ _ | refine blk_drew ?_ | refine blk_alloc ?_ _)); refine blk_far ?_ NB278_280.out _; (with_reducible repeat (first | refine blk_drewN ?_ _ | refine blk_drew ?_ | refine blk_alloc ?_ _)); exact BK278.out⟩
     have n3_ : Aside0 (((w48.setCell ⟨gb280, 0, none⟩ (.int .i64 ((rd_T28 t274 x23_2).f0))).setCell ⟨gb280, 1, none⟩ (.int .i64 ((rd_T28 t274 x23_2).f1))).heap[gb280]? = some (.cells #[.int .i64 ((rd_T28 t274 x23_2).f0), .int .i64 ((rd_T28 t274 x23_2).f1)] 28 (0, 0))) := ⟨by (with_reducible repeat (first | refine blk_drewN ?_ _ | refine blk_drew ?_ | refine blk_alloc ?_ _)); refine blk_put (cs := #[.int .i64 ((rd_T28 t274 x23_2).f0), .int .i64 0]) ?_ 1 _ rfl; (with_reducible repeat (first | refine blk_drewN ?_ _ | refine blk_drew ?_ | refine blk_alloc ?_ _)); refine blk_put (cs := #[.int .i64 0, .int .i64 0]) ?_ 0 _ rfl; (with_reducible repeat (first | refine blk_drewN ?_ _ | refine blk_drew ?_ | refine blk_alloc ?_ _)); exact BK280.out⟩
     have n4_ : Aside0 (Below w.heap.size w ((w48.setCell ⟨gb280, 0, none⟩ (.int .i64 ((rd_T28 t274 x23_2).f0))).setCell ⟨gb280, 1, none⟩ (.int .i64 ((rd_T28 t274 x23_2).f1)))) := ⟨by repeat (first | (with_reducible first | exact HB.out | apply below_alloc | apply pw_below_drewN | apply below_drew1 | refine below_set ?_ GE278.out | refine below_set ?_ GE280.out) | exact HB.out)⟩
     (try clear HO_21)
     (try clear HO_279000)
     (try clear BK278)
     (try clear BK280)
     (try clear HB)
     generalize ((w48.setCell ⟨gb280, 0, none⟩ (.int .i64 ((rd_T28 t274 x23_2).f0))).setCell ⟨gb280, 1, none⟩ (.int .i64 ((rd_T28 t274 x23_2).f1))) = w53 at n0_ n1_ n2_ n3_ n4_ ⊢
     have HO_21 := n0_
     have HO_279000 := n1_
     have BK278 := n2_
     have BK280 := n3_
     have HB := n4_
     clear n0_ n1_ n2_ n3_ n4_
     replace HO_21 := Aside0.mk (Kd.R_drew HO_21.out)
     replace HO_279000 := Aside0.mk (Kd.R_drew HO_279000.out)
     replace BK278 := Aside0.mk (blk_drew BK278.out)
     replace BK280 := Aside0.mk (blk_drew BK280.out)
     replace HB := Aside0.mk (below_drew1 HB.out)
     have p284 : 0 ≤ ((ji34) : Int) := of_decide_eq_true (by first | (with_reducible assumption) | assumption)
     have q284 : (ji34) < (x279000_2.length : Int) := of_decide_eq_true (by first | (with_reducible assumption) | assumption)
     obtain ⟨ad284, e284, hx284_0, hx284_1⟩ := at_T28 (Kd.R_reads' HO_279000.out).2.2 (ji34) p284 q284
     cases e284
     replace p284 := eq_true p284
     replace q284 := eq_true q284
     refine start_ (n := 12) (S := fun w' => w'.cell? ⟨gb278, 0, none⟩ = some (.slice (some ad284) x279000_2.length co52) ∧ w'.cell? ⟨gb280, 0, none⟩ = some (.int .i64 ((rd_T28 t274 x23_2).f0)) ∧ w'.cell? ⟨gb280, 1, none⟩ = some (.int .i64 ((rd_T28 t274 x23_2).f1)) ∧ w'.cell? (ad284.add (((ji34)).toNat * 2)) = some (.int .i64 ((rd_T28 x279000_2 (ji34)).f0)) ∧ w'.cell? ⟨(ad284.add (((ji34)).toNat * 2)).block, (ad284.add (((ji34)).toNat * 2)).off + 1, none⟩ = some (.int .i64 ((rd_T28 x279000_2 (ji34)).f1))) (ds := []) ba12_0 (by kernel_rfl) rfl rfl ⟨(blk_cell BK278.out 0).trans rfl, (blk_cell BK280.out 0).trans rfl, (blk_cell BK280.out 1).trans rfl, hx284_0, hx284_1⟩ (fun hHeld => ?_); refine with_tabW impl_Aggregate.tab10 impl_Aggregate.bits10 (fun HT_ HW_ => ?_)
     generalize w53.drew = w54 at HO_21 HO_279000 BK278 BK280 HB hx284_0 hx284_1 hHeld ⊢
     refine pz_ 0 29 ba12_1 HT_ ?_
     refine pz_ 1 30 ba12_2 HT_ ?_
     refine pz_ 2 31 ba12_3 HT_ ?_
     refine pz_ 4 33 ba12_13 HT_ ?_
     refine pz_ 5 34 ba12_14 HT_ ?_
     refine pt_ 3 32 ba12_6 HT_ HW_ hHeld ?_
     refine pz_ 6 35 ba12_7 HT_ ?_
     refine pt_ 7 36 ba12_8 HT_ HW_ hHeld ?_
     refine pt_ 8 37 ba12_9 HT_ HW_ hHeld ?_
     refine one_ (i := 9) (N := some 38) ba12_10 rfl rfl (one_of HT_.out (by kernel_rfl)) (by decide) (fun K hK => ?_)
     refine goes_ Try.func78 (by kernel_rfl) rfl #[.agg #[.int .i64 ((rd_T28 x279000_2 (ji34)).f0), .int .i64 ((rd_T28 x279000_2 (ji34)).f1)], .agg #[.int .i64 ((rd_T28 t274 x23_2).f0), .int .i64 ((rd_T28 t274 x23_2).f1)]] (by rfl) rfl rfl (by (try simp only [List.map_toArray, List.map_cons, List.map_nil]); first | done | (simp only [hji34]; rfl) | rfl | (simp only [List.length_drop, List.length_take]; rfl)) ?_
     with_reducible refine (impl_Prefix_covers.calls ((rd_T28 x279000_2 (ji34)).f0) ((rd_T28 x279000_2 (ji34)).f1) ((rd_T28 t274 x23_2).f0) ((rd_T28 t274 x23_2).f1) false _ A37.out).mono ?_
     rintro e w55 ⟨rfl, hb⟩
     have HS3_ := (hb.cell (World.block_lt_of_cell? _ _ (hHeld.2.2.2.1))).trans (hHeld.2.2.2.1)
     have HS4_ := (hb.cell (World.block_lt_of_cell? _ _ (hHeld.2.2.2.2))).trans (hHeld.2.2.2.2)
     refine ⟨_, rfl, ?_⟩
     replace HO_21 := rb_ HO_21 hb
     replace HO_279000 := rb_ HO_279000 hb
     replace BK278 := Aside0.mk (bb_ BK278 hb)
     replace BK280 := Aside0.mk (bb_ BK280 hb)
     replace HB := Aside0.mk (bt_ HB hb)
     (try clear hb)
     (try clear hb2)
     (try clear hk)
     (try clear hi)
     refine hK.out _ _ ⟨(blk_cell BK278.out 0).trans rfl, (blk_cell BK280.out 0).trans rfl, (blk_cell BK280.out 1).trans rfl, HS3_, HS4_⟩ (fun hHeld => ?_)
     clear hK K
     refine nz_ 38 ?_
     refine pz_ 10 39 ba12_11 HT_ ?_
     refine pz_ 11 40 ba12_12 HT_ ?_
     refine done_ (done_of HT_.out (by kernel_rfl)) ?_
     have hcz56_0 := cz_ BK278 0 (.slice (some ad284) x279000_2.length co52)
     have hfz56_0 := blk_frozen BK278.out 0
     have hcz57_0 := cz_ BK280 0 (.int .i64 ((rd_T28 t274 x23_2).f0))
     have hcz57_1 := cz_ BK280 1 (.int .i64 ((rd_T28 t274 x23_2).f1))
     have hfz57_0 := blk_frozen BK280.out 0
     have hfz57_1 := blk_frozen BK280.out 1
     try go_wp2_with (first | ((with_reducible refine gate_builtin (b := .append) (xs := #[.tmp 41, .tmp 43]) rfl ?_); at_builtin; refine Kd.R_append k28 (w0 := w) w.heap.size rfl (.tmp 41) (.tmp 43) 51 28 (.agg #[(.int .i64 0), (.int .i64 0)]) 16 rfl Try.underlying51 info28 rfl (by decide) (by omega) (.slice (some ad284) x279000_2.length co52) x279000_2 (⟨(rd_T28 t274 x23_2).f0, (rd_T28 t274 x23_2).f1⟩ : S28) [.int .i64 ((rd_T28 t274 x23_2).f0), .int .i64 ((rd_T28 t274 x23_2).f1)] (fun k_ => some k_ ≠ (.slice (some ad279) t274.length co10 : Value).ownBlock ∧ k_ ≠ gb280) (fun _ => False) rfl rfl ?aP (fun _ hk => hk.elim) ?aF ?aO ?aB ?aS ?aL ?_; (case aP => exact k28_mkM _ _ _ (⟨(rd_T28 t274 x23_2).f0, (rd_T28 t274 x23_2).f1⟩ : S28)); (case aB => exact (by repeat (first | (with_reducible first | exact HB.out | apply below_alloc | apply pw_below_drewN | apply below_drew1 | refine below_set ?_ GE278.out | refine below_set ?_ GE280.out) | exact HB.out))); (case aF => exact (fun k_ hk => ⟨Kd.fresh' (Kd.R_lt (hd_ HO_21)) k_ hk, Kd.freshB (g := gb280) (o := .cells #[.int .i64 ((rd_T28 t274 x23_2).f0), .int .i64 ((rd_T28 t274 x23_2).f1)] 28 (0, 0)) (by (with_reducible repeat (first | refine blk_drewN ?_ _ | refine blk_drew ?_ | refine blk_alloc ?_ _)); exact BK280.out) k_ hk⟩)); (case aO => exact (hd_ HO_279000)); (case aS => exact (bz_ HB)); (case aL => have := LMc47.out; omega); intro v287 w58 ho hb hg hat; rw [← Ny286.out] at ho; have HO288 := Aside0.mk ho; replace HO_21 := Aside0.mk (Kd.R_after (ok := (fun k_ => k_ ≠ gb280)) (by (with_reducible repeat (first | apply Kd.R_alloc | apply Kd.R_drewN | apply Kd.R_drew)); exact Kd.R_mono HO_21.out (fun _ hk => by first | exact ⟨hk.2, hk.1⟩ | grind)) hg hat); replace BK278 := Aside0.mk (blk_grown (g := gb278) (o := .cells #[.slice (some ad284) x279000_2.length co52] 51 (0, 0)) (by (with_reducible repeat (first | refine blk_drewN ?_ _ | refine blk_drew ?_ | refine blk_alloc ?_ _)); exact BK278.out) hg (Kd.R_ne HO_279000.out BK278.out (by decide))); replace BK280 := Aside0.mk (blk_grown (g := gb280) (o := .cells #[.int .i64 ((rd_T28 t274 x23_2).f0), .int .i64 ((rd_T28 t274 x23_2).f1)] 28 (0, 0)) (by (with_reducible repeat (first | refine blk_drewN ?_ _ | refine blk_drew ?_ | refine blk_alloc ?_ _)); exact BK280.out) hg (Kd.R_away HO_279000.out (fun _ hk => hk.2))); replace HB := Aside0.mk (hb); clear HO_279000; clear ho hb hg hat; obtain ⟨Ao59, co59, eo59⟩ := Kd.R_slice HO288.out; subst eo59; have hcz60_0 := cz_ BK278 0 (.slice (some ad284) x279000_2.length co52); have hfz60_0 := blk_frozen BK278.out 0))
     (try simp only [← hl21_2])
     go_roundg k2
     case measure => have := HJ1.out; have := HK2.out; omega
     case rel => exact ⟨(wrap64 (x23_2 + 1)), (y286), (.slice Ao59 y286.length co59), (by first | rfl | (simp; done) | (simp [*]; done)), H', ⟨by have := HJ1.out; have := HK2.out; omega⟩, ⟨by (try simp only [hl21_2]); (with_reducible repeat (first | apply Kd.R_alloc | apply Kd.R_drewN | apply Kd.R_drew)); exact Kd.R_mono (Kd.R_far (p := ⟨gb278, 0, none⟩) (Kd.R_types HO_21.out BK278.out (by decide)) (fun _ hk => hk.2) (.slice Ao59 y286.length co59)) (fun _ hk => hk.1.2)⟩, ⟨by (try simp only [hl21_2]); (with_reducible repeat (first | apply Kd.R_alloc | apply Kd.R_drewN | apply Kd.R_drew)); exact Kd.R_mono (Kd.R_far (p := ⟨gb278, 0, none⟩) (Kd.R_types HO288.out BK278.out (by decide)) (fun _ hk => hk.2) (.slice Ao59 y286.length co59)) (fun _ hk => hk.1.1)⟩, ⟨by (try simp only [hl21_2]); (with_reducible repeat (first | refine blk_drewN ?_ _ | refine blk_drew ?_ | refine blk_alloc ?_ _)); refine blk_put (cs := #[.slice (some ad284) x279000_2.length co52]) ?_ 0 _ rfl; (with_reducible repeat (first | refine blk_drewN ?_ _ | refine blk_drew ?_ | refine blk_alloc ?_ _)); exact BK278.out⟩, ⟨by repeat (first | (with_reducible first | exact HB.out | apply below_alloc | apply pw_below_drewN | apply below_drew1 | refine below_set ?_ GE278.out | refine below_set ?_ GE280.out) | exact HB.out)⟩⟩

/-! ### impl_CountAddrs: function 28 -/
def impl_CountAddrs.l0 : Nat → Int → List (S28) → Int → Int → Option (Int)
 | 0, _, _, _, _ => none
 | k + 1, x5, x15, x16, x17 => if x17 < x16 then (if 0 ≤ x17 then (if x17 < (x15.length : Int) then ((impl_Prefix_size.f ((rd_T28 x15 x17).f0) ((rd_T28 x15 x17).f1)).bind fun t298 => (impl_CountAddrs.l0 k (wrap64 (x5 + t298)) x15 x16 (wrap64 (x17 + 1)))) else (none)) else (none)) else (some x5)
def impl_CountAddrs.f (k : Nat) (l0 : List (S28)) : Option (Int) := (impl_Aggregate.f k l0).bind fun bt292 => (if bt292.2 = true then (impl_CountAddrs.l0 k 0 bt292.1 (bt292.1.length : Int) 0) else (some (-1)))
theorem impl_CountAddrs.mono_l : ∀ k, (∀ y0 y1 y2 y3, LeO (impl_CountAddrs.l0 k y0 y1 y2 y3) (impl_CountAddrs.l0 (k + 1) y0 y1 y2 y3))
 | 0 => fun _ _ _ _ r h => by simp [impl_CountAddrs.l0] at h
 | k + 1 => by
  have ih0 := impl_CountAddrs.mono_l k
  ·intro y0 y1 y2 y3
   unfold impl_CountAddrs.l0
   repeat' first
   | (with_reducible exact ih0 _ _ _ _)
   | (with_reducible exact impl_Aggregate.mono _ _)
   | (with_reducible exact LeO.refl _)
   | (with_reducible exact LeO.none _)
   | (with_reducible refine LeO.ite ?_ ?_)
   | (with_reducible refine LeO.bind ?_ (fun _ => ?_))
   | exact ih0 _ _ _ _
   | exact impl_Aggregate.mono _ _
   | exact LeO.none _
   | refine LeO.ite ?_ ?_
   | refine LeO.bind ?_ (fun _ => ?_)
theorem impl_CountAddrs.mono : ∀ a0 k, LeO (impl_CountAddrs.f k a0) (impl_CountAddrs.f (k + 1) a0) := by
 intro a0 k
 have ih0 := impl_CountAddrs.mono_l k
 unfold impl_CountAddrs.f
 repeat' first
   | (with_reducible exact ih0 _ _ _ _)
   | (with_reducible exact impl_Aggregate.mono _ _)
   | (with_reducible exact LeO.refl _)
   | (with_reducible exact LeO.none _)
   | (with_reducible refine LeO.ite ?_ ?_)
   | (with_reducible refine LeO.bind ?_ (fun _ => ?_))
   | exact ih0 _ _ _ _
   | exact impl_Aggregate.mono _ _
   | exact LeO.none _
   | refine LeO.ite ?_ ?_
   | refine LeO.bind ?_ (fun _ => ?_)
set_option maxHeartbeats 8000000 in
set_option maxRecDepth 100000 in
theorem impl_CountAddrs.calls (k : Nat) (A0 : Option Addr) (c0 : Nat) (l0 : List (S28)) (r : Int) (w : World) (hr0 : Kd.C k28 w A0 l0.length l0) (hc0 : l0.length ≤ c0) (h : impl_CountAddrs.f k l0 = some r) :
  Calls Try.prog 28 #[.slice A0 l0.length c0] w fun e w' => e = .returned (.int .i64 r) ∧ Below w.heap.size w w' := by
 have hu28 := Try.underlying28
 have HR0 := Aside0.mk hr0
 have HC0 := Aside0.mk hc0
 clear hr0 hc0
 have HB := Aside0.mk (Below.refl w.heap.size w)
 have H : ((impl_Aggregate.f k l0).bind fun bt292 => (if bt292.2 = true then (impl_CountAddrs.l0 k 0 bt292.1 (bt292.1.length : Int) 0) else (some (-1)))) = some r := h
 clear h
 replace H := Option.bind_eq_some_iff.mp H
 obtain ⟨⟨t292, t293⟩, A20, H⟩ := H
 have A2 := Aside0.mk A20
 clear A20
 by_cases c3 : t293 = true
 rotate_left
 ·replace c3 := Bool.eq_false_iff.mpr c3
  subst c3
  rw [if_neg (show ¬ (false = true) by decide)] at H
  obtain rfl := Option.some.inj H
  go_enter Try.func28, Try.ntmps28
  go_wp2_with (first | ((with_reducible refine gate_callee (f := 31) rfl ?_); refine gl_ (some 10) Try.func31 #[.slice A0 l0.length c0] ?_; (with_reducible refine (impl_Aggregate.calls k _ _ l0 t292 false _ ?side1 ?side2 A2.out).mono ?_); (case side1 => repeat (first | exact HR0.out | (with_reducible refine Kd.C_alloc ?_ _) | (with_reducible refine Kd.C_drewN ?_ _) | (with_reducible refine Kd.C_drew ?_))); (case side2 => exact HC0.out); rintro e w13 ⟨v294, rfl, ho0, hb⟩; refine ⟨_, rfl, ?_⟩; have HO295 := Aside0.mk (Kd.R_lower ho0 (bz_ HB)); replace HB := Aside0.mk (bt_ HB hb); (try clear hb); (try clear hb2); (try clear hk); (try clear hi); (try clear ho0)))
  go_ret
  exact ⟨by first | rfl | (simp [errW_none, errW_some] <;> rfl) | (simp [*, errW_none, errW_some] <;> rfl), by repeat (first | (with_reducible first | exact HB.out | apply below_alloc | apply pw_below_drewN | apply below_drew1) | exact HB.out)⟩
 subst c3
 rw [if_pos rfl] at H
 have H' := Aside0.mk H
 clear H
 go_enter Try.func28, Try.ntmps28
 go_wp2_with (first | ((with_reducible refine gate_callee (f := 31) rfl ?_); refine gl_ (some 10) Try.func31 #[.slice A0 l0.length c0] ?_; (with_reducible refine (impl_Aggregate.calls k _ _ l0 t292 true _ ?side1 ?side2 A2.out).mono ?_); (case side1 => repeat (first | exact HR0.out | (with_reducible refine Kd.C_alloc ?_ _) | (with_reducible refine Kd.C_drewN ?_ _) | (with_reducible refine Kd.C_drew ?_))); (case side2 => exact HC0.out); rintro e w4 ⟨v294, rfl, ho0, hb⟩; refine ⟨_, rfl, ?_⟩; have HO295 := Aside0.mk (Kd.R_lower ho0 (bz_ HB)); replace HB := Aside0.mk (bt_ HB hb); (try clear hb); (try clear hb2); (try clear hk); (try clear hi); (try clear ho0); obtain ⟨Ao5, co5, eo5⟩ := Kd.R_slice HO295.out; subst eo5))
 (try simp only [Act.put, List.setIfInBounds_toArray, List.set_cons_zero, List.set_cons_succ])
 go_loopg [5, 17] k (fun kq v5 v17 w' => ∃ (x5_1 : Int) (x17_1 : Int), v5 = .int .i64 x5_1 ∧ v17 = .int .i64 x17_1 ∧ Aside0 (impl_CountAddrs.l0 kq x5_1 t292 (t292.length : Int) x17_1 = some r) ∧ Aside0 (kq ≤ k) ∧ Aside0 (Kd.R k28 28 w' w.heap.size (fun _ => True) (.slice Ao5 t292.length co5) t292) ∧ Aside0 (Below w.heap.size w w'))
 case atStart => exact ⟨(0), (0), (by first | rfl | (simp; done) | (simp [*]; done)), (by first | rfl | (simp; done) | (simp [*]; done)), H', ⟨Nat.le_refl _⟩, ⟨by (with_reducible repeat (first | apply Kd.R_alloc | apply Kd.R_drewN | apply Kd.R_drew)); exact HO295.out⟩, ⟨by repeat (first | (with_reducible first | exact HB.out | apply below_alloc | apply pw_below_drewN | apply below_drew1) | exact HB.out)⟩⟩
 case round =>
  clear H'
  try clear c2
  try clear p2
  try clear c3
  obtain ⟨x5_1, x17_1, rfl, rfl, HA, HK1, HO_15, HB⟩ := hrel
  cases gk with
  | zero => exact absurd HA.out (by simp [impl_CountAddrs.l0])
  | succ k1 =>
   have H := HA.out
   clear HA
   simp only [impl_CountAddrs.l0] at H
   by_cases c6 : x17_1 < (t292.length : Int)
   rotate_left
   ·rw [if_neg c6] at H
    have c6b0 : decide (x17_1 < (t292.length : Int)) = false := decide_eq_false c6
    clear c6
    obtain rfl := Option.some.inj H
    go_wp2
    go_ret
    exact ⟨by first | rfl | (simp [errW_none, errW_some] <;> rfl) | (simp [*, errW_none, errW_some] <;> rfl), by repeat (first | (with_reducible first | exact HB.out | apply below_alloc | apply pw_below_drewN | apply below_drew1) | exact HB.out)⟩
   rw [if_pos c6] at H
   have c6b0 : decide (x17_1 < (t292.length : Int)) = true := decide_eq_true c6
   clear c6
   by_cases c7 : 0 ≤ x17_1
   rotate_left
   ·rw [if_neg c7] at H
    exact absurd H (by simp)
   rw [if_pos c7] at H
   have c7b0 : decide (0 ≤ x17_1) = true := decide_eq_true c7
   clear c7
   by_cases c8 : x17_1 < (t292.length : Int)
   rotate_left
   ·rw [if_neg c8] at H
    exact absurd H (by simp)
   rw [if_pos c8] at H
   have c8b0 : decide (x17_1 < (t292.length : Int)) = true := decide_eq_true c8
   clear c8
   replace H := Option.bind_eq_some_iff.mp H
   obtain ⟨t298, A90, H⟩ := H
   have A9 := Aside0.mk A90
   clear A90
   have H' := Aside0.mk H
   clear H
   have p296 : 0 ≤ (x17_1 : Int) := of_decide_eq_true (by first | (with_reducible assumption) | assumption)
   have q296 : x17_1 < (t292.length : Int) := of_decide_eq_true (by first | (with_reducible assumption) | assumption)
   obtain ⟨ad296, e296, hx296_0, hx296_1⟩ := at_T28 (Kd.R_reads' HO_15.out).2.2 x17_1 p296 q296
   cases e296
   replace p296 := eq_true p296
   replace q296 := eq_true q296
   go_wp2_with (first | ((with_reducible refine gate_dst (N := 7) rfl ?_); refine box_event ?hg (N := 7) ?hd (cs := #[.int .i64 0, .int .i64 0]) (t := 28) ?hr ?_; (case hd => rfl); (case hg => rfl); (case hr => first | (go_simp; done) | (go_simp; rfl)); intro gb297 hg w10 hbox hb; have BK297 := Aside0.mk hbox; have GW297 := ge_ HB hg; have GE297 := ge_ HB hg; replace HO_15 := Aside0.mk (Kd.R_below (Kd.R_elderB (hd_ HO_15) gb297 (Nat.le_of_eq hg.symm)) hb); replace HB := Aside0.mk (bt_ HB hb); clear hb hbox hg; have hcz11_0 := cz_ BK297 0 (.int .i64 0); have hcz11_1 := cz_ BK297 1 (.int .i64 0); have hfz11_0 := blk_frozen BK297.out 0; have hfz11_1 := blk_frozen BK297.out 1) | ((with_reducible refine gate_callee (f := 69) rfl ?_); refine gl_ (some 23) Try.func69 #[.agg #[.int .i64 ((rd_T28 t292 x17_1).f0), .int .i64 ((rd_T28 t292 x17_1).f1)]] ?_; (with_reducible refine (impl_Prefix_size.calls ((rd_T28 t292 x17_1).f0) ((rd_T28 t292 x17_1).f1) t298 _ A9.out).mono ?_); rintro e w12 ⟨rfl, hb⟩; refine ⟨_, rfl, ?_⟩; replace HO_15 := Aside0.mk (Kd.R_below (by (with_reducible repeat (first | apply Kd.R_alloc | apply Kd.R_drewN | apply Kd.R_drew)); exact (Kd.R_mono (Kd.R_far (p := ⟨gb297, 1, none⟩) (Kd.R_far (p := ⟨gb297, 0, none⟩) (Kd.R_mono HO_15.out (fun k_ hk => (⟨hk, hk.2⟩ : _ ∧ k_ ≠ gb297))) (fun _ hk => hk.2) (.int .i64 ((rd_T28 t292 x17_1).f0))) (fun _ hk => hk.2) (.int .i64 ((rd_T28 t292 x17_1).f1))) (fun _ h_ => h_.1))) hb); replace BK297 := Aside0.mk (blk_below (g := gb297) (o := .cells #[.int .i64 ((rd_T28 t292 x17_1).f0), .int .i64 ((rd_T28 t292 x17_1).f1)] 28 (0, 0)) (by (with_reducible repeat (first | refine blk_drewN ?_ _ | refine blk_drew ?_ | refine blk_alloc ?_ _)); refine blk_put (cs := #[.int .i64 ((rd_T28 t292 x17_1).f0), .int .i64 0]) ?_ 1 _ rfl; (with_reducible repeat (first | refine blk_drewN ?_ _ | refine blk_drew ?_ | refine blk_alloc ?_ _)); refine blk_put (cs := #[.int .i64 0, .int .i64 0]) ?_ 0 _ rfl; (with_reducible repeat (first | refine blk_drewN ?_ _ | refine blk_drew ?_ | refine blk_alloc ?_ _)); exact BK297.out) hb); replace HB := Aside0.mk (bt_ HB hb); (try clear hb); (try clear hb2); (try clear hk); (try clear hi)))
   go_roundg k1
   case measure => have := HK1.out; omega
   case rel => exact ⟨(wrap64 (x5_1 + t298)), (wrap64 (x17_1 + 1)), (by first | rfl | (simp; done) | (simp [*]; done)), (by first | rfl | (simp; done) | (simp [*]; done)), H', ⟨by have := HK1.out; omega⟩, ⟨by (with_reducible repeat (first | apply Kd.R_alloc | apply Kd.R_drewN | apply Kd.R_drew)); exact Kd.R_mono HO_15.out (fun _ hk => trivial)⟩, ⟨by repeat (first | (with_reducible first | exact HB.out | apply below_alloc | apply pw_below_drewN | apply below_drew1 | refine below_set ?_ GE297.out) | exact HB.out)⟩⟩

end Go.Proofs.Ytjepmdngbafonaa.QFnAggregate
