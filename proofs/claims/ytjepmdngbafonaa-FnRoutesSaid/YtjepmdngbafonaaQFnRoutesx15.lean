/- Contracts of functions that the law reaches: what each call returns and what it leaves in memory. Made by this session over the print of the kit. -/
import Derived.Test.YtjepmdngbafonaaQFnRoutesx0
import Derived.Test.YtjepmdngbafonaaQFnRoutesx2
import Derived.Test.YtjepmdngbafonaaQFnRoutesx11
import Derived.Test.YtjepmdngbafonaaQFnRoutesx12
import Derived.Test.YtjepmdngbafonaaQFnRoutesx13
import Derived.Test.YtjepmdngbafonaaQFnRoutesx14
namespace Go.Proofs.Ytjepmdngbafonaa.QFnRoutes
open Go.RowKit Go.Proofs.YtjepmdngbafonaaR.PrintWords Go.Proofs.YtjepmdngbafonaaR.PrintLast Go.Proofs.YtjepmdngbafonaaR.PrintMore
attribute [local go_sem] max2_int min2_int max_two min_two max_three min_three max_four min_four   -- for this text's walks alone
set_option linter.unusedVariables false
set_option linter.unusedSimpArgs false
def ba15_0 : Array Bool := bs_ 8 0
def ba15_1 : Array Bool := bs_ 8 1
def ba15_2 : Array Bool := bs_ 8 3
def ba15_3 : Array Bool := bs_ 8 7
def ba15_4 : Array Bool := bs_ 8 15
def ba15_5 : Array Bool := bs_ 8 31
def ba15_6 : Array Bool := bs_ 8 63
def ba15_7 : Array Bool := bs_ 8 127
def ba15_8 : Array Bool := bs_ 8 255
def ba15_9 : Array Bool := bs_ 16 0
def ba15_10 : Array Bool := bs_ 16 1
def ba15_11 : Array Bool := bs_ 16 3
def ba15_12 : Array Bool := bs_ 16 7
def ba15_13 : Array Bool := bs_ 16 15
def ba15_14 : Array Bool := bs_ 16 31
def ba15_15 : Array Bool := bs_ 16 95
def ba15_16 : Array Bool := bs_ 16 351
def ba15_17 : Array Bool := bs_ 16 383
def ba15_18 : Array Bool := bs_ 16 511
def ba15_19 : Array Bool := bs_ 16 1023
def ba15_20 : Array Bool := bs_ 16 2047
def ba15_21 : Array Bool := bs_ 16 4095
def ba15_22 : Array Bool := bs_ 16 8191
def ba15_23 : Array Bool := bs_ 16 16383
def ba15_24 : Array Bool := bs_ 16 32767
def ba15_25 : Array Bool := bs_ 16 65535
def ba15_26 : Array Bool := bs_ 16 63
def ba15_27 : Array Bool := bs_ 16 127
def ba15_28 : Array Bool := bs_ 16 255

/-! ### impl_PutRoute: function 11 -/
def impl_PutRoute.j0 : Nat → Bool → List (S30) → Int → Int → Int → Option ((List (S30)) × Bool)
 | 0, _, _, _, _, _ => none
 | k + 1, x16, x426000, x427000, x427001, x427002 => if x16 = true then ((impl_ownTable.f x426000).bind fun t430 => (some (t430, false))) else ((impl_ownTable.f x426000).bind fun t433 => ((impl_findRoute.f k t433 x427000 x427001).bind fun bt437 => (if bt437.2 = true then (if 0 ≤ bt437.1 then (if bt437.1 < (t433.length : Int) then (some ((t433.set (bt437.1 : Int).toNat (⟨(⟨x427000, x427001⟩ : S28), x427002⟩ : S30)), true)) else (none)) else (none)) else (if (t433.length : Int) = 120 then (some (t433, false)) else ((slices_Insert_impl_Route_impl_Route.f t433 bt437.1 (([(⟨(⟨x427000, x427001⟩ : S28), x427002⟩ : S30)] : List (S30)))).bind fun t443 => (some (t443, true)))))))
def impl_PutRoute.f (k : Nat) (l0_0 : List (S30)) (a1_0 : Int) (a1_1 : Int) (a1_2 : Int) : Option ((List (S30)) × Bool) := (impl_TableOk.f k l0_0).bind fun t428 => (if t428 = true then ((impl_isRoute.f a1_0 a1_1 a1_2).bind fun t429 => (impl_PutRoute.j0 k (!t429) l0_0 a1_0 a1_1 a1_2)) else (impl_PutRoute.j0 k true l0_0 a1_0 a1_1 a1_2))
theorem impl_PutRoute.mono_l : ∀ k, (∀ y0 y1 y2 y3 y4, LeO (impl_PutRoute.j0 k y0 y1 y2 y3 y4) (impl_PutRoute.j0 (k + 1) y0 y1 y2 y3 y4))
 | 0 => fun _ _ _ _ _ r h => by simp [impl_PutRoute.j0] at h
 | k + 1 => by
  have ih0 := impl_PutRoute.mono_l k
  ·intro y0 y1 y2 y3 y4
   unfold impl_PutRoute.j0
   repeat' first | (with_reducible first | exact ih0 _ _ _ _ _ | exact impl_TableOk.mono _ _ | exact impl_findRoute.mono _ _ _ _ | exact LeO.refl _ | exact LeO.none _ | refine LeO.ite ?_ ?_ | refine LeO.bind ?_ (fun _ => ?_)) | exact ih0 _ _ _ _ _ | exact impl_TableOk.mono _ _ | exact impl_findRoute.mono _ _ _ _ | exact LeO.none _ | refine LeO.ite ?_ ?_ | refine LeO.bind ?_ (fun _ => ?_)
theorem impl_PutRoute.mono : ∀ a0 a1 a2 a3 k, LeO (impl_PutRoute.f k a0 a1 a2 a3) (impl_PutRoute.f (k + 1) a0 a1 a2 a3) := by
 intro a0 a1 a2 a3 k
 have ih0 := impl_PutRoute.mono_l k
 unfold impl_PutRoute.f
 repeat' first | (with_reducible first | exact ih0 _ _ _ _ _ | exact impl_TableOk.mono _ _ | exact impl_findRoute.mono _ _ _ _ | exact LeO.refl _ | exact LeO.none _ | refine LeO.ite ?_ ?_ | refine LeO.bind ?_ (fun _ => ?_)) | exact ih0 _ _ _ _ _ | exact impl_TableOk.mono _ _ | exact impl_findRoute.mono _ _ _ _ | exact LeO.none _ | refine LeO.ite ?_ ?_ | refine LeO.bind ?_ (fun _ => ?_)
set_option maxHeartbeats 8000000 in
set_option maxRecDepth 100000 in
theorem impl_PutRoute.calls (k : Nat) (A0_0 : Option Addr) (c0_0 : Nat) (l0_0 : List (S30)) (a1_0 : Int) (a1_1 : Int) (a1_2 : Int) (r1 : List (S30)) (r2 : Bool) (w : World) (hr0_0 : Kd.C k30 w A0_0 l0_0.length l0_0) (hc0_0 : l0_0.length ≤ c0_0) (h : impl_PutRoute.f k l0_0 a1_0 a1_1 a1_2 = some (r1, r2)) :
  Calls Try.prog 11 #[.agg #[.slice A0_0 l0_0.length c0_0], .agg #[.int .i64 a1_0, .int .i64 a1_1, .int .i64 a1_2]] w fun e w' => ∃ v0_ : Value, e = .returned (.tuple #[.agg #[v0_], .bool r2]) ∧ Kd.R k30 30 w' w.heap.size (fun _ => True) v0_ r1 ∧ Below w.heap.size w w' := by
 have hu26 := Try.underlying26
 have hu30 := Try.underlying30
 have hu28 := Try.underlying28
 have HR0_0 := Aside0.mk hr0_0
 have HC0_0 := Aside0.mk hc0_0
 clear hr0_0 hc0_0
 have HB := Aside0.mk (Below.refl w.heap.size w)
 have H : ((impl_TableOk.f k l0_0).bind fun t428 => (if t428 = true then ((impl_isRoute.f a1_0 a1_1 a1_2).bind fun t429 => (impl_PutRoute.j0 k (!t429) l0_0 a1_0 a1_1 a1_2)) else (impl_PutRoute.j0 k true l0_0 a1_0 a1_1 a1_2))) = some (r1, r2) := h
 clear h
 have HC3 := Aside0.mk H
 clear H
 go_enter Try.func11, Try.ntmps11
 go_upto_region 1 with (first | ((with_reducible refine gate_dst (N := 2) rfl ?_); refine box_event ?hg (N := 2) ?hd (cs := #[.slice A0_0 l0_0.length c0_0]) (t := 26) ?hr ?_; (case hd => rfl); (case hg => rfl); (case hr => first | (go_simp; done) | (go_simp; rfl)); intro gb425 hg w4 hbox hb; have BK425 := Aside0.mk hbox; have GW425 := ge_ HB hg; have GE425 := ge_ HB hg; replace HB := at_ HB hb; clear hb hbox hg) | ((with_reducible refine gate_dst (N := 3) rfl ?_); refine box_event ?hg (N := 3) ?hd (cs := #[.int .i64 a1_0, .int .i64 a1_1, .int .i64 a1_2]) (t := 30) ?hr ?_; (case hd => rfl); (case hg => rfl); (case hr => first | (go_simp; done) | (go_simp; rfl)); intro gb426 hg w5 hbox hb; have BK426 := Aside0.mk hbox; have GW426 := ge_ HB hg; have GE426 := ge_ HB hg; have NB425_426 := nl_ BK425 hg; have NB426_425 := ng_ BK425 hg; replace HB := at_ HB hb; replace BK425 := ab_ BK425 hb; clear hb hbox hg) | ((with_reducible refine gate_dst (N := 4) rfl ?_); refine box_event ?hg (N := 4) ?hd (cs := #[.slice none 0 0]) (t := 26) ?hr ?_; (case hd => rfl); (case hg => rfl); (case hr => first | (go_simp; done) | (go_simp; rfl)); intro gb427 hg w6 hbox hb; have BK427 := Aside0.mk hbox; have GW427 := ge_ HB hg; have GE427 := ge_ HB hg; have NB425_427 := nl_ BK425 hg; have NB427_425 := ng_ BK425 hg; have NB426_427 := nl_ BK426 hg; have NB427_426 := ng_ BK426 hg; replace HB := at_ HB hb; replace BK425 := ab_ BK425 hb; replace BK426 := ab_ BK426 hb; clear hb hbox hg))
 (try simp only [Act.put, List.setIfInBounds_toArray, List.set_cons_zero, List.set_cons_succ])
 go_cut [16] (fun v16 wc => ∃ (kq : Nat) (x16_2 : Bool), v16 = .bool x16_2 ∧ Aside0 (impl_PutRoute.j0 kq x16_2 l0_0 a1_0 a1_1 a1_2 = some (r1, r2)) ∧ Aside0 (kq ≤ k) ∧ Aside0 (wc.heap[gb425]? = some (.cells #[(.slice A0_0 l0_0.length c0_0)] 26 (0, 0))) ∧ Aside0 (wc.heap[gb426]? = some (.cells #[.int .i64 a1_0, .int .i64 a1_1, .int .i64 a1_2] 30 (0, 0))) ∧ Aside0 (wc.heap[gb427]? = some (.cells #[(.slice none 0 0)] 26 (0, 0))) ∧ Aside0 (Below w.heap.size w wc))
 case first =>
  have H := HC3.out
  clear HC3
  replace H := Option.bind_eq_some_iff.mp H
  obtain ⟨t428, A70, H⟩ := H
  have A7 := Aside0.mk A70
  clear A70
  by_cases c8 : t428 = true
  rotate_left
  ·replace c8 := Bool.eq_false_iff.mpr c8
   subst c8
   rw [if_neg (show ¬ (false = true) by decide)] at H
   have H' := Aside0.mk H
   clear H
   have hnb17 := NB425_426.out
   have hnc17 := NB426_425.out
   have hnb18 := NB425_427.out
   have hnc18 := NB427_425.out
   have hcz19_0 := cz_ BK425 0 (.slice A0_0 l0_0.length c0_0)
   have hfz19_0 := fz_ BK425 0
   go_wp2_with ((with_reducible refine gate_callee (f := 48) rfl ?_); refine gl_ (some 10) Try.func48 #[.agg #[.slice A0_0 l0_0.length c0_0]] ?_; (with_reducible refine (impl_TableOk.calls k _ _ l0_0 false _ ?side1 ?side2 A7.out).mono ?_); (case side1 => exact cb_ HR0_0 HB); (case side2 => exact HC0_0.out); rintro e w20 ⟨rfl, hb⟩; refine ⟨_, rfl, ?_⟩; replace BK425 := ab_ BK425 hb; replace BK426 := ab_ BK426 hb; replace BK427 := ab_ BK427 hb; replace HB := at_ HB hb; (try clear hb); (try clear hb2); (try clear hk); (try clear hi))
   go_meet
   case rel => exact ⟨_, (true), er_, H', ⟨by first | omega | exact Nat.le_refl _⟩, ⟨bx_ BK425⟩, ⟨bx_ BK426⟩, ⟨bx_ BK427⟩, ⟨bw112_⟩⟩
  subst c8
  rw [if_pos rfl] at H
  replace H := Option.bind_eq_some_iff.mp H
  obtain ⟨t429, A90, H⟩ := H
  have A9 := Aside0.mk A90
  clear A90
  have H' := Aside0.mk H
  clear H
  have hnb10 := NB425_426.out
  have hnc10 := NB426_425.out
  have hnb11 := NB425_427.out
  have hnc11 := NB427_425.out
  have hcz12_0 := cz_ BK425 0 (.slice A0_0 l0_0.length c0_0)
  have hfz12_0 := fz_ BK425 0
  go_wp2_with (first | ((with_reducible refine gate_callee (f := 48) rfl ?_); refine gl_ (some 10) Try.func48 #[.agg #[.slice A0_0 l0_0.length c0_0]] ?_; (with_reducible refine (impl_TableOk.calls k _ _ l0_0 true _ ?side1 ?side2 A7.out).mono ?_); (case side1 => exact cb_ HR0_0 HB); (case side2 => exact HC0_0.out); rintro e w13 ⟨rfl, hb⟩; refine ⟨_, rfl, ?_⟩; replace BK425 := ab_ BK425 hb; replace BK426 := ab_ BK426 hb; replace BK427 := ab_ BK427 hb; replace HB := at_ HB hb; (try clear hb); (try clear hb2); (try clear hk); (try clear hi); have hnb14 := NB426_427.out; have hnc14 := NB427_426.out; have hcz15_0 := cz_ BK426 0 (.int .i64 a1_0); have hcz15_1 := cz_ BK426 1 (.int .i64 a1_1); have hcz15_2 := cz_ BK426 2 (.int .i64 a1_2); have hfz15_0 := fz_ BK426 0; have hfz15_1 := fz_ BK426 1; have hfz15_2 := fz_ BK426 2) | (go_at_call 49; (with_reducible refine (impl_isRoute.calls a1_0 a1_1 a1_2 t429 _ A9.out).mono ?_); rintro e w16 ⟨rfl, hb⟩; replace BK425 := ab_ BK425 hb; replace BK426 := ab_ BK426 hb; replace BK427 := ab_ BK427 hb; replace HB := at_ HB hb; (try clear hb); (try clear hb2); (try clear hk); (try clear hi)))
  go_meet
  case rel => exact ⟨_, (!t429), er_, H', ⟨by first | omega | exact Nat.le_refl _⟩, ⟨bx_ BK425⟩, ⟨bx_ BK426⟩, ⟨bx_ BK427⟩, ⟨bw112_⟩⟩
 case rest =>
  clear HC3
  try clear c1
  try clear p2
  try clear c4
  try clear c8
  try clear c10
  try clear c11
  try clear c14
  try clear c17
  try clear c18
  try clear hcz12_0
  try clear hcz15_0
  try clear hcz15_1
  try clear hcz15_2
  try clear hcz19_0
  try clear hfz12_0
  try clear hfz15_0
  try clear hfz15_1
  try clear hfz15_2
  try clear hfz19_0
  obtain ⟨kq, x16_2, rfl, HA, HJ2, BK425, BK426, BK427, HB⟩ := hcut
  cases kq with
  | zero => exact absurd HA.out (by simp [impl_PutRoute.j0])
  | succ kj2 =>
   have H := HA.out
   clear HA
   simp only [impl_PutRoute.j0] at H
   by_cases c21 : x16_2 = true
   ·subst c21
    rw [if_pos rfl] at H
    replace H := Option.bind_eq_some_iff.mp H
    obtain ⟨t430, A220, H⟩ := H
    have A22 := Aside0.mk A220
    clear A220
    simp only [Option.some.injEq, Prod.mk.injEq] at H
    obtain ⟨rfl, rfl⟩ := H
    have hnb23 := NB425_426.out
    have hnc23 := NB426_425.out
    have hnb24 := NB425_427.out
    have hnc24 := NB427_425.out
    have hcz25_0 := cz_ BK425 0 (.slice A0_0 l0_0.length c0_0)
    have hfz25_0 := fz_ BK425 0
    go_wp2_with ((with_reducible refine gate_callee (f := 50) rfl ?_); refine gl_ (some 18) Try.func50 #[.agg #[.slice A0_0 l0_0.length c0_0]] ?_; (with_reducible refine (impl_ownTable.calls _ _ l0_0 t430 _ ?side1 ?side2 A22.out).mono ?_); (case side1 => exact cb_ HR0_0 HB); (case side2 => exact HC0_0.out); rintro e w26 ⟨v431, rfl, ho0, hb⟩; refine ⟨_, rfl, ?_⟩; have HO432 := Aside0.mk (Kd.R_lower (Kd.R_newB ho0 (g := gb426) (o := .cells #[.int .i64 a1_0, .int .i64 a1_1, .int .i64 a1_2] 30 (0, 0)) (bx_ BK426)) (bz_ HB)); replace BK425 := ab_ BK425 hb; replace BK426 := ab_ BK426 hb; replace BK427 := ab_ BK427 hb; replace HB := at_ HB hb; (try clear hb); (try clear hb2); (try clear hk); (try clear hi); (try clear ho0); obtain ⟨Ao27, co27, eo27⟩ := Kd.R_slice HO432.out; subst eo27; have hnb28 := NB427_426.out; have hnc28 := NB426_427.out; have hcz29_0 := cz_ BK427 0 (.slice none 0 0); have hfz29_0 := fz_ BK427 0)
    refine bodyPost_ret (results_ct rfl _ _ gb427 26 #[.slice Ao27 t430.length co27] (0, 0) _ rfl (by refine bd_ ?_; refine blk_put (cs := #[.slice none 0 0]) ?_ 0 _ rfl; refine bd_ ?_; exact BK427.out) Try.underlying26 rfl (by kernel_rfl)) rfl ?_
    exact ⟨_, by first | rfl | (simp [errW_none, errW_some] <;> rfl) | (simp [*, errW_none, errW_some] <;> rfl), by (with_reducible repeat (first | apply Kd.R_alloc | apply Kd.R_drewN | apply Kd.R_drew)); exact Kd.R_mono (Kd.R_far (p := ⟨gb427, 0, none⟩) (Kd.R_types HO432.out BK427.out (by decide)) (fun _ hk => hk.2) (.slice Ao27 t430.length co27)) (fun _ hk => trivial), bw112_⟩
   replace c21 := Bool.eq_false_iff.mpr c21
   subst c21
   rw [if_neg (show ¬ (false = true) by decide)] at H
   replace H := Option.bind_eq_some_iff.mp H
   obtain ⟨t433, A300, H⟩ := H
   have A30 := Aside0.mk A300
   clear A300
   replace H := Option.bind_eq_some_iff.mp H
   obtain ⟨⟨t437, t438⟩, A310, H⟩ := H
   have A31 := Aside0.mk A310
   clear A310
   by_cases c32 : t438 = true
   ·subst c32
    rw [if_pos rfl] at H
    obtain ⟨c33b0, H⟩ := iq_ H
    obtain ⟨c34b0, H⟩ := iq_ H
    obtain ⟨y439, hy439⟩ : ∃ y_ : List (S30), y_ = (t433.set (t437 : Int).toNat (⟨(⟨a1_0, a1_1⟩ : S28), a1_2⟩ : S30)) := ⟨_, rfl⟩
    replace H : (some (y439, true)) = some (r1, r2) := by first | (rw [hy439]; with_reducible exact H) | (have H2_ := (Option.bind_some _ _).symm.trans H; rw [hy439]; with_reducible exact H2_) | (have H2_ := (Option.bind_some _ _).symm.trans H; with_reducible exact H2_) | with_reducible exact H | (rw [hy439]; exact H) | exact H
    have Ny439 := Aside0.mk hy439
    clear hy439
    simp only [Option.some.injEq, Prod.mk.injEq] at H
    obtain ⟨rfl, rfl⟩ := H
    have hnb36 := NB425_426.out
    have hnc36 := NB426_425.out
    have hnb37 := NB425_427.out
    have hnc37 := NB427_425.out
    have hcz38_0 := cz_ BK425 0 (.slice A0_0 l0_0.length c0_0)
    have hfz38_0 := fz_ BK425 0
    go_wp2_with (first | ((with_reducible refine gate_callee (f := 50) rfl ?_); refine gl_ (some 20) Try.func50 #[.agg #[.slice A0_0 l0_0.length c0_0]] ?_; (with_reducible refine (impl_ownTable.calls _ _ l0_0 t433 _ ?side1 ?side2 A30.out).mono ?_); (case side1 => exact cb_ HR0_0 HB); (case side2 => exact HC0_0.out); rintro e w39 ⟨v434, rfl, ho0, hb⟩; refine ⟨_, rfl, ?_⟩; have HO435 := Aside0.mk (Kd.R_lower (Kd.R_newB ho0 (g := gb426) (o := .cells #[.int .i64 a1_0, .int .i64 a1_1, .int .i64 a1_2] 30 (0, 0)) (bx_ BK426)) (bz_ HB)); replace BK425 := ab_ BK425 hb; replace BK426 := ab_ BK426 hb; replace BK427 := ab_ BK427 hb; replace HB := at_ HB hb; (try clear hb); (try clear hb2); (try clear hk); (try clear hi); (try clear ho0)) | ((with_reducible refine gate_dst (N := 6) rfl ?_); refine box_event ?hg (N := 6) ?hd (cs := #[.slice none 0 0]) (t := 26) ?hr ?_; (case hd => rfl); (case hg => rfl); (case hr => first | (go_simp; done) | (go_simp; rfl)); intro gb436 hg w40 hbox hb; have BK436 := Aside0.mk hbox; have GW436 := ge_ HB hg; have GE436 := ge_ HB hg; have NB425_436 := nl_ BK425 hg; have NB436_425 := ng_ BK425 hg; have NB426_436 := nl_ BK426 hg; have NB436_426 := ng_ BK426 hg; have NB427_436 := nl_ BK427 hg; have NB436_427 := ng_ BK427 hg; replace HO435 := rb_ HO435 hb; replace HB := at_ HB hb; replace BK425 := ab_ BK425 hb; replace BK426 := ab_ BK426 hb; replace BK427 := ab_ BK427 hb; clear hb hbox hg; obtain ⟨Ao41, co41, eo41⟩ := Kd.R_slice HO435.out; subst eo41; have hnb42 := NB436_425.out; have hnc42 := NB425_436.out; have hnb43 := NB436_426.out; have hnc43 := NB426_436.out; have hnb44 := NB436_427.out; have hnc44 := NB427_436.out; have hcz45_0 := cz_ BK436 0 (.slice none 0 0); have hfz45_0 := fz_ BK436 0; have hnb46 := NB426_427.out; have hnc46 := NB427_426.out; have hcz47_0 := cz_ BK426 0 (.int .i64 a1_0); have hcz47_1 := cz_ BK426 1 (.int .i64 a1_1); have hcz47_2 := cz_ BK426 2 (.int .i64 a1_2); have hfz47_0 := fz_ BK426 0; have hfz47_1 := fz_ BK426 1; have hfz47_2 := fz_ BK426 2) | ((with_reducible refine gate_callee (f := 51) rfl ?_); refine gl_ (some 26) Try.func51 #[.slice Ao41 t433.length co41, .agg #[.int .i64 a1_0, .int .i64 a1_1]] ?_; (with_reducible refine (impl_findRoute.calls kj2 _ _ t433 a1_0 a1_1 t437 true _ ?side1 ?side2 A31.out).mono ?_); (case side1 => refine (Kd.R_reads' (e := 30) (base := w.heap.size) (ok := fun k_ => (True ∧ k_ ≠ gb426)) (n := t433.length) (c := co41) ?_).2.2; exact (hs_ HO435 BK436)); (case side2 => exact (Kd.R_reads' HO435.out).2.1); rintro e w48 ⟨rfl, hb⟩; refine ⟨_, rfl, ?_⟩; replace HO435 := rs_ HO435 BK436 hb; replace BK425 := bf_ BK425 NB425_436 hb; replace BK426 := bf_ BK426 NB426_436 hb; replace BK427 := bf_ BK427 NB427_436 hb; replace BK436 := Aside0.mk (blk_below (g := gb436) (o := .cells #[.slice Ao41 t433.length co41] 26 (0, 0)) (by refine bd_ ?_; refine blk_put (cs := #[.slice none 0 0]) ?_ 0 _ rfl; refine bd_ ?_; exact BK436.out) hb); replace HB := at_ HB hb; (try clear hb); (try clear hb2); (try clear hk); (try clear hi); have hcz49_0 := cz_ BK436 0 (.slice Ao41 t433.length co41); have hfz49_0 := fz_ BK436 0; have hcz50_0 := cz_ BK426 0 (.int .i64 a1_0); have hcz50_1 := cz_ BK426 1 (.int .i64 a1_1); have hcz50_2 := cz_ BK426 2 (.int .i64 a1_2); have hfz50_0 := fz_ BK426 0; have hfz50_1 := fz_ BK426 1; have hfz50_2 := fz_ BK426 2; have p35 : 0 ≤ (t437 : Int) := oa_; have q35 : (t437 : Int) < ((t433.length : Int) : Int) := oa_; obtain ⟨go35, co35, eo35, gb35, gl35, cl35, HG35⟩ := Kd.R_form HO435.out (by omega); (first | cases eo35 | (injection eo35 with ea_ en_ ec_; (first | subst ea_ | (injection ea_ with ea_; subst ea_)); subst ec_; clear en_)); have GB35 := Aside0.mk gb35; have GG35 := Aside0.mk HG35; clear gb35 gl35 HG35; obtain ⟨ce35, hcl35, hM35, hcc35, hfr35⟩ := Kd.R_elem HO435.out z30 (t437 : Int) p35 q35; obtain rfl := k30_openM hM35; have hx35_0 : w48.cell? ⟨go35, (t437 : Int).toNat * 3, none⟩ = some (.int .i64 ((rd_T30 t433 t437).f0.f0)) := hcc35 0 _ rfl; have hx35_1 : w48.cell? ⟨go35, (t437 : Int).toNat * 3 + 1, none⟩ = some (.int .i64 ((rd_T30 t433 t437).f0.f1)) := hcc35 1 _ rfl; have hx35_2 : w48.cell? ⟨go35, (t437 : Int).toNat * 3 + 2, none⟩ = some (.int .i64 ((rd_T30 t433 t437).f1)) := hcc35 2 _ rfl; have hf35_0 : w48.frozen? ⟨go35, (t437 : Int).toNat * 3, none⟩ = false := hfr35 0; have hf35_1 : w48.frozen? ⟨go35, (t437 : Int).toNat * 3 + 1, none⟩ = false := hfr35 1; have hf35_2 : w48.frozen? ⟨go35, (t437 : Int).toNat * 3 + 2, none⟩ = false := hfr35 2; clear hcl35 hcc35 hfr35 hM35; replace p35 := eq_true p35; replace q35 := eq_true q35; have n_ := Aside0.mk (Kd.R_mono (ok' := (fun k_ => k_ ≠ gb426)) HO435.out (fun k_ hk => hk.2)); clear HO435; have HO435 := n_; clear n_; have HX51 := Aside0.mk (show Kd.R k30 30 w48 w.heap.size (fun k_ => k_ ≠ gb426) (.slice (some ⟨go35, 0, none⟩) t433.length co41) t433 from (hd_ HO435)); obtain ⟨ce51, hcl51, hM51, hcc51, hfr51⟩ := Kd.R_elem HX51.out z30 (t437 : Int) oa_ (by have h_ : (t437 : Int) < ((t433.length : Int) : Int) := oa_; first | exact h_ | (have e_ := (Kd.R_reads' HO435.out).1; omega) | simpa using h_); obtain rfl := k30_openM hM51; have HP51 := Kd.R_seg HX51.out (t437 : Int) oa_ (by have h_ : (t437 : Int) < ((t433.length : Int) : Int) := oa_; first | exact h_ | (have e_ := (Kd.R_reads' HO435.out).1; omega) | simpa using h_) (seg := [.int .i64 a1_0, .int .i64 a1_1, .int .i64 a1_2]) (j := 0) hcl51 hcc51 (show 3 ≤ 3 from by decide) (x' := (⟨(⟨a1_0, a1_1⟩ : S28), a1_2⟩ : S30)) (k30_mkM _ _ _ (⟨(⟨a1_0, a1_1⟩ : S28), a1_2⟩ : S30) ) (fun _ hk => hk); have hx51_0 := hcc51 0 _ rfl; (try simp only [show (k30).sz = 3 from rfl, Nat.mul_one, Nat.add_zero] at hx51_0); have hf51_0 := hfr51 0; (try simp only [show (k30).sz = 3 from rfl, Nat.mul_one, Nat.add_zero] at hf51_0); have hx51_1 := hcc51 1 _ rfl; (try simp only [show (k30).sz = 3 from rfl, Nat.mul_one, Nat.add_zero] at hx51_1); have hf51_1 := hfr51 1; (try simp only [show (k30).sz = 3 from rfl, Nat.mul_one, Nat.add_zero] at hf51_1); have hx51_2 := hcc51 2 _ rfl; (try simp only [show (k30).sz = 3 from rfl, Nat.mul_one, Nat.add_zero] at hx51_2); have hf51_2 := hfr51 2; (try simp only [show (k30).sz = 3 from rfl, Nat.mul_one, Nat.add_zero] at hf51_2); clear hcl51 hcc51 hfr51 hM51) | ((with_reducible refine gate_store (t := 30) (p := 42) rfl ?_); refine store_event (t := 30) (p := 42) (v := ?vo_w52) (w1 := (((w48.setCell ⟨go35, (t437 : Int).toNat * 3, none⟩ (.int .i64 a1_0)).setCell ⟨go35, (t437 : Int).toNat * 3 + 1, none⟩ (.int .i64 a1_1)).setCell ⟨go35, (t437 : Int).toNat * 3 + 2, none⟩ (.int .i64 a1_2))) ?hg ?ho ?hn ?hr ?_; (case ho => rfl); (case hg => rfl); (case hn => rfl); (case hr => first | (go_simp; done) | (go_simp; rfl)); intro w52 hw; have hg : w48.grownBy w52 (some go35) := (by rw [hw]; exact HP51.2); have hp_ : Kd.R k30 30 w52 w.heap.size (fun k_ => k_ ≠ gb426) (.slice (some ⟨go35, 0, none⟩) t433.length co41) y439 := (by rw [hw, Ny439.out]; exact HP51.1); clear HP51; replace BK425 := Aside0.mk (blk_grown (g := gb425) (o := .cells #[.slice A0_0 l0_0.length c0_0] 26 (0, 0)) (bx_ BK425) hg (Kd.R_ne HO435.out BK425.out (by decide))); replace BK426 := Aside0.mk (blk_grown (g := gb426) (o := .cells #[.int .i64 a1_0, .int .i64 a1_1, .int .i64 a1_2] 30 (0, 0)) (bx_ BK426) hg (Kd.R_away HO435.out (fun _ hk => hk))); replace BK427 := Aside0.mk (blk_grown (g := gb427) (o := .cells #[.slice none 0 0] 26 (0, 0)) (bx_ BK427) hg (Kd.R_ne HO435.out BK427.out (by decide))); replace BK436 := Aside0.mk (blk_grown (g := gb436) (o := .cells #[.slice (some ⟨go35, 0, none⟩) t433.length co41] 26 (0, 0)) (bx_ BK436) hg (Kd.R_ne HO435.out BK436.out (by decide))); replace HO435 := Aside0.mk (hp_); replace HB := Aside0.mk ((by rw [hw]; exact below_set (below_set (below_set (HB.out) GB35.out) GB35.out) GB35.out : Below w.heap.size w w52)); clear hg hw hp_; have hcz53_0 := cz_ BK436 0 (.slice (some ⟨go35, 0, none⟩) t433.length co41); have hfz53_0 := fz_ BK436 0; have hcz54_0 := cz_ BK427 0 (.slice none 0 0); have hfz54_0 := fz_ BK427 0))
    refine bodyPost_ret (results_ct rfl _ _ gb427 26 #[.slice (some ⟨go35, 0, none⟩) t433.length co41] (0, 0) _ rfl (by refine bd_ ?_; refine blk_put (cs := #[.slice none 0 0]) ?_ 0 _ rfl; refine bd_ ?_; exact BK427.out) Try.underlying26 rfl (by kernel_rfl)) rfl ?_
    exact ⟨_, by first | rfl | (simp [errW_none, errW_some] <;> rfl) | (simp [*, errW_none, errW_some] <;> rfl), by (with_reducible repeat (first | apply Kd.R_alloc | apply Kd.R_drewN | apply Kd.R_drew)); exact Kd.R_mono (Kd.R_far (p := ⟨gb427, 0, none⟩) (Kd.R_types HO435.out BK427.out (by decide)) (fun _ hk => hk.2) (.slice (some ⟨go35, 0, none⟩) t433.length co41)) (fun _ hk => trivial), bw112_⟩
   replace c32 := Bool.eq_false_iff.mpr c32
   subst c32
   rw [if_neg (show ¬ (false = true) by decide)] at H
   by_cases c55 : (t433.length : Int) = 120
   ·rw [if_pos c55] at H
    have c55b0 : ((t433.length : Int) == 120) = true := beq_iff_eq.mpr c55
    have c55b1 : ((t433.length : Int) != 120) = false := bne_eq_false_iff_eq.mpr c55
    clear c55
    simp only [Option.some.injEq, Prod.mk.injEq] at H
    obtain ⟨rfl, rfl⟩ := H
    have hnb56 := NB425_426.out
    have hnc56 := NB426_425.out
    have hnb57 := NB425_427.out
    have hnc57 := NB427_425.out
    have hcz58_0 := cz_ BK425 0 (.slice A0_0 l0_0.length c0_0)
    have hfz58_0 := fz_ BK425 0
    go_wp2_with (first | ((with_reducible refine gate_callee (f := 50) rfl ?_); refine gl_ (some 20) Try.func50 #[.agg #[.slice A0_0 l0_0.length c0_0]] ?_; (with_reducible refine (impl_ownTable.calls _ _ l0_0 t433 _ ?side1 ?side2 A30.out).mono ?_); (case side1 => exact cb_ HR0_0 HB); (case side2 => exact HC0_0.out); rintro e w59 ⟨v434, rfl, ho0, hb⟩; refine ⟨_, rfl, ?_⟩; have HO435 := Aside0.mk (Kd.R_lower (Kd.R_newB ho0 (g := gb426) (o := .cells #[.int .i64 a1_0, .int .i64 a1_1, .int .i64 a1_2] 30 (0, 0)) (bx_ BK426)) (bz_ HB)); replace BK425 := ab_ BK425 hb; replace BK426 := ab_ BK426 hb; replace BK427 := ab_ BK427 hb; replace HB := at_ HB hb; (try clear hb); (try clear hb2); (try clear hk); (try clear hi); (try clear ho0)) | ((with_reducible refine gate_dst (N := 6) rfl ?_); refine box_event ?hg (N := 6) ?hd (cs := #[.slice none 0 0]) (t := 26) ?hr ?_; (case hd => rfl); (case hg => rfl); (case hr => first | (go_simp; done) | (go_simp; rfl)); intro gb436 hg w60 hbox hb; have BK436 := Aside0.mk hbox; have GW436 := ge_ HB hg; have GE436 := ge_ HB hg; have NB425_436 := nl_ BK425 hg; have NB436_425 := ng_ BK425 hg; have NB426_436 := nl_ BK426 hg; have NB436_426 := ng_ BK426 hg; have NB427_436 := nl_ BK427 hg; have NB436_427 := ng_ BK427 hg; replace HO435 := rb_ HO435 hb; replace HB := at_ HB hb; replace BK425 := ab_ BK425 hb; replace BK426 := ab_ BK426 hb; replace BK427 := ab_ BK427 hb; clear hb hbox hg; obtain ⟨Ao61, co61, eo61⟩ := Kd.R_slice HO435.out; subst eo61; have hnb62 := NB436_425.out; have hnc62 := NB425_436.out; have hnb63 := NB436_426.out; have hnc63 := NB426_436.out; have hnb64 := NB436_427.out; have hnc64 := NB427_436.out; have hcz65_0 := cz_ BK436 0 (.slice none 0 0); have hfz65_0 := fz_ BK436 0; have hnb66 := NB426_427.out; have hnc66 := NB427_426.out; have hcz67_0 := cz_ BK426 0 (.int .i64 a1_0); have hcz67_1 := cz_ BK426 1 (.int .i64 a1_1); have hcz67_2 := cz_ BK426 2 (.int .i64 a1_2); have hfz67_0 := fz_ BK426 0; have hfz67_1 := fz_ BK426 1; have hfz67_2 := fz_ BK426 2) | ((with_reducible refine gate_callee (f := 51) rfl ?_); refine gl_ (some 26) Try.func51 #[.slice Ao61 t433.length co61, .agg #[.int .i64 a1_0, .int .i64 a1_1]] ?_; (with_reducible refine (impl_findRoute.calls kj2 _ _ t433 a1_0 a1_1 t437 false _ ?side1 ?side2 A31.out).mono ?_); (case side1 => refine (Kd.R_reads' (e := 30) (base := w.heap.size) (ok := fun k_ => (True ∧ k_ ≠ gb426)) (n := t433.length) (c := co61) ?_).2.2; exact (hs_ HO435 BK436)); (case side2 => exact (Kd.R_reads' HO435.out).2.1); rintro e w68 ⟨rfl, hb⟩; refine ⟨_, rfl, ?_⟩; replace HO435 := rs_ HO435 BK436 hb; replace BK425 := bf_ BK425 NB425_436 hb; replace BK426 := bf_ BK426 NB426_436 hb; replace BK427 := bf_ BK427 NB427_436 hb; replace BK436 := Aside0.mk (blk_below (g := gb436) (o := .cells #[.slice Ao61 t433.length co61] 26 (0, 0)) (by refine bd_ ?_; refine blk_put (cs := #[.slice none 0 0]) ?_ 0 _ rfl; refine bd_ ?_; exact BK436.out) hb); replace HB := at_ HB hb; (try clear hb); (try clear hb2); (try clear hk); (try clear hi); have hcz69_0 := cz_ BK436 0 (.slice Ao61 t433.length co61); have hfz69_0 := fz_ BK436 0; have hcz70_0 := cz_ BK427 0 (.slice none 0 0); have hfz70_0 := fz_ BK427 0))
    refine bodyPost_ret (results_ct rfl _ _ gb427 26 #[.slice Ao61 t433.length co61] (0, 0) _ rfl (by refine bd_ ?_; refine blk_put (cs := #[.slice none 0 0]) ?_ 0 _ rfl; refine bd_ ?_; exact BK427.out) Try.underlying26 rfl (by kernel_rfl)) rfl ?_
    exact ⟨_, by first | rfl | (simp [errW_none, errW_some] <;> rfl) | (simp [*, errW_none, errW_some] <;> rfl), by (with_reducible repeat (first | apply Kd.R_alloc | apply Kd.R_drewN | apply Kd.R_drew)); exact Kd.R_mono (Kd.R_far (p := ⟨gb427, 0, none⟩) (Kd.R_types HO435.out BK427.out (by decide)) (fun _ hk => hk.2) (.slice Ao61 t433.length co61)) (fun _ hk => trivial), bw112_⟩
   rw [if_neg c55] at H
   have c55b0 : ((t433.length : Int) == 120) = false := beq_eq_false_iff_ne.mpr c55
   have c55b1 : ((t433.length : Int) != 120) = true := bne_iff_ne.mpr c55
   obtain ⟨y440, hy440⟩ : ∃ y_ : List (S30), y_ = (([(⟨(⟨a1_0, a1_1⟩ : S28), a1_2⟩ : S30)] : List (S30))) := ⟨_, rfl⟩
   replace H : ((slices_Insert_impl_Route_impl_Route.f t433 t437 y440).bind fun t443 => (some (t443, true))) = some (r1, r2) := by first | (rw [hy440]; with_reducible exact H) | (have H2_ := (Option.bind_some _ _).symm.trans H; rw [hy440]; with_reducible exact H2_) | (have H2_ := (Option.bind_some _ _).symm.trans H; with_reducible exact H2_) | with_reducible exact H | (rw [hy440]; exact H) | exact H
   have Ny440 := Aside0.mk hy440
   clear hy440
   replace H := Option.bind_eq_some_iff.mp H
   obtain ⟨t443, A710, H⟩ := H
   have A71 := Aside0.mk A710
   clear A710
   simp only [Option.some.injEq, Prod.mk.injEq] at H
   obtain ⟨rfl, rfl⟩ := H
   have hnb72 := NB425_426.out
   have hnc72 := NB426_425.out
   have hnb73 := NB425_427.out
   have hnc73 := NB427_425.out
   have hcz74_0 := cz_ BK425 0 (.slice A0_0 l0_0.length c0_0)
   have hfz74_0 := fz_ BK425 0
   go_wp2_with (first | ((with_reducible refine gate_callee (f := 50) rfl ?_); refine gl_ (some 20) Try.func50 #[.agg #[.slice A0_0 l0_0.length c0_0]] ?_; (with_reducible refine (impl_ownTable.calls _ _ l0_0 t433 _ ?side1 ?side2 A30.out).mono ?_); (case side1 => exact cb_ HR0_0 HB); (case side2 => exact HC0_0.out); rintro e w75 ⟨v434, rfl, ho0, hb⟩; refine ⟨_, rfl, ?_⟩; have HO435 := Aside0.mk (Kd.R_lower (Kd.R_newB ho0 (g := gb426) (o := .cells #[.int .i64 a1_0, .int .i64 a1_1, .int .i64 a1_2] 30 (0, 0)) (bx_ BK426)) (bz_ HB)); replace BK425 := ab_ BK425 hb; replace BK426 := ab_ BK426 hb; replace BK427 := ab_ BK427 hb; replace HB := at_ HB hb; (try clear hb); (try clear hb2); (try clear hk); (try clear hi); (try clear ho0)) | ((with_reducible refine gate_dst (N := 6) rfl ?_); refine box_event ?hg (N := 6) ?hd (cs := #[.slice none 0 0]) (t := 26) ?hr ?_; (case hd => rfl); (case hg => rfl); (case hr => first | (go_simp; done) | (go_simp; rfl)); intro gb436 hg w76 hbox hb; have BK436 := Aside0.mk hbox; have GW436 := ge_ HB hg; have GE436 := ge_ HB hg; have NB425_436 := nl_ BK425 hg; have NB436_425 := ng_ BK425 hg; have NB426_436 := nl_ BK426 hg; have NB436_426 := ng_ BK426 hg; have NB427_436 := nl_ BK427 hg; have NB436_427 := ng_ BK427 hg; replace HO435 := rb_ HO435 hb; replace HB := at_ HB hb; replace BK425 := ab_ BK425 hb; replace BK426 := ab_ BK426 hb; replace BK427 := ab_ BK427 hb; clear hb hbox hg; obtain ⟨Ao77, co77, eo77⟩ := Kd.R_slice HO435.out; subst eo77; have hnb78 := NB436_425.out; have hnc78 := NB425_436.out; have hnb79 := NB436_426.out; have hnc79 := NB426_436.out; have hnb80 := NB436_427.out; have hnc80 := NB427_436.out; have hcz81_0 := cz_ BK436 0 (.slice none 0 0); have hfz81_0 := fz_ BK436 0; have hnb82 := NB426_427.out; have hnc82 := NB427_426.out; have hcz83_0 := cz_ BK426 0 (.int .i64 a1_0); have hcz83_1 := cz_ BK426 1 (.int .i64 a1_1); have hcz83_2 := cz_ BK426 2 (.int .i64 a1_2); have hfz83_0 := fz_ BK426 0; have hfz83_1 := fz_ BK426 1; have hfz83_2 := fz_ BK426 2) | ((with_reducible refine gate_callee (f := 51) rfl ?_); refine gl_ (some 26) Try.func51 #[.slice Ao77 t433.length co77, .agg #[.int .i64 a1_0, .int .i64 a1_1]] ?_; (with_reducible refine (impl_findRoute.calls kj2 _ _ t433 a1_0 a1_1 t437 false _ ?side1 ?side2 A31.out).mono ?_); (case side1 => refine (Kd.R_reads' (e := 30) (base := w.heap.size) (ok := fun k_ => (True ∧ k_ ≠ gb426)) (n := t433.length) (c := co77) ?_).2.2; exact (hs_ HO435 BK436)); (case side2 => exact (Kd.R_reads' HO435.out).2.1); rintro e w84 ⟨rfl, hb⟩; refine ⟨_, rfl, ?_⟩; replace HO435 := rs_ HO435 BK436 hb; replace BK425 := bf_ BK425 NB425_436 hb; replace BK426 := bf_ BK426 NB426_436 hb; replace BK427 := bf_ BK427 NB427_436 hb; replace BK436 := Aside0.mk (blk_below (g := gb436) (o := .cells #[.slice Ao77 t433.length co77] 26 (0, 0)) (by refine bd_ ?_; refine blk_put (cs := #[.slice none 0 0]) ?_ 0 _ rfl; refine bd_ ?_; exact BK436.out) hb); replace HB := at_ HB hb; (try clear hb); (try clear hb2); (try clear hk); (try clear hi); have hcz85_0 := cz_ BK436 0 (.slice Ao77 t433.length co77); have hfz85_0 := fz_ BK436 0; have hcz86_0 := cz_ BK426 0 (.int .i64 a1_0); have hcz86_1 := cz_ BK426 1 (.int .i64 a1_1); have hcz86_2 := cz_ BK426 2 (.int .i64 a1_2); have hfz86_0 := fz_ BK426 0; have hfz86_1 := fz_ BK426 1; have hfz86_2 := fz_ BK426 2) | ((with_reducible refine gate_dst (N := 33) rfl ?_); refine Kd.R_lit k30 _ 30 ?hg (N := 33) ?hd (xs := ([(⟨(⟨a1_0, a1_1⟩ : S28), a1_2⟩ : S30)] : List (S30))) (inner := [.int .i64 a1_0, .int .i64 a1_1, .int .i64 a1_2]) (ok := fun _ => True) (okp := fun _ => True) ?hr ?hp (fun _ hk => hk) trivial (Below.refl _ _) (Nat.le_refl _) (by simp) ?_; (case hd => rfl); (case hg => rfl); (case hr => first | (go_simp; done) | (go_simp; rfl)); (case hp => exact (Reps.c3 (show Kd.M k30 _ _ _ (⟨(⟨a1_0, a1_1⟩ : S28), a1_2⟩ : S30) [.int .i64 a1_0, .int .i64 a1_1, .int .i64 a1_2] from (k30_mkM _ _ _ (⟨(⟨a1_0, a1_1⟩ : S28), a1_2⟩ : S30) )) (Reps.none _ _))); intro v441 w87 ho88 hb hg_ hnew_; clear hg_ hnew_; (first | rw [← Ny440.out] at ho88 | (simp only [Int.reduceToNat] at ho88; rw [← Ny440.out] at ho88)); have HO442 := Aside0.mk (Kd.R_lower (Kd.R_newB (Kd.R_new' ho88 (Kd.R_lt (hd_ HO435))) (g := gb426) (o := .cells #[.int .i64 a1_0, .int .i64 a1_1, .int .i64 a1_2] 30 (0, 0)) (bx_ BK426)) (bz_ HB)); replace HO435 := Aside0.mk (Kd.R_elder' (hd_ HO435) (Kd.R_base ho88) hb); replace BK425 := ab_ BK425 hb; replace BK426 := ab_ BK426 hb; replace BK427 := ab_ BK427 hb; replace BK436 := ab_ BK436 hb; replace HB := at_ HB hb; clear hb ho88; obtain ⟨Ao89, co89, eo89⟩ := Kd.R_slice HO442.out; subst eo89) | ((with_reducible refine gate_callee (f := 52) rfl ?_); refine gl_ (some 34) Try.func52 #[.slice Ao77 t433.length co77, .int .i64 t437, .slice Ao89 y440.length co89] ?_; (with_reducible refine (slices_Insert_impl_Route_impl_Route.calls (fun k_ => some k_ = (.slice Ao77 t433.length co77 : Value).ownBlock) (.slice Ao77 t433.length co77) t433 t437 (fun k_ => some k_ = (.slice Ao89 y440.length co89 : Value).ownBlock) (.slice Ao89 y440.length co89) y440 t443 w _ ?side1 ?side2 ?side3 ?side4 ?side5 A71.out).mono ?_); (case side1 => exact by_ HB); (case side2 => exact Kd.R_tight rfl HO435.out); (case side3 => exact fun k_ e_ => (HO435.out.1 k_ e_.symm).2); (case side4 => exact Kd.R_tight rfl HO442.out); (case side5 => exact fun k_ e_ => (HO442.out.1 k_ e_.symm).1.2); rintro e w90 ⟨v444, rfl, ho0, hb, hkp⟩; refine ⟨_, rfl, ?_⟩; have HO445 := Aside0.mk (Kd.R_mono (ok' := fun k_ => k_ ≠ gb426) ho0 (fun k_ hk_ => Or.elim hk_ (fun hs_ => Or.elim hs_ (fun hs_ => fun e_ => (Kd.R_away HO435.out (fun _ hk => hk.1.2)) (by rw [← e_]; exact hs_)) (fun hs_ => fun e_ => (Kd.R_away HO442.out (fun _ hk => hk.2)) (by rw [← e_]; exact hs_))) (fun hn_ => (Kd.freshB (g := gb426) (o := .cells #[.int .i64 a1_0, .int .i64 a1_1, .int .i64 a1_2] 30 (0, 0)) (bx_ BK426) k_ hn_)))); replace BK425 := bk_ BK425 hkp (fun hs_ => Or.elim hs_ (Kd.R_ne HO435.out BK425.out (by decide)) (Kd.R_ne HO442.out BK425.out (by decide))); replace BK427 := bk_ BK427 hkp (fun hs_ => Or.elim hs_ (Kd.R_ne HO435.out BK427.out (by decide)) (Kd.R_ne HO442.out BK427.out (by decide))); replace BK436 := bk_ BK436 hkp (fun hs_ => Or.elim hs_ (Kd.R_ne HO435.out BK436.out (by decide)) (Kd.R_ne HO442.out BK436.out (by decide))); replace BK426 := bk_ BK426 hkp (fun hs_ => Or.elim hs_ (Kd.R_away HO435.out (fun _ hk => hk.1.2)) (Kd.R_away HO442.out (fun _ hk => hk.2))); replace HB := Aside0.mk (hb); clear HO435 HO442; (try clear hb); (try clear hkp); (try clear ho0); obtain ⟨Ao91, co91, eo91⟩ := Kd.R_slice HO445.out; subst eo91; have hcz92_0 := cz_ BK436 0 (.slice Ao77 t433.length co77); have hfz92_0 := fz_ BK436 0; have hcz93_0 := cz_ BK427 0 (.slice none 0 0); have hfz93_0 := fz_ BK427 0))
   refine bodyPost_ret (results_ct rfl _ _ gb427 26 #[.slice Ao91 t443.length co91] (0, 0) _ rfl (by refine bd_ ?_; refine blk_put (cs := #[.slice none 0 0]) ?_ 0 _ rfl; refine bd_ ?_; refine blk_far ?_ NB427_436.out _; refine bd_ ?_; exact BK427.out) Try.underlying26 rfl (by kernel_rfl)) rfl ?_
   exact ⟨_, by first | rfl | (simp [errW_none, errW_some] <;> rfl) | (simp [*, errW_none, errW_some] <;> rfl), by (with_reducible repeat (first | apply Kd.R_alloc | apply Kd.R_drewN | apply Kd.R_drew)); exact Kd.R_mono (Kd.R_far (p := ⟨gb427, 0, none⟩) (Kd.R_far (p := ⟨gb436, 0, none⟩) (Kd.R_types (Kd.R_types HO445.out BK436.out (by decide)) BK427.out (by decide)) (fun _ hk => hk.1.2) (.slice Ao91 t443.length co91)) (fun _ hk => hk.2) (.slice Ao91 t443.length co91)) (fun _ hk => trivial), bw112_⟩

/-! ### slices_Delete_impl_Route_impl_Route: function 53 -/
section
open Go.Lib
variable {P : Program} {α : Type}
theorem R_past_run (d : Kd α) {W : World} (base : Nat) (t ty e : TypeId) (ht : P.underlying t = some (.slice e)) (z : Value) (i0 : TypeInfo) (hi : P.info? e = some i0) (hz0 : i0.zero = some z) (hzs : z.cells.size = d.sz) (hs0 : 0 < d.sz) (z0 : α)
  (hzM : ∀ W, d.M W base (fun _ => False) z0 z.cells.toList) {g n c q : Nat} {xs : List α} {ok : Nat → Prop} (HO : d.R e W base ok (.slice (some ⟨g, 0, none⟩) n c) xs) (hq : n + (q + 1) ≤ c) (c2 : Nat) :
  ∃ w1, (Builtin.clear_ #[t] ty #[.slice (some ⟨g, n * d.sz, none⟩) (q + 1) c2]).run P W = .ok (.tuple #[]) w1 ∧ d.R e w1 base ok (.slice (some ⟨g, 0, none⟩) n c) xs ∧ W.grownBy w1 (some g) := by
 obtain ⟨hn, hnc, _⟩ := Kd.R_reads' HO
 have hcm0 : Reps (d.M W base (fun _ => False)) d.sz (List.replicate (q + 1) z0) (Builtin.zeroCells z.cells (q + 1)).toList := Kd.reps_zeros hzs hs0 (hzM W) (q + 1)
 obtain ⟨hok, inner, hown, hr⟩ := HO
 have hin : inner.length = n * d.sz := by rw [hr.1, hn]
 rcases hown.2 with ⟨hv, _⟩ | ⟨g', cap', cur, hv, hb, hh, h9, hcm, hcs, htake⟩
 ·cases hv
 injection hv with ha _ hc
 injection ha with ha
 injection ha with hg
 subst hg; subst hc
 rw [← hn] at htake
 obtain ⟨news, hnews⟩ : ∃ news, news = (Builtin.zeroCells z.cells (q + 1)).toList := ⟨_, rfl⟩
 have hnl : news.length = (q + 1) * d.sz := by rw [hnews, Array.length_toList, size_zeroCells, hzs]
 rw [← hnews] at hcm0
 have hcc : (n + (q + 1)) * d.sz ≤ c * d.sz := Nat.mul_le_mul_right _ hq
 have hadd : (n + (q + 1)) * d.sz = n * d.sz + (q + 1) * d.sz := Nat.add_mul _ _ _
 have hfit : n * d.sz + news.length ≤ cur.size := by omega
 have hone : ∀ u ∈ news, u.oneCell' = true := by
  intro u hu
  obtain ⟨p, hp, rfl⟩ := List.mem_iff_getElem.1 hu
  have hql : p / d.sz < (List.replicate (q + 1) z0).length := by
   rw [List.length_replicate, Nat.div_lt_iff_lt_mul hs0, ← hnl]
   exact hp
  refine d.K_one (d.K_of_M (hcm0.2 (p / d.sz) _ (List.getElem?_eq_getElem hql))) _ ?_
  rw [List.mem_iff_getElem?]
  refine ⟨p % d.sz, ?_⟩
  rw [List.getElem?_take, if_pos (Nat.mod_lt _ hs0), List.getElem?_drop, Nat.mul_comm, Nat.div_add_mod, List.getElem?_eq_getElem hp]
 have hst := run_storeCells_cells (P := P) g (n * d.sz) news 0 W (fun j hj => by rw [cell_of_row W g _ cur e (0, 0) hh]; simp; omega) (fun j _ => blk_frozen hh _) hone
 simp only [Nat.add_zero] at hst
 obtain ⟨cur', h3, h4, h5⟩ := setCells_row news (n * d.sz) W cur hh hfit
 obtain ⟨s1, s2, s3, s4⟩ := setCells_same g news (n * d.sz) W
 have hfar : ∀ k', k' ≠ g → (W.setCells g (n * d.sz) news).heap[k']? = W.heap[k']? := fun k' hk' => setCells_far news _ k' hk'
 have hgo : some g = (Value.slice (some ⟨g, 0, none⟩) n c).ownBlock := by simp [Value.ownBlock]
 have hz : (zeroValue e).run P W = .ok z W := by
  simp [zeroValue, run_typeInfo W hi, hz0]
 refine ⟨W.setCells g (n * d.sz) news, ?_, ⟨fun k' hk' => hok k' hk', inner, ⟨by rw [hin, hn], .inr ⟨g, c, cur', by rw [hn], hb, h3, h9, hcm, by rw [h4, hcs], ?_⟩⟩, ?_⟩, ⟨s1, s2, s3, by rw [s4]; exact Nat.le_refl _, fun k' _ hk' => hfar k' (fun he => hk' (by rw [he]))⟩⟩
 ·rw [hnews] at hst ⊢
  simp [Builtin.clear_, run_underlying ht, hz, hst]
 ·rw [← hn, h5, List.append_assoc]
  have h6 : (cur.toList.take (n * d.sz)).length = n * d.sz := by rw [htake, hin]
  rw [List.take_left' h6, htake]
 ·exact hr.imp_ (fun p q hp => d.M_move (fun k' hk' => hfar k' (fun he => hk'.2 (by rw [← hgo, he]))) hp)
end
section
open Go.Lib
variable {P : Program} {ops : Array Oper} {o : Oper} {a : Act} {Q : Exit → Act → World → Prop} {Kc : Act → World → Prop} {α : Type}
theorem R_delete_step (d : Kd α) {w0 W : World} (base : Nat) (hw : Region.wanted o (yielded ops a.tmps) = true) (s x : Operand) (t e : TypeId) (ho : o.op = .call { callee := .builtin .append, args := #[s, x], argTypes := #[t, t] })
  (ht : P.underlying t = some (.slice e)) (hinfo : (P.info? e).map (·.size) = some d.sz) {g n c k m c2 : Nat} {A : Option Addr} {xs : List α} {ok : Nat → Prop}
  (hs : a.eval s = .slice (some ⟨g, 0, none⟩) k c) (hx : a.eval x = .slice A m c2) (hA : A = if c = k + 1 then some ⟨g, 0, none⟩ else (some (⟨g, 0, none⟩ : Addr)).map (·.add ((k + 1) * d.sz))) (hm : m = n + 1 - (k + 1))
  (HO : d.R e W base ok (.slice (some ⟨g, 0, none⟩) (n + 1) c) xs) (hk : k < n + 1) (HB : Below base w0 W) (hbase : base ≤ W.heap.size)
  (h : ∀ w1, d.R e w1 base ok (.slice (some ⟨g, 0, none⟩) n c) (xs.eraseIdx k) → Below base w0 w1 → W.grownBy w1 (some g) → Kc (a.put o.dst (.slice (some ⟨g, 0, none⟩) n c)) w1) :
  if Region.wanted o (yielded ops a.tmps) = true then Oper.wp P o a W Kc Q else Kc (a.put o.dst undef) W := by
 rw [if_pos hw]
 obtain ⟨i0, hi, hsz⟩ := Option.map_eq_some_iff.1 hinfo
 subst hm
 obtain ⟨w1, hr, h1, h2⟩ := Kd.R_delete_run d base t o.type e i0 ht hi hsz HO hk hA c2
 unfold Oper.wp execOp
 simp only [ho, resolve, invoke, builtin, Sem.run_bind, Sem.run_pure, Result.andThen_ok, List.map_toArray, List.map_cons, List.map_nil, hs, hx, hr]
 exact h w1 h1 (HB.grown h2 hbase (fun k hk => by injection hk with hk; subst hk; exact Kd.R_base HO _ (by simp [Value.ownBlock]))) h2
end
section
open Go.Lib
variable {P : Program} {ops : Array Oper} {rest : List Oper} {o : Oper} {a : Act} {Q : Exit → Act → World → Prop} {α : Type}
theorem R_past (d : Kd α) {w0 W : World} (base : Nat) (hgd : o.guard = none) (s : Operand) (t e : TypeId) (ho : o.op = .call { callee := .builtin .clear, args := #[s], argTypes := #[t] }) (hd : o.dst = none)
  (ht : P.underlying t = some (.slice e)) (z : Value) (bytes : Nat) (hinfo : (P.info? e).map (fun i => (i.zero, i.size, i.bytes)) = some (some z, d.sz, bytes)) (hzs : z.cells.size = d.sz) (hs0 : 0 < d.sz) (z0 : α) (hzM : ∀ W, d.M W base (fun _ => False) z0 z.cells.toList)
  {g n c q m c2 : Nat} {A : Option Addr} {xs : List α} {ok : Nat → Prop} (hs : a.eval s = .slice A m c2) (hA : A = some ⟨g, n * d.sz, none⟩) (hm : m = q + 1)
  (HO : d.R e W base ok (.slice (some ⟨g, 0, none⟩) n c) xs) (hq : n + (q + 1) ≤ c) (HB : Below base w0 W) (hbase : base ≤ W.heap.size) (hg : base ≤ g)
  (h : ∀ w1, d.R e w1 base ok (.slice (some ⟨g, 0, none⟩) n c) xs → Below base w0 w1 → W.grownBy w1 (some g) → wpList P ops Q rest a w1) : wpList P ops Q (o :: rest) a W := by
 obtain ⟨i0, hi, hzz⟩ := Option.map_eq_some_iff.1 hinfo
 simp only [Prod.mk.injEq] at hzz
 subst hm
 subst hA
 obtain ⟨w1, hr, h1, h2⟩ := R_past_run (P := P) d base t o.type e ht z i0 hi hzz.1 hzs hs0 z0 hzM HO hq c2
 refine wpList_plain hgd fun K hK => ?_
 unfold Oper.wp execOp
 simp only [ho, resolve, invoke, builtin, Sem.run_bind, Sem.run_pure, Result.andThen_ok, List.map_toArray, List.map_cons, List.map_nil, hs, hr]
 show K (a.put o.dst (.tuple #[])) w1
 rw [show a.put o.dst (.tuple #[]) = a by rw [hd]; rfl]
 exact hK _ _ (h w1 h1 (HB.grown h2 hbase (fun k hk => by injection hk with hk; subst hk; exact hg)) h2)
end
def slices_Delete_impl_Route_impl_Route.f (l0 : List S30) (a1 : Int) (a2 : Int) : Option (List S30) := if 0 ≤ a1 then (if a1 < (l0.length : Int) then (if a2 = a1 + 1 then some (l0.eraseIdx (a1 : Int).toNat) else none) else none) else none
def slices_Delete_impl_Route_impl_Route.b0 : Array Bool := ba15_0
def slices_Delete_impl_Route_impl_Route.b1 : Array Bool := ba15_1
def slices_Delete_impl_Route_impl_Route.b2 : Array Bool := ba15_2
def slices_Delete_impl_Route_impl_Route.b3 : Array Bool := ba15_3
def slices_Delete_impl_Route_impl_Route.b4 : Array Bool := ba15_4
def slices_Delete_impl_Route_impl_Route.b5 : Array Bool := ba15_5
def slices_Delete_impl_Route_impl_Route.b6 : Array Bool := ba15_6
def slices_Delete_impl_Route_impl_Route.b7 : Array Bool := ba15_7
def slices_Delete_impl_Route_impl_Route.b8 : Array Bool := ba15_8
def slices_Delete_impl_Route_impl_Route.T5 : Bool × List (List Nat × List Nat) := (true, [([], []), ([], []), ([0, 1], [0, 1]), ([], []), ([], []), ([3, 4], [3, 4]), ([2, 5], [2, 5]), ([6, 6, 0, 1, 2, 3, 4, 5, 6], [0, 3, 6])])
def slices_Delete_impl_Route_impl_Route.B5 : List Nat := [0, 0, 3, 0, 0, 24, 63, 127]
theorem slices_Delete_impl_Route_impl_Route.tab5 : rtab .any (opsOf Try.f53 5) = slices_Delete_impl_Route_impl_Route.T5 := by kernel_rfl
theorem slices_Delete_impl_Route_impl_Route.bits5 : waitsOk slices_Delete_impl_Route_impl_Route.T5.2 slices_Delete_impl_Route_impl_Route.B5 = true := by kernel_rfl
set_option maxHeartbeats 4000000 in
set_option maxRecDepth 100000 in
theorem slices_Delete_impl_Route_impl_Route.calls (P0_ : Nat → Prop) (u9000_ : Value) (l0 : List S30) (a1 : Int) (a2 : Int) (r : List S30) (w0 w : World) (hB : Below w0.heap.size w0 w) (ho0 : Kd.R k30 30 w w0.heap.size P0_ u9000_ l0) (h : slices_Delete_impl_Route_impl_Route.f l0 a1 a2 = some r) :
  Calls Try.prog 53 #[u9000_, .int .i64 a1, .int .i64 a2] w fun e w' => ∃ v0_ : Value, e = .returned (v0_) ∧ Kd.R k30 30 w' w0.heap.size (fun k_ => (P0_ k_ ∨ w.heap.size ≤ k_)) v0_ r ∧ Below w0.heap.size w0 w' ∧ Kept w w' (fun k_ => P0_ k_) := by
 unfold slices_Delete_impl_Route_impl_Route.f at h
 by_cases c1 : 0 ≤ a1
 rotate_left
 ·rw [if_neg c1] at h; cases h
 rw [if_pos c1] at h
 by_cases c2 : a1 < (l0.length : Int)
 rotate_left
 ·rw [if_neg c2] at h; cases h
 rw [if_pos c2] at h
 by_cases c3 : a2 = a1 + 1
 rotate_left
 ·rw [if_neg c3] at h; cases h
 rw [if_pos c3] at h
 obtain rfl := Option.some.inj h
 clear h
 obtain ⟨i, rfl⟩ := Int.eq_ofNat_of_zero_le c1
 have e2 : a2 = ((i + 1 : Nat) : Int) := by rw [c3]; rfl
 subst e2
 clear c1 c3
 have hi : i < l0.length := by omega
 obtain ⟨m, hL⟩ : ∃ m, l0.length = m + 1 := ⟨l0.length - 1, by omega⟩
 have HB := Aside0.mk hB
 have HW0 := Aside0.mk hB.size
 obtain ⟨g, cap, eg, gb, gl, cl, HG⟩ := Kd.R_form ho0 (by omega)
 subst eg
 have hnc := (Kd.R_reads' ho0).2.1
 have hok := ho0.1 g (by simp [Value.ownBlock])
 rw [hL] at ho0 hnc hi c2 ⊢
 have HO0 := Aside0.mk ho0
 have HK := Aside0.mk (Kept.refl w (fun k_ => P0_ k_))
 clear hB ho0
 have q2 : ¬ ((i : Nat) : Int) = ((i + 1 : Nat) : Int) := by omega
 have q3 : (((i : Nat) : Int) == ((i + 1 : Nat) : Int)) = false := beq_eq_false_iff_ne.mpr q2
 have f1 : (i ≤ cap) = True := eq_true (by omega)
 have f2 : (i + 1 ≤ m + 1) = True := eq_true (by omega)
 have f3 : (0 ≤ (i : Int) + 1 ∧ (i : Int) + 1 ≤ ((m + 1 : Nat) : Int)) = True := eq_true (by omega)
 have f4 : (0 ≤ (i : Int) + 1 ∧ i ≤ m) = True := eq_true (by omega)
 go_enter Try.func53, Try.ntmps53
 go_wp2
 refine start_ (n := 8) (S := fun _ => True) (ds := []) slices_Delete_impl_Route_impl_Route.b0 (by kernel_rfl) rfl rfl trivial (fun hHeld => ?_); refine with_tabW slices_Delete_impl_Route_impl_Route.tab5 slices_Delete_impl_Route_impl_Route.bits5 (fun HT_ HW_ => ?_)
 replace HO0 := Aside0.mk (Kd.R_drew HO0.out)
 replace HB := Aside0.mk (below_drew1 HB.out)
 replace HK := Aside0.mk (Kept.drew HK.out)
 refine pz_ 0 20 slices_Delete_impl_Route_impl_Route.b1 HT_ ?_
 refine pz_ 1 21 slices_Delete_impl_Route_impl_Route.b2 HT_ ?_
 refine pz_ 2 22 slices_Delete_impl_Route_impl_Route.b3 HT_ ?_
 refine pz_ 3 23 slices_Delete_impl_Route_impl_Route.b4 HT_ ?_
 refine pz_ 4 24 slices_Delete_impl_Route_impl_Route.b5 HT_ ?_
 refine pz_ 5 25 slices_Delete_impl_Route_impl_Route.b6 HT_ ?_
 refine one_ (i := 6) (N := some 26) slices_Delete_impl_Route_impl_Route.b7 rfl rfl (one_of HT_.out (by kernel_rfl)) (by decide) (fun K hK => ?_)
 refine R_delete_step k30 (w0 := w0) w0.heap.size (by rfl) (.tmp 22) (.tmp 25) 24 30 rfl Try.underlying24 (by kernel_rfl) (g := g) (n := m) (c := cap) (k := i) (by rfl) (by rfl) ?hA ?hm HO0.out (by omega) HB.out (Nat.le_trans HW0.out (by exact Nat.le_refl _)) ?_
 case hA =>
  by_cases ce : cap = i + 1
  ·rw [if_pos ce, if_pos ce]
  rw [if_neg ce, if_neg ce]
  simp [Addr.add]
  rfl
 case hm => omega
 intro w1 ho hb hg
 have HO1 := Aside0.mk ho
 replace HB := Aside0.mk hb
 replace HK := Aside0.mk (Kept.of_grown (S := (fun k_ => P0_ k_)) hg HK.out (fun k_ e_ => by injection e_ with e_; subst e_; exact .inl hok))
 clear ho hb hg HO0 HG
 generalize (if cap = i + 1 then (some ⟨g, 0, none⟩ : Option Addr) else some ⟨g, (i + 1) * 3, none⟩) = A5
 refine hK.out _ _ trivial (fun hHeld => ?_)
 clear hK K
 refine nz_ 26 ?_
 refine pz_ 7 0 slices_Delete_impl_Route_impl_Route.b8 HT_ ?_
 refine done_ (done_of HT_.out (by kernel_rfl)) ?_
 have f6 : (0 ≤ (m : Int) ∧ (m : Int) ≤ (m : Int) + 1 ∧ m + 1 ≤ cap) = True := eq_true (by omega)
 go_wp2_with ((with_reducible refine gate_builtin (b := .clear) (xs := #[.tmp 31]) rfl ?_); refine R_past k30 (w0 := w0) w0.heap.size rfl (.tmp 31) 24 30 rfl rfl Try.underlying24 (.agg #[(.int .i64 0), (.int .i64 0), (.int .i64 0)]) 24 info30 rfl (by decide) z30 (fun _ => (k30_mkM _ _ _ z30)) (g := g) (n := m) (c := cap) (q := 0) rfl ?hA ?hm HO1.out ?hq HB.out HB.out.size gb ?_; (case hA => first | rfl | (simp; done)); (case hm => first | rfl | omega); (case hq => omega); intro w2 ho hb hg; have HO2 := Aside0.mk ho; replace HB := Aside0.mk hb; replace HK := Aside0.mk (Kept.of_grown (S := (fun k_ => P0_ k_)) hg HK.out (fun k_ e_ => by injection e_ with e_; subst e_; exact .inl hok)); clear ho hb hg HO1)
 go_ret
 exact ⟨_, rfl, Kd.R_mono HO2.out (fun _ hk => .inl hk), HB.out, HK.out⟩

/-! ### impl_DropRoute: function 12 -/
def impl_DropRoute.f (k : Nat) (l0_0 : List (S30)) (a1_0 : Int) (a1_1 : Int) : Option ((List (S30)) × Bool) := (impl_ownTable.f l0_0).bind fun t449 => ((impl_TableOk.f k l0_0).bind fun t453 => (if t453 = true then ((impl_findRoute.f k t449 a1_0 a1_1).bind fun bt454 => (if bt454.2 = true then ((slices_Delete_impl_Route_impl_Route.f t449 bt454.1 (wrap64 (bt454.1 + 1))).bind fun t456 => (some (t456, true))) else (some (t449, false)))) else (some (t449, false))))
theorem impl_DropRoute.mono : ∀ a0 a1 a2 k, LeO (impl_DropRoute.f k a0 a1 a2) (impl_DropRoute.f (k + 1) a0 a1 a2) := by
 intro a0 a1 a2 k
 unfold impl_DropRoute.f
 repeat' first | (with_reducible first | exact impl_TableOk.mono _ _ | exact impl_findRoute.mono _ _ _ _ | exact LeO.refl _ | exact LeO.none _ | refine LeO.ite ?_ ?_ | refine LeO.bind ?_ (fun _ => ?_)) | exact impl_TableOk.mono _ _ | exact impl_findRoute.mono _ _ _ _ | exact LeO.none _ | refine LeO.ite ?_ ?_ | refine LeO.bind ?_ (fun _ => ?_)
set_option maxHeartbeats 8000000 in
set_option maxRecDepth 100000 in
theorem impl_DropRoute.calls (k : Nat) (A0_0 : Option Addr) (c0_0 : Nat) (l0_0 : List (S30)) (a1_0 : Int) (a1_1 : Int) (r1 : List (S30)) (r2 : Bool) (w : World) (hr0_0 : Kd.C k30 w A0_0 l0_0.length l0_0) (hc0_0 : l0_0.length ≤ c0_0) (h : impl_DropRoute.f k l0_0 a1_0 a1_1 = some (r1, r2)) :
  Calls Try.prog 12 #[.agg #[.slice A0_0 l0_0.length c0_0], .agg #[.int .i64 a1_0, .int .i64 a1_1]] w fun e w' => ∃ v0_ : Value, e = .returned (.tuple #[.agg #[v0_], .bool r2]) ∧ Kd.R k30 30 w' w.heap.size (fun _ => True) v0_ r1 ∧ Below w.heap.size w w' := by
 have hu26 := Try.underlying26
 have hu28 := Try.underlying28
 have HR0_0 := Aside0.mk hr0_0
 have HC0_0 := Aside0.mk hc0_0
 clear hr0_0 hc0_0
 have HB := Aside0.mk (Below.refl w.heap.size w)
 have H : ((impl_ownTable.f l0_0).bind fun t449 => ((impl_TableOk.f k l0_0).bind fun t453 => (if t453 = true then ((impl_findRoute.f k t449 a1_0 a1_1).bind fun bt454 => (if bt454.2 = true then ((slices_Delete_impl_Route_impl_Route.f t449 bt454.1 (wrap64 (bt454.1 + 1))).bind fun t456 => (some (t456, true))) else (some (t449, false)))) else (some (t449, false))))) = some (r1, r2) := h
 clear h
 replace H := Option.bind_eq_some_iff.mp H
 obtain ⟨t449, A30, H⟩ := H
 have A3 := Aside0.mk A30
 clear A30
 replace H := Option.bind_eq_some_iff.mp H
 obtain ⟨t453, A40, H⟩ := H
 have A4 := Aside0.mk A40
 clear A40
 by_cases c5 : t453 = true
 rotate_left
 ·replace c5 := Bool.eq_false_iff.mpr c5
  subst c5
  rw [if_neg (show ¬ (false = true) by decide)] at H
  simp only [Option.some.injEq, Prod.mk.injEq] at H
  obtain ⟨rfl, rfl⟩ := H
  go_enter Try.func12, Try.ntmps12
  go_wp2_with (first | ((with_reducible refine gate_dst (N := 2) rfl ?_); refine box_event ?hg (N := 2) ?hd (cs := #[.slice A0_0 l0_0.length c0_0]) (t := 26) ?hr ?_; (case hd => rfl); (case hg => rfl); (case hr => first | (go_simp; done) | (go_simp; rfl)); intro gb446 hg w54 hbox hb; have BK446 := Aside0.mk hbox; have GW446 := ge_ HB hg; have GE446 := ge_ HB hg; replace HB := at_ HB hb; clear hb hbox hg) | ((with_reducible refine gate_dst (N := 3) rfl ?_); refine box_event ?hg (N := 3) ?hd (cs := #[.int .i64 a1_0, .int .i64 a1_1]) (t := 28) ?hr ?_; (case hd => rfl); (case hg => rfl); (case hr => first | (go_simp; done) | (go_simp; rfl)); intro gb447 hg w55 hbox hb; have BK447 := Aside0.mk hbox; have GW447 := ge_ HB hg; have GE447 := ge_ HB hg; have NB446_447 := nl_ BK446 hg; have NB447_446 := ng_ BK446 hg; replace HB := at_ HB hb; replace BK446 := ab_ BK446 hb; clear hb hbox hg) | ((with_reducible refine gate_dst (N := 4) rfl ?_); refine box_event ?hg (N := 4) ?hd (cs := #[.slice none 0 0]) (t := 26) ?hr ?_; (case hd => rfl); (case hg => rfl); (case hr => first | (go_simp; done) | (go_simp; rfl)); intro gb448 hg w56 hbox hb; have BK448 := Aside0.mk hbox; have GW448 := ge_ HB hg; have GE448 := ge_ HB hg; have NB446_448 := nl_ BK446 hg; have NB448_446 := ng_ BK446 hg; have NB447_448 := nl_ BK447 hg; have NB448_447 := ng_ BK447 hg; replace HB := at_ HB hb; replace BK446 := ab_ BK446 hb; replace BK447 := ab_ BK447 hb; clear hb hbox hg; have hnb57 := NB446_447.out; have hnc57 := NB447_446.out; have hnb58 := NB446_448.out; have hnc58 := NB448_446.out; have hcz59_0 := cz_ BK446 0 (.slice A0_0 l0_0.length c0_0); have hfz59_0 := fz_ BK446 0) | ((with_reducible refine gate_callee (f := 50) rfl ?_); refine gl_ (some 10) Try.func50 #[.agg #[.slice A0_0 l0_0.length c0_0]] ?_; (with_reducible refine (impl_ownTable.calls _ _ l0_0 t449 _ ?side1 ?side2 A3.out).mono ?_); (case side1 => exact cb_ HR0_0 HB); (case side2 => exact HC0_0.out); rintro e w60 ⟨v450, rfl, ho0, hb⟩; refine ⟨_, rfl, ?_⟩; have HO451 := Aside0.mk (Kd.R_lower ho0 (bz_ HB)); replace BK446 := ab_ BK446 hb; replace BK447 := ab_ BK447 hb; replace BK448 := ab_ BK448 hb; replace HB := at_ HB hb; (try clear hb); (try clear hb2); (try clear hk); (try clear hi); (try clear ho0)) | ((with_reducible refine gate_dst (N := 6) rfl ?_); refine box_event ?hg (N := 6) ?hd (cs := #[.slice none 0 0]) (t := 26) ?hr ?_; (case hd => rfl); (case hg => rfl); (case hr => first | (go_simp; done) | (go_simp; rfl)); intro gb452 hg w61 hbox hb; have BK452 := Aside0.mk hbox; have GW452 := ge_ HB hg; have GE452 := ge_ HB hg; have NB446_452 := nl_ BK446 hg; have NB452_446 := ng_ BK446 hg; have NB447_452 := nl_ BK447 hg; have NB452_447 := ng_ BK447 hg; have NB448_452 := nl_ BK448 hg; have NB452_448 := ng_ BK448 hg; replace HO451 := rb_ HO451 hb; replace HB := at_ HB hb; replace BK446 := ab_ BK446 hb; replace BK447 := ab_ BK447 hb; replace BK448 := ab_ BK448 hb; clear hb hbox hg; obtain ⟨Ao62, co62, eo62⟩ := Kd.R_slice HO451.out; subst eo62; have hnb63 := NB452_446.out; have hnc63 := NB446_452.out; have hnb64 := NB452_447.out; have hnc64 := NB447_452.out; have hnb65 := NB452_448.out; have hnc65 := NB448_452.out; have hcz66_0 := cz_ BK452 0 (.slice none 0 0); have hfz66_0 := fz_ BK452 0; have hcz67_0 := cz_ BK446 0 (.slice A0_0 l0_0.length c0_0); have hfz67_0 := fz_ BK446 0) | ((with_reducible refine gate_callee (f := 48) rfl ?_); refine gl_ (some 12) Try.func48 #[.agg #[.slice A0_0 l0_0.length c0_0]] ?_; (with_reducible refine (impl_TableOk.calls k _ _ l0_0 false _ ?side1 ?side2 A4.out).mono ?_); (case side1 => exact Kd.C_below HR0_0.out (bw112_)); (case side2 => exact HC0_0.out); rintro e w68 ⟨rfl, hb⟩; refine ⟨_, rfl, ?_⟩; replace HO451 := rs_ HO451 BK452 hb; replace BK446 := bf_ BK446 NB446_452 hb; replace BK447 := bf_ BK447 NB447_452 hb; replace BK448 := bf_ BK448 NB448_452 hb; replace BK452 := Aside0.mk (blk_below (g := gb452) (o := .cells #[.slice Ao62 t449.length co62] 26 (0, 0)) (by refine bd_ ?_; refine blk_put (cs := #[.slice none 0 0]) ?_ 0 _ rfl; refine bd_ ?_; exact BK452.out) hb); replace HB := at_ HB hb; (try clear hb); (try clear hb2); (try clear hk); (try clear hi); have hcz69_0 := cz_ BK452 0 (.slice Ao62 t449.length co62); have hfz69_0 := fz_ BK452 0; have hnb70 := NB448_447.out; have hnc70 := NB447_448.out; have hcz71_0 := cz_ BK448 0 (.slice none 0 0); have hfz71_0 := fz_ BK448 0))
  refine bodyPost_ret (results_ct rfl _ _ gb448 26 #[.slice Ao62 t449.length co62] (0, 0) _ rfl (by refine bd_ ?_; refine blk_put (cs := #[.slice none 0 0]) ?_ 0 _ rfl; refine bd_ ?_; exact BK448.out) Try.underlying26 rfl (by kernel_rfl)) rfl ?_
  exact ⟨_, by first | rfl | (simp [errW_none, errW_some] <;> rfl) | (simp [*, errW_none, errW_some] <;> rfl), by (with_reducible repeat (first | apply Kd.R_alloc | apply Kd.R_drewN | apply Kd.R_drew)); exact Kd.R_mono (Kd.R_far (p := ⟨gb448, 0, none⟩) (Kd.R_types HO451.out BK448.out (by decide)) (fun _ hk => hk.2) (.slice Ao62 t449.length co62)) (fun _ hk => trivial), bw112_⟩
 subst c5
 rw [if_pos rfl] at H
 replace H := Option.bind_eq_some_iff.mp H
 obtain ⟨⟨t454, t455⟩, A60, H⟩ := H
 have A6 := Aside0.mk A60
 clear A60
 by_cases c7 : t455 = true
 rotate_left
 ·replace c7 := Bool.eq_false_iff.mpr c7
  subst c7
  rw [if_neg (show ¬ (false = true) by decide)] at H
  simp only [Option.some.injEq, Prod.mk.injEq] at H
  obtain ⟨rfl, rfl⟩ := H
  go_enter Try.func12, Try.ntmps12
  go_wp2_with (first | ((with_reducible refine gate_dst (N := 2) rfl ?_); refine box_event ?hg (N := 2) ?hd (cs := #[.slice A0_0 l0_0.length c0_0]) (t := 26) ?hr ?_; (case hd => rfl); (case hg => rfl); (case hr => first | (go_simp; done) | (go_simp; rfl)); intro gb446 hg w33 hbox hb; have BK446 := Aside0.mk hbox; have GW446 := ge_ HB hg; have GE446 := ge_ HB hg; replace HB := at_ HB hb; clear hb hbox hg) | ((with_reducible refine gate_dst (N := 3) rfl ?_); refine box_event ?hg (N := 3) ?hd (cs := #[.int .i64 a1_0, .int .i64 a1_1]) (t := 28) ?hr ?_; (case hd => rfl); (case hg => rfl); (case hr => first | (go_simp; done) | (go_simp; rfl)); intro gb447 hg w34 hbox hb; have BK447 := Aside0.mk hbox; have GW447 := ge_ HB hg; have GE447 := ge_ HB hg; have NB446_447 := nl_ BK446 hg; have NB447_446 := ng_ BK446 hg; replace HB := at_ HB hb; replace BK446 := ab_ BK446 hb; clear hb hbox hg) | ((with_reducible refine gate_dst (N := 4) rfl ?_); refine box_event ?hg (N := 4) ?hd (cs := #[.slice none 0 0]) (t := 26) ?hr ?_; (case hd => rfl); (case hg => rfl); (case hr => first | (go_simp; done) | (go_simp; rfl)); intro gb448 hg w35 hbox hb; have BK448 := Aside0.mk hbox; have GW448 := ge_ HB hg; have GE448 := ge_ HB hg; have NB446_448 := nl_ BK446 hg; have NB448_446 := ng_ BK446 hg; have NB447_448 := nl_ BK447 hg; have NB448_447 := ng_ BK447 hg; replace HB := at_ HB hb; replace BK446 := ab_ BK446 hb; replace BK447 := ab_ BK447 hb; clear hb hbox hg; have hnb36 := NB446_447.out; have hnc36 := NB447_446.out; have hnb37 := NB446_448.out; have hnc37 := NB448_446.out; have hcz38_0 := cz_ BK446 0 (.slice A0_0 l0_0.length c0_0); have hfz38_0 := fz_ BK446 0) | ((with_reducible refine gate_callee (f := 50) rfl ?_); refine gl_ (some 10) Try.func50 #[.agg #[.slice A0_0 l0_0.length c0_0]] ?_; (with_reducible refine (impl_ownTable.calls _ _ l0_0 t449 _ ?side1 ?side2 A3.out).mono ?_); (case side1 => exact cb_ HR0_0 HB); (case side2 => exact HC0_0.out); rintro e w39 ⟨v450, rfl, ho0, hb⟩; refine ⟨_, rfl, ?_⟩; have HO451 := Aside0.mk (Kd.R_lower ho0 (bz_ HB)); replace BK446 := ab_ BK446 hb; replace BK447 := ab_ BK447 hb; replace BK448 := ab_ BK448 hb; replace HB := at_ HB hb; (try clear hb); (try clear hb2); (try clear hk); (try clear hi); (try clear ho0)) | ((with_reducible refine gate_dst (N := 6) rfl ?_); refine box_event ?hg (N := 6) ?hd (cs := #[.slice none 0 0]) (t := 26) ?hr ?_; (case hd => rfl); (case hg => rfl); (case hr => first | (go_simp; done) | (go_simp; rfl)); intro gb452 hg w40 hbox hb; have BK452 := Aside0.mk hbox; have GW452 := ge_ HB hg; have GE452 := ge_ HB hg; have NB446_452 := nl_ BK446 hg; have NB452_446 := ng_ BK446 hg; have NB447_452 := nl_ BK447 hg; have NB452_447 := ng_ BK447 hg; have NB448_452 := nl_ BK448 hg; have NB452_448 := ng_ BK448 hg; replace HO451 := rb_ HO451 hb; replace HB := at_ HB hb; replace BK446 := ab_ BK446 hb; replace BK447 := ab_ BK447 hb; replace BK448 := ab_ BK448 hb; clear hb hbox hg; obtain ⟨Ao41, co41, eo41⟩ := Kd.R_slice HO451.out; subst eo41; have hnb42 := NB452_446.out; have hnc42 := NB446_452.out; have hnb43 := NB452_447.out; have hnc43 := NB447_452.out; have hnb44 := NB452_448.out; have hnc44 := NB448_452.out; have hcz45_0 := cz_ BK452 0 (.slice none 0 0); have hfz45_0 := fz_ BK452 0; have hcz46_0 := cz_ BK446 0 (.slice A0_0 l0_0.length c0_0); have hfz46_0 := fz_ BK446 0) | ((with_reducible refine gate_callee (f := 48) rfl ?_); refine gl_ (some 12) Try.func48 #[.agg #[.slice A0_0 l0_0.length c0_0]] ?_; (with_reducible refine (impl_TableOk.calls k _ _ l0_0 true _ ?side1 ?side2 A4.out).mono ?_); (case side1 => exact Kd.C_below HR0_0.out (bw112_)); (case side2 => exact HC0_0.out); rintro e w47 ⟨rfl, hb⟩; refine ⟨_, rfl, ?_⟩; replace HO451 := rs_ HO451 BK452 hb; replace BK446 := bf_ BK446 NB446_452 hb; replace BK447 := bf_ BK447 NB447_452 hb; replace BK448 := bf_ BK448 NB448_452 hb; replace BK452 := Aside0.mk (blk_below (g := gb452) (o := .cells #[.slice Ao41 t449.length co41] 26 (0, 0)) (by refine bd_ ?_; refine blk_put (cs := #[.slice none 0 0]) ?_ 0 _ rfl; refine bd_ ?_; exact BK452.out) hb); replace HB := at_ HB hb; (try clear hb); (try clear hb2); (try clear hk); (try clear hi); have hcz48_0 := cz_ BK452 0 (.slice Ao41 t449.length co41); have hfz48_0 := fz_ BK452 0; have hnb49 := NB447_448.out; have hnc49 := NB448_447.out; have hcz50_0 := cz_ BK447 0 (.int .i64 a1_0); have hcz50_1 := cz_ BK447 1 (.int .i64 a1_1); have hfz50_0 := fz_ BK447 0; have hfz50_1 := fz_ BK447 1) | ((with_reducible refine gate_callee (f := 51) rfl ?_); refine gl_ (some 19) Try.func51 #[.slice Ao41 t449.length co41, .agg #[.int .i64 a1_0, .int .i64 a1_1]] ?_; (with_reducible refine (impl_findRoute.calls k _ _ t449 a1_0 a1_1 t454 false _ ?side1 ?side2 A6.out).mono ?_); (case side1 => exact rc_ HO451); (case side2 => exact (Kd.R_reads' HO451.out).2.1); rintro e w51 ⟨rfl, hb⟩; refine ⟨_, rfl, ?_⟩; replace HO451 := rb_ HO451 hb; replace BK446 := ab_ BK446 hb; replace BK447 := ab_ BK447 hb; replace BK448 := ab_ BK448 hb; replace BK452 := ab_ BK452 hb; replace HB := at_ HB hb; (try clear hb); (try clear hb2); (try clear hk); (try clear hi); have hcz52_0 := cz_ BK452 0 (.slice Ao41 t449.length co41); have hfz52_0 := fz_ BK452 0; have hcz53_0 := cz_ BK448 0 (.slice none 0 0); have hfz53_0 := fz_ BK448 0))
  refine bodyPost_ret (results_ct rfl _ _ gb448 26 #[.slice Ao41 t449.length co41] (0, 0) _ rfl (by refine bd_ ?_; refine blk_put (cs := #[.slice none 0 0]) ?_ 0 _ rfl; refine bd_ ?_; exact BK448.out) Try.underlying26 rfl (by kernel_rfl)) rfl ?_
  exact ⟨_, by first | rfl | (simp [errW_none, errW_some] <;> rfl) | (simp [*, errW_none, errW_some] <;> rfl), by (with_reducible repeat (first | apply Kd.R_alloc | apply Kd.R_drewN | apply Kd.R_drew)); exact Kd.R_mono (Kd.R_far (p := ⟨gb448, 0, none⟩) (Kd.R_types HO451.out BK448.out (by decide)) (fun _ hk => hk.2) (.slice Ao41 t449.length co41)) (fun _ hk => trivial), bw112_⟩
 subst c7
 rw [if_pos rfl] at H
 replace H := Option.bind_eq_some_iff.mp H
 obtain ⟨t456, A80, H⟩ := H
 have A8 := Aside0.mk A80
 clear A80
 simp only [Option.some.injEq, Prod.mk.injEq] at H
 obtain ⟨rfl, rfl⟩ := H
 go_enter Try.func12, Try.ntmps12
 go_wp2_with (first | ((with_reducible refine gate_dst (N := 2) rfl ?_); refine box_event ?hg (N := 2) ?hd (cs := #[.slice A0_0 l0_0.length c0_0]) (t := 26) ?hr ?_; (case hd => rfl); (case hg => rfl); (case hr => first | (go_simp; done) | (go_simp; rfl)); intro gb446 hg w9 hbox hb; have BK446 := Aside0.mk hbox; have GW446 := ge_ HB hg; have GE446 := ge_ HB hg; replace HB := at_ HB hb; clear hb hbox hg) | ((with_reducible refine gate_dst (N := 3) rfl ?_); refine box_event ?hg (N := 3) ?hd (cs := #[.int .i64 a1_0, .int .i64 a1_1]) (t := 28) ?hr ?_; (case hd => rfl); (case hg => rfl); (case hr => first | (go_simp; done) | (go_simp; rfl)); intro gb447 hg w10 hbox hb; have BK447 := Aside0.mk hbox; have GW447 := ge_ HB hg; have GE447 := ge_ HB hg; have NB446_447 := nl_ BK446 hg; have NB447_446 := ng_ BK446 hg; replace HB := at_ HB hb; replace BK446 := ab_ BK446 hb; clear hb hbox hg) | ((with_reducible refine gate_dst (N := 4) rfl ?_); refine box_event ?hg (N := 4) ?hd (cs := #[.slice none 0 0]) (t := 26) ?hr ?_; (case hd => rfl); (case hg => rfl); (case hr => first | (go_simp; done) | (go_simp; rfl)); intro gb448 hg w11 hbox hb; have BK448 := Aside0.mk hbox; have GW448 := ge_ HB hg; have GE448 := ge_ HB hg; have NB446_448 := nl_ BK446 hg; have NB448_446 := ng_ BK446 hg; have NB447_448 := nl_ BK447 hg; have NB448_447 := ng_ BK447 hg; replace HB := at_ HB hb; replace BK446 := ab_ BK446 hb; replace BK447 := ab_ BK447 hb; clear hb hbox hg; have hnb12 := NB446_447.out; have hnc12 := NB447_446.out; have hnb13 := NB446_448.out; have hnc13 := NB448_446.out; have hcz14_0 := cz_ BK446 0 (.slice A0_0 l0_0.length c0_0); have hfz14_0 := fz_ BK446 0) | ((with_reducible refine gate_callee (f := 50) rfl ?_); refine gl_ (some 10) Try.func50 #[.agg #[.slice A0_0 l0_0.length c0_0]] ?_; (with_reducible refine (impl_ownTable.calls _ _ l0_0 t449 _ ?side1 ?side2 A3.out).mono ?_); (case side1 => exact cb_ HR0_0 HB); (case side2 => exact HC0_0.out); rintro e w15 ⟨v450, rfl, ho0, hb⟩; refine ⟨_, rfl, ?_⟩; have HO451 := Aside0.mk (Kd.R_lower ho0 (bz_ HB)); replace BK446 := ab_ BK446 hb; replace BK447 := ab_ BK447 hb; replace BK448 := ab_ BK448 hb; replace HB := at_ HB hb; (try clear hb); (try clear hb2); (try clear hk); (try clear hi); (try clear ho0)) | ((with_reducible refine gate_dst (N := 6) rfl ?_); refine box_event ?hg (N := 6) ?hd (cs := #[.slice none 0 0]) (t := 26) ?hr ?_; (case hd => rfl); (case hg => rfl); (case hr => first | (go_simp; done) | (go_simp; rfl)); intro gb452 hg w16 hbox hb; have BK452 := Aside0.mk hbox; have GW452 := ge_ HB hg; have GE452 := ge_ HB hg; have NB446_452 := nl_ BK446 hg; have NB452_446 := ng_ BK446 hg; have NB447_452 := nl_ BK447 hg; have NB452_447 := ng_ BK447 hg; have NB448_452 := nl_ BK448 hg; have NB452_448 := ng_ BK448 hg; replace HO451 := rb_ HO451 hb; replace HB := at_ HB hb; replace BK446 := ab_ BK446 hb; replace BK447 := ab_ BK447 hb; replace BK448 := ab_ BK448 hb; clear hb hbox hg; obtain ⟨Ao17, co17, eo17⟩ := Kd.R_slice HO451.out; subst eo17; have hnb18 := NB452_446.out; have hnc18 := NB446_452.out; have hnb19 := NB452_447.out; have hnc19 := NB447_452.out; have hnb20 := NB452_448.out; have hnc20 := NB448_452.out; have hcz21_0 := cz_ BK452 0 (.slice none 0 0); have hfz21_0 := fz_ BK452 0; have hcz22_0 := cz_ BK446 0 (.slice A0_0 l0_0.length c0_0); have hfz22_0 := fz_ BK446 0) | ((with_reducible refine gate_callee (f := 48) rfl ?_); refine gl_ (some 12) Try.func48 #[.agg #[.slice A0_0 l0_0.length c0_0]] ?_; (with_reducible refine (impl_TableOk.calls k _ _ l0_0 true _ ?side1 ?side2 A4.out).mono ?_); (case side1 => exact Kd.C_below HR0_0.out (bw112_)); (case side2 => exact HC0_0.out); rintro e w23 ⟨rfl, hb⟩; refine ⟨_, rfl, ?_⟩; replace HO451 := rs_ HO451 BK452 hb; replace BK446 := bf_ BK446 NB446_452 hb; replace BK447 := bf_ BK447 NB447_452 hb; replace BK448 := bf_ BK448 NB448_452 hb; replace BK452 := Aside0.mk (blk_below (g := gb452) (o := .cells #[.slice Ao17 t449.length co17] 26 (0, 0)) (by refine bd_ ?_; refine blk_put (cs := #[.slice none 0 0]) ?_ 0 _ rfl; refine bd_ ?_; exact BK452.out) hb); replace HB := at_ HB hb; (try clear hb); (try clear hb2); (try clear hk); (try clear hi); have hcz24_0 := cz_ BK452 0 (.slice Ao17 t449.length co17); have hfz24_0 := fz_ BK452 0; have hnb25 := NB447_448.out; have hnc25 := NB448_447.out; have hcz26_0 := cz_ BK447 0 (.int .i64 a1_0); have hcz26_1 := cz_ BK447 1 (.int .i64 a1_1); have hfz26_0 := fz_ BK447 0; have hfz26_1 := fz_ BK447 1) | ((with_reducible refine gate_callee (f := 51) rfl ?_); refine gl_ (some 19) Try.func51 #[.slice Ao17 t449.length co17, .agg #[.int .i64 a1_0, .int .i64 a1_1]] ?_; (with_reducible refine (impl_findRoute.calls k _ _ t449 a1_0 a1_1 t454 true _ ?side1 ?side2 A6.out).mono ?_); (case side1 => exact rc_ HO451); (case side2 => exact (Kd.R_reads' HO451.out).2.1); rintro e w27 ⟨rfl, hb⟩; refine ⟨_, rfl, ?_⟩; replace HO451 := rb_ HO451 hb; replace BK446 := ab_ BK446 hb; replace BK447 := ab_ BK447 hb; replace BK448 := ab_ BK448 hb; replace BK452 := ab_ BK452 hb; replace HB := at_ HB hb; (try clear hb); (try clear hb2); (try clear hk); (try clear hi); have hcz28_0 := cz_ BK452 0 (.slice Ao17 t449.length co17); have hfz28_0 := fz_ BK452 0) | ((with_reducible refine gate_callee (f := 53) rfl ?_); refine gl_ (some 30) Try.func53 #[.slice Ao17 t449.length co17, .int .i64 t454, .int .i64 (wrap64 (t454 + 1))] ?_; (with_reducible refine (slices_Delete_impl_Route_impl_Route.calls (fun k_ => some k_ = (.slice Ao17 t449.length co17 : Value).ownBlock) (.slice Ao17 t449.length co17) t449 t454 (wrap64 (t454 + 1)) t456 w _ ?side1 ?side2 A8.out).mono ?_); (case side1 => exact by_ HB); (case side2 => exact Kd.R_tight rfl HO451.out); rintro e w29 ⟨v457, rfl, ho0, hb, hkp⟩; refine ⟨_, rfl, ?_⟩; have HO458 := Aside0.mk (Kd.R_mono (ok' := fun k_ => True) ho0 (fun k_ hk_ => trivial)); replace BK446 := bk_ BK446 hkp (fun hs_ => (Kd.R_ne HO451.out BK446.out (by decide)) hs_); replace BK447 := bk_ BK447 hkp (fun hs_ => (Kd.R_ne HO451.out BK447.out (by decide)) hs_); replace BK448 := bk_ BK448 hkp (fun hs_ => (Kd.R_ne HO451.out BK448.out (by decide)) hs_); replace BK452 := bk_ BK452 hkp (fun hs_ => (Kd.R_ne HO451.out BK452.out (by decide)) hs_); replace HB := Aside0.mk (hb); clear HO451; (try clear hb); (try clear hkp); (try clear ho0); obtain ⟨Ao30, co30, eo30⟩ := Kd.R_slice HO458.out; subst eo30; have hcz31_0 := cz_ BK452 0 (.slice Ao17 t449.length co17); have hfz31_0 := fz_ BK452 0; have hcz32_0 := cz_ BK448 0 (.slice none 0 0); have hfz32_0 := fz_ BK448 0))
 refine bodyPost_ret (results_ct rfl _ _ gb448 26 #[.slice Ao30 t456.length co30] (0, 0) _ rfl (by refine bd_ ?_; refine blk_put (cs := #[.slice none 0 0]) ?_ 0 _ rfl; refine bd_ ?_; refine blk_far ?_ NB448_452.out _; refine bd_ ?_; exact BK448.out) Try.underlying26 rfl (by kernel_rfl)) rfl ?_
 exact ⟨_, by first | rfl | (simp [errW_none, errW_some] <;> rfl) | (simp [*, errW_none, errW_some] <;> rfl), by (with_reducible repeat (first | apply Kd.R_alloc | apply Kd.R_drewN | apply Kd.R_drew)); exact Kd.R_mono (Kd.R_far (p := ⟨gb448, 0, none⟩) (Kd.R_far (p := ⟨gb452, 0, none⟩) (Kd.R_types (Kd.R_types HO458.out BK452.out (by decide)) BK448.out (by decide)) (fun _ hk => hk.1.2) (.slice Ao30 t456.length co30)) (fun _ hk => hk.2) (.slice Ao30 t456.length co30)) (fun _ hk => trivial), bw112_⟩

/-! ### laws_at: function 13 -/
def laws_at.f (l0 : List Int) (a1 : Int) : Option (Int) := if a1 < (l0.length : Int) then (if 0 ≤ a1 then (some (wrap64 (rd l0 a1))) else (none)) else (some (Int.tmod (wrap64 ((wrap64 (a1 * 13)) + (wrap64 ((l0.length : Int) * 5)))) 256))
set_option maxHeartbeats 8000000 in
set_option maxRecDepth 100000 in
theorem laws_at.calls (A0 : Option Addr) (c0 : Nat) (l0 : List Int) (a1 : Int) (r : Int) (w : World) (hr0 : Kd.C (Kd.int .u8) w A0 l0.length l0) (hc0 : l0.length ≤ c0) (h : laws_at.f l0 a1 = some r) :
  Calls Try.prog 13 #[.slice A0 l0.length c0, .int .i64 a1] w fun e w' => e = .returned (.int .i64 r) ∧ Drawn0 w w' := by
 have HR0 := Aside0.mk hr0
 have HC0 := Aside0.mk hc0
 clear hr0 hc0
 have H : (if a1 < (l0.length : Int) then (if 0 ≤ a1 then (some (wrap64 (rd l0 a1))) else (none)) else (some (Int.tmod (wrap64 ((wrap64 (a1 * 13)) + (wrap64 ((l0.length : Int) * 5)))) 256))) = some r := h
 clear h
 by_cases c3 : a1 < (l0.length : Int)
 rotate_left
 ·rw [if_neg c3] at H
  have c3b0 : decide (a1 < (l0.length : Int)) = false := decide_eq_false c3
  clear c3
  obtain rfl := Option.some.inj H
  go_enter Try.func13, Try.ntmps13
  go_wp2
  go_ret
  exact ⟨by first | rfl | (simp; done) | (simp [*]; done), by repeat (first | exact Drawn0.refl _ | apply Drawn0.step)⟩
 rw [if_pos c3] at H
 have c3b0 : decide (a1 < (l0.length : Int)) = true := decide_eq_true c3
 clear c3
 obtain ⟨c4b0, H⟩ := iq_ H
 obtain rfl := Option.some.inj H
 have p459 : 0 ≤ (a1 : Int) := oa_
 have q459 : a1 < (l0.length : Int) := oa_
 obtain ⟨ad459, e459, hx459_0⟩ := Kd.at_int HR0.out a1 p459 q459
 cases e459
 replace p459 := eq_true p459
 replace q459 := eq_true q459
 go_enter Try.func13, Try.ntmps13
 go_wp2
 go_ret
 exact ⟨by first | rfl | (simp; done) | (simp [*]; done), by repeat (first | exact Drawn0.refl _ | apply Drawn0.step)⟩

/-! ### spec_HasAddr: function 16 -/
def spec_HasAddr.f (a0_0 : Int) (a0_1 : Int) (a1 : Int) : Option (Bool) := (spec_PrefixOk.f a0_0 a0_1).bind fun t461 => (if t461 = true then ((spec_l01Size2.f a0_1).bind fun t462 => ((spec_l01In.f a1 a0_0 (wrap64 ((wrap64 (a0_0 + t462)) - 1))).bind fun t463 => (some t463))) else (some false))
def spec_HasAddr.T1 : Bool × List (List Nat × List Nat) := (true, [([], []), ([0], [0]), ([1, 1], [1]), ([2], [2]), ([2], [2]), ([4, 2], [2, 4]), ([2], [2]), ([6, 2], [2, 6]), ([2], [2]), ([8, 2], [2, 8]), ([9, 2, 2], [2, 9]), ([7, 10, 2], [2, 7, 10]), ([11, 2], [2, 11]), ([3, 5, 12, 10, 2], [2, 3, 5, 12]), ([2, 13], [2, 13]), ([14, 13, 0, 1, 2, 3, 4, 5, 6, 7, 8, 9, 10, 11, 12, 13, 14], [14])])
def spec_HasAddr.B1 : List Nat := [0, 1, 3, 7, 7, 23, 7, 71, 7, 263, 775, 1991, 4039, 8191, 16383, 32767]
theorem spec_HasAddr.tab1 : rtab .any (opsOf Try.f16 1) = spec_HasAddr.T1 := by kernel_rfl
theorem spec_HasAddr.bits1 : waitsOk spec_HasAddr.T1.2 spec_HasAddr.B1 = true := by kernel_rfl
set_option maxHeartbeats 8000000 in
set_option maxRecDepth 100000 in
theorem spec_HasAddr.calls (a0_0 : Int) (a0_1 : Int) (a1 : Int) (r : Bool) (w : World) (h : spec_HasAddr.f a0_0 a0_1 a1 = some r) :
  Calls Try.prog 16 #[.agg #[.int .i64 a0_0, .int .i64 a0_1], .int .i64 a1] w fun e w' => e = .returned (.bool r) ∧ Below w.heap.size w w' := by
 have hu28 := Try.underlying28
 have HB := Aside0.mk (Below.refl w.heap.size w)
 have H : ((spec_PrefixOk.f a0_0 a0_1).bind fun t461 => (if t461 = true then ((spec_l01Size2.f a0_1).bind fun t462 => ((spec_l01In.f a1 a0_0 (wrap64 ((wrap64 (a0_0 + t462)) - 1))).bind fun t463 => (some t463))) else (some false))) = some r := h
 clear h
 replace H := Option.bind_eq_some_iff.mp H
 obtain ⟨t461, A30, H⟩ := H
 have A3 := Aside0.mk A30
 clear A30
 have Hh_ := Aside0.mk H
 clear H
 go_enter Try.func16, Try.ntmps16
 try go_wp2_with ((with_reducible refine gate_dst (N := 2) rfl ?_); refine box_event ?hg (N := 2) ?hd (cs := #[.int .i64 a0_0, .int .i64 a0_1]) (t := 28) ?hr ?_; (case hd => rfl); (case hg => rfl); (case hr => first | (go_simp; done) | (go_simp; rfl)); intro gb460 hg w7 hbox hb; have BK460 := Aside0.mk hbox; have GW460 := ge_ HB hg; have GE460 := ge_ HB hg; replace HB := at_ HB hb; clear hb hbox hg)
 replace BK460 := ad_ BK460
 replace HB := Aside0.mk (below_drew1 HB.out)
 refine start_ (n := 16) (S := fun w' => w'.cell? ⟨gb460, 0, none⟩ = some (.int .i64 a0_0) ∧ w'.cell? ⟨gb460, 1, none⟩ = some (.int .i64 a0_1)) (ds := []) ba15_9 (by kernel_rfl) rfl rfl ⟨(blk_cell BK460.out 0).trans rfl, (blk_cell BK460.out 1).trans rfl⟩ (fun hHeld => ?_); refine with_tabW spec_HasAddr.tab1 spec_HasAddr.bits1 (fun HT_ HW_ => ?_)
 generalize w7.drew = w8 at BK460 HB hHeld ⊢
 refine pt_ 0 5 ba15_10 HT_ HW_ hHeld ?_
 refine one_ (i := 1) (N := some 6) ba15_11 rfl rfl (one_of HT_.out (by kernel_rfl)) (by decide) (fun K hK => ?_)
 refine gz_ Try.func55 #[.agg #[.int .i64 a0_0, .int .i64 a0_1]] ?_
 with_reducible refine (spec_PrefixOk.calls a0_0 a0_1 t461 _ A3.out).mono ?_
 rintro e w9 ⟨rfl, hb⟩
 refine ⟨_, rfl, ?_⟩
 replace BK460 := ab_ BK460 hb
 replace HB := at_ HB hb
 (try clear hb)
 (try clear hb2)
 (try clear hk)
 (try clear hi)
 refine hK.out _ _ ⟨(blk_cell BK460.out 0).trans rfl, (blk_cell BK460.out 1).trans rfl⟩ (fun hHeld => ?_)
 clear hK K
 refine nz_ 6 ?_
 have H := Hh_.out
 clear Hh_
 by_cases c4 : t461 = true
 rotate_left
 ·replace c4 := Bool.eq_false_iff.mpr c4
  subst c4
  rw [if_neg (show ¬ (false = true) by decide)] at H
  obtain rfl := Option.some.inj H
  refine pz_ 2 7 ba15_12 HT_ ?_
  refine pu_ 3 8 ba15_13 HT_ ?_
  refine pu_ 4 9 ba15_14 HT_ ?_
  refine pu_ 5 10 ba15_26 HT_ ?_
  refine pu_ 6 11 ba15_27 HT_ ?_
  refine pu_ 7 12 ba15_28 HT_ ?_
  refine pu_ 8 13 ba15_18 HT_ ?_
  refine pu_ 9 14 ba15_19 HT_ ?_
  refine pu_ 10 15 ba15_20 HT_ ?_
  refine pu_ 11 16 ba15_21 HT_ ?_
  refine pu_ 12 17 ba15_22 HT_ ?_
  refine pu_ 13 18 ba15_23 HT_ ?_
  refine pz_ 14 19 ba15_24 HT_ ?_
  refine pz_ 15 4 ba15_25 HT_ ?_
  refine done_ (done_of HT_.out (by kernel_rfl)) ?_
  try go_wp2
  go_ret
  exact ⟨by first | rfl | (simp [errW_none, errW_some] <;> rfl) | (simp [*, errW_none, errW_some] <;> rfl), bw112_⟩
 subst c4
 rw [if_pos rfl] at H
 replace H := Option.bind_eq_some_iff.mp H
 obtain ⟨t462, A50, H⟩ := H
 have A5 := Aside0.mk A50
 clear A50
 replace H := Option.bind_eq_some_iff.mp H
 obtain ⟨t463, A60, H⟩ := H
 have A6 := Aside0.mk A60
 clear A60
 obtain rfl := Option.some.inj H
 refine pz_ 2 7 ba15_12 HT_ ?_
 refine pz_ 3 8 ba15_13 HT_ ?_
 refine pz_ 4 9 ba15_14 HT_ ?_
 refine pz_ 6 11 ba15_15 HT_ ?_
 refine pz_ 8 13 ba15_16 HT_ ?_
 refine pt_ 5 10 ba15_17 HT_ HW_ hHeld ?_
 refine pt_ 7 12 ba15_18 HT_ HW_ hHeld ?_
 refine pt_ 9 14 ba15_19 HT_ HW_ hHeld ?_
 refine one_ (i := 10) (N := some 15) ba15_20 rfl rfl (one_of HT_.out (by kernel_rfl)) (by decide) (fun K hK => ?_)
 refine gz_ Try.func57 #[.int .i64 a0_1] ?_
 with_reducible refine (spec_l01Size2.calls a0_1 t462 _ A5.out).mono ?_
 rintro e w' ⟨rfl, ⟨nd, rfl⟩⟩
 refine ⟨_, rfl, ?_⟩
 refine hK.out _ _ ⟨(blk_cell BK460.out 0).trans rfl, (blk_cell BK460.out 1).trans rfl⟩ (fun hHeld => ?_)
 clear hK K
 refine nz_ 15 ?_
 refine pz_ 11 16 ba15_21 HT_ ?_
 refine pz_ 12 17 ba15_22 HT_ ?_
 refine one_ (i := 13) (N := some 18) ba15_23 rfl rfl (one_of HT_.out (by kernel_rfl)) (by decide) (fun K hK => ?_)
 refine gz_ Try.func56 #[.int .i64 a1, .int .i64 a0_0, .int .i64 (wrap64 ((wrap64 (a0_0 + t462)) - 1))] ?_
 with_reducible refine (spec_l01In.calls a1 a0_0 (wrap64 ((wrap64 (a0_0 + t462)) - 1)) t463 _ A6.out).mono ?_
 rintro e w' ⟨rfl, ⟨nd, rfl⟩⟩
 refine ⟨_, rfl, ?_⟩
 refine hK.out _ _ ⟨(blk_cell BK460.out 0).trans rfl, (blk_cell BK460.out 1).trans rfl⟩ (fun hHeld => ?_)
 clear hK K
 refine nz_ 18 ?_
 refine pz_ 14 19 ba15_24 HT_ ?_
 refine pz_ 15 4 ba15_25 HT_ ?_
 refine done_ (done_of HT_.out (by kernel_rfl)) ?_
 try go_wp2
 go_ret
 exact ⟨by first | rfl | (simp [errW_none, errW_some] <;> rfl) | (simp [*, errW_none, errW_some] <;> rfl), bw112_⟩

end Go.Proofs.Ytjepmdngbafonaa.QFnRoutes
