/- Contracts of functions that the law reaches: what each call returns and what it leaves in memory. Made by this session over the print of the kit. -/
import Derived.Test.YtflfbaofgfandaaQFnExactPutRoutex0
import Derived.Test.YtflfbaofgfandaaQFnExactPutRoutex8
import Derived.Test.YtflfbaofgfandaaQFnExactPutRoutex9
import Derived.Test.YtflfbaofgfandaaQFnExactPutRoutex10
import Derived.Test.YtflfbaofgfandaaQFnExactPutRoutex11
namespace Go.Proofs.Ytflfbaofgfandaa.QFnExactPutRoute
open Go.RowKit Go.Proofs.YtflfbaofgfandaaP.PrintWords Go.Proofs.YtflfbaofgfandaaP.PrintLast Go.Proofs.YtflfbaofgfandaaP.PrintMore
attribute [local go_sem] max2_int min2_int max_two min_two max_three min_three max_four min_four   -- for this text's walks alone
set_option linter.unusedVariables false
set_option linter.unusedSimpArgs false

/-! ### impl_PutRoute: function 17 -/
def impl_PutRoute.j0 : Nat → Bool → List (S43) → Int → Int → Int → Option ((List (S43)) × Bool)
 | 0, _, _, _, _, _ => none
 | k + 1, x16, x256000, x257000, x257001, x257002 => if x16 = true then ((impl_ownTable.f x256000).bind fun t260 => (some (t260, false))) else ((impl_ownTable.f x256000).bind fun t263 => ((impl_findRoute.f k t263 x257000 x257001).bind fun bt267 => (if bt267.2 = true then (if 0 ≤ bt267.1 then (if bt267.1 < (t263.length : Int) then (some ((t263.set (bt267.1 : Int).toNat (⟨(⟨x257000, x257001⟩ : S34), x257002⟩ : S43)), true)) else (none)) else (none)) else (if (t263.length : Int) = 120 then (some (t263, false)) else ((slices_Insert_impl_Route_impl_Route.f t263 bt267.1 (([(⟨(⟨x257000, x257001⟩ : S34), x257002⟩ : S43)] : List (S43)))).bind fun t273 => (some (t273, true)))))))
def impl_PutRoute.f (k : Nat) (l0_0 : List (S43)) (a1_0 : Int) (a1_1 : Int) (a1_2 : Int) : Option ((List (S43)) × Bool) := (impl_TableOk.f k l0_0).bind fun t258 => (if t258 = true then ((impl_isRoute.f a1_0 a1_1 a1_2).bind fun t259 => (impl_PutRoute.j0 k (!t259) l0_0 a1_0 a1_1 a1_2)) else (impl_PutRoute.j0 k true l0_0 a1_0 a1_1 a1_2))
theorem impl_PutRoute.mono_l : ∀ k, (∀ y0 y1 y2 y3 y4, LeO (impl_PutRoute.j0 k y0 y1 y2 y3 y4) (impl_PutRoute.j0 (k + 1) y0 y1 y2 y3 y4))
 | 0 => fun _ _ _ _ _ r h => by simp [impl_PutRoute.j0] at h
 | k + 1 => by
  have ih0 := impl_PutRoute.mono_l k
  ·intro y0 y1 y2 y3 y4
   unfold impl_PutRoute.j0
   repeat' first
   | (with_reducible exact ih0 _ _ _ _ _)
   | (with_reducible exact impl_TableOk.mono _ _)
   | (with_reducible exact impl_findRoute.mono _ _ _ _)
   | (with_reducible exact LeO.refl _)
   | (with_reducible exact LeO.none _)
   | (with_reducible refine LeO.ite ?_ ?_)
   | (with_reducible refine LeO.bind ?_ (fun _ => ?_))
   | exact ih0 _ _ _ _ _
   | exact impl_TableOk.mono _ _
   | exact impl_findRoute.mono _ _ _ _
   | exact LeO.none _
   | refine LeO.ite ?_ ?_
   | refine LeO.bind ?_ (fun _ => ?_)
theorem impl_PutRoute.mono : ∀ a0 a1 a2 a3 k, LeO (impl_PutRoute.f k a0 a1 a2 a3) (impl_PutRoute.f (k + 1) a0 a1 a2 a3) := by
 intro a0 a1 a2 a3 k
 have ih0 := impl_PutRoute.mono_l k
 unfold impl_PutRoute.f
 repeat' first
   | (with_reducible exact ih0 _ _ _ _ _)
   | (with_reducible exact impl_TableOk.mono _ _)
   | (with_reducible exact impl_findRoute.mono _ _ _ _)
   | (with_reducible exact LeO.refl _)
   | (with_reducible exact LeO.none _)
   | (with_reducible refine LeO.ite ?_ ?_)
   | (with_reducible refine LeO.bind ?_ (fun _ => ?_))
   | exact ih0 _ _ _ _ _
   | exact impl_TableOk.mono _ _
   | exact impl_findRoute.mono _ _ _ _
   | exact LeO.none _
   | refine LeO.ite ?_ ?_
   | refine LeO.bind ?_ (fun _ => ?_)
set_option maxHeartbeats 8000000 in
set_option maxRecDepth 100000 in
theorem impl_PutRoute.calls (k : Nat) (A0_0 : Option Addr) (c0_0 : Nat) (l0_0 : List (S43)) (a1_0 : Int) (a1_1 : Int) (a1_2 : Int) (r1 : List (S43)) (r2 : Bool) (w : World) (hr0_0 : Kd.C k43 w A0_0 l0_0.length l0_0) (hc0_0 : l0_0.length ≤ c0_0) (h : impl_PutRoute.f k l0_0 a1_0 a1_1 a1_2 = some (r1, r2)) :
  Calls Try.prog 17 #[.agg #[.slice A0_0 l0_0.length c0_0], .agg #[.int .i64 a1_0, .int .i64 a1_1, .int .i64 a1_2]] w fun e w' => ∃ v0_ : Value, e = .returned (.tuple #[.agg #[v0_], .bool r2]) ∧ Kd.R k43 43 w' w.heap.size (fun _ => True) v0_ r1 ∧ Below w.heap.size w w' := by
 have hu30 := Try.underlying30
 have hu43 := Try.underlying43
 have hu34 := Try.underlying34
 have HR0_0 := Aside0.mk hr0_0
 have HC0_0 := Aside0.mk hc0_0
 clear hr0_0 hc0_0
 have HB := Aside0.mk (Below.refl w.heap.size w)
 have H : ((impl_TableOk.f k l0_0).bind fun t258 => (if t258 = true then ((impl_isRoute.f a1_0 a1_1 a1_2).bind fun t259 => (impl_PutRoute.j0 k (!t259) l0_0 a1_0 a1_1 a1_2)) else (impl_PutRoute.j0 k true l0_0 a1_0 a1_1 a1_2))) = some (r1, r2) := h
 clear h
 have HC3 := Aside0.mk H
 clear H
 go_enter Try.func17, Try.ntmps17
 go_upto_region 1 with (first | ((with_reducible refine gate_dst (N := 2) rfl ?_); refine box_event ?hg (N := 2) ?hd (cs := #[.slice A0_0 l0_0.length c0_0]) (t := 30) ?hr ?_; (case hd => rfl); (case hg => rfl); (case hr => first | (go_simp; done) | (go_simp; rfl)); intro gb255 hg w4 hbox hb; have BK255 := Aside0.mk hbox; have GW255 := ge_ HB hg; have GE255 := ge_ HB hg; replace HB := Aside0.mk (bt_ HB hb); clear hb hbox hg) | ((with_reducible refine gate_dst (N := 3) rfl ?_); refine box_event ?hg (N := 3) ?hd (cs := #[.int .i64 a1_0, .int .i64 a1_1, .int .i64 a1_2]) (t := 43) ?hr ?_; (case hd => rfl); (case hg => rfl); (case hr => first | (go_simp; done) | (go_simp; rfl)); intro gb256 hg w5 hbox hb; have BK256 := Aside0.mk hbox; have GW256 := ge_ HB hg; have GE256 := ge_ HB hg; have NB255_256 := nl_ BK255 hg; have NB256_255 := ng_ BK255 hg; replace HB := Aside0.mk (bt_ HB hb); replace BK255 := Aside0.mk (bb_ BK255 hb); clear hb hbox hg) | ((with_reducible refine gate_dst (N := 4) rfl ?_); refine box_event ?hg (N := 4) ?hd (cs := #[.slice none 0 0]) (t := 30) ?hr ?_; (case hd => rfl); (case hg => rfl); (case hr => first | (go_simp; done) | (go_simp; rfl)); intro gb257 hg w6 hbox hb; have BK257 := Aside0.mk hbox; have GW257 := ge_ HB hg; have GE257 := ge_ HB hg; have NB255_257 := nl_ BK255 hg; have NB257_255 := ng_ BK255 hg; have NB256_257 := nl_ BK256 hg; have NB257_256 := ng_ BK256 hg; replace HB := Aside0.mk (bt_ HB hb); replace BK255 := Aside0.mk (bb_ BK255 hb); replace BK256 := Aside0.mk (bb_ BK256 hb); clear hb hbox hg))
 (try simp only [Act.put, List.setIfInBounds_toArray, List.set_cons_zero, List.set_cons_succ])
 go_cut [16] (fun v16 wc => ∃ (kq : Nat) (x16_2 : Bool), v16 = .bool x16_2 ∧ Aside0 (impl_PutRoute.j0 kq x16_2 l0_0 a1_0 a1_1 a1_2 = some (r1, r2)) ∧ Aside0 (kq ≤ k) ∧ Aside0 (wc.heap[gb255]? = some (.cells #[(.slice A0_0 l0_0.length c0_0)] 30 (0, 0))) ∧ Aside0 (wc.heap[gb256]? = some (.cells #[.int .i64 a1_0, .int .i64 a1_1, .int .i64 a1_2] 43 (0, 0))) ∧ Aside0 (wc.heap[gb257]? = some (.cells #[(.slice none 0 0)] 30 (0, 0))) ∧ Aside0 (Below w.heap.size w wc))
 case first =>
  have H := HC3.out
  clear HC3
  replace H := Option.bind_eq_some_iff.mp H
  obtain ⟨t258, A70, H⟩ := H
  have A7 := Aside0.mk A70
  clear A70
  by_cases c8 : t258 = true
  ·subst c8
   rw [if_pos rfl] at H
   replace H := Option.bind_eq_some_iff.mp H
   obtain ⟨t259, A90, H⟩ := H
   have A9 := Aside0.mk A90
   clear A90
   have H' := Aside0.mk H
   clear H
   have hnb10 := NB255_256.out
   have hnc10 := NB256_255.out
   have hnb11 := NB255_257.out
   have hnc11 := NB257_255.out
   have hcz12_0 := cz_ BK255 0 (.slice A0_0 l0_0.length c0_0)
   have hfz12_0 := blk_frozen BK255.out 0
   go_wp2_with (first | ((with_reducible refine gate_callee (f := 31) rfl ?_); refine gl_ (some 10) Try.func31 #[.agg #[.slice A0_0 l0_0.length c0_0]] ?_; (with_reducible refine (impl_TableOk.calls k _ _ l0_0 true _ ?side1 ?side2 A7.out).mono ?_); (case side1 => exact cb_ HR0_0 HB); (case side2 => exact HC0_0.out); rintro e w13 ⟨rfl, hb⟩; refine ⟨_, rfl, ?_⟩; replace BK255 := Aside0.mk (bb_ BK255 hb); replace BK256 := Aside0.mk (bb_ BK256 hb); replace BK257 := Aside0.mk (bb_ BK257 hb); replace HB := Aside0.mk (bt_ HB hb); (try clear hb); (try clear hb2); (try clear hk); (try clear hi); have hnb14 := NB256_257.out; have hnc14 := NB257_256.out; have hcz15_0 := cz_ BK256 0 (.int .i64 a1_0); have hcz15_1 := cz_ BK256 1 (.int .i64 a1_1); have hcz15_2 := cz_ BK256 2 (.int .i64 a1_2); have hfz15_0 := blk_frozen BK256.out 0; have hfz15_1 := blk_frozen BK256.out 1; have hfz15_2 := blk_frozen BK256.out 2) | (go_at_call 38; (with_reducible refine (impl_isRoute.calls a1_0 a1_1 a1_2 t259 _ A9.out).mono ?_); rintro e w16 ⟨rfl, hb⟩; replace BK255 := Aside0.mk (bb_ BK255 hb); replace BK256 := Aside0.mk (bb_ BK256 hb); replace BK257 := Aside0.mk (bb_ BK257 hb); replace HB := Aside0.mk (bt_ HB hb); (try clear hb); (try clear hb2); (try clear hk); (try clear hi)))
   go_meet
   case rel => exact ⟨_, (!t259), (by first | rfl | (simp; done) | (simp [*]; done)), H', ⟨by first | omega | exact Nat.le_refl _⟩, ⟨by (with_reducible repeat (first | refine blk_drewN ?_ _ | refine blk_drew ?_ | refine blk_alloc ?_ _)); exact BK255.out⟩, ⟨by (with_reducible repeat (first | refine blk_drewN ?_ _ | refine blk_drew ?_ | refine blk_alloc ?_ _)); exact BK256.out⟩, ⟨by (with_reducible repeat (first | refine blk_drewN ?_ _ | refine blk_drew ?_ | refine blk_alloc ?_ _)); exact BK257.out⟩, ⟨by repeat (first | (with_reducible first | exact HB.out | apply below_alloc | apply pw_below_drewN | apply below_drew1 | refine below_set ?_ GE255.out | refine below_set ?_ GE256.out | refine below_set ?_ GE257.out) | exact HB.out)⟩⟩
  ·replace c8 := Bool.eq_false_iff.mpr c8
   subst c8
   rw [if_neg (show ¬ (false = true) by decide)] at H
   have H' := Aside0.mk H
   clear H
   have hnb17 := NB255_256.out
   have hnc17 := NB256_255.out
   have hnb18 := NB255_257.out
   have hnc18 := NB257_255.out
   have hcz19_0 := cz_ BK255 0 (.slice A0_0 l0_0.length c0_0)
   have hfz19_0 := blk_frozen BK255.out 0
   go_wp2_with (first | ((with_reducible refine gate_callee (f := 31) rfl ?_); refine gl_ (some 10) Try.func31 #[.agg #[.slice A0_0 l0_0.length c0_0]] ?_; (with_reducible refine (impl_TableOk.calls k _ _ l0_0 false _ ?side1 ?side2 A7.out).mono ?_); (case side1 => exact cb_ HR0_0 HB); (case side2 => exact HC0_0.out); rintro e w20 ⟨rfl, hb⟩; refine ⟨_, rfl, ?_⟩; replace BK255 := Aside0.mk (bb_ BK255 hb); replace BK256 := Aside0.mk (bb_ BK256 hb); replace BK257 := Aside0.mk (bb_ BK257 hb); replace HB := Aside0.mk (bt_ HB hb); (try clear hb); (try clear hb2); (try clear hk); (try clear hi)))
   go_meet
   case rel => exact ⟨_, (true), (by first | rfl | (simp; done) | (simp [*]; done)), H', ⟨by first | omega | exact Nat.le_refl _⟩, ⟨by (with_reducible repeat (first | refine blk_drewN ?_ _ | refine blk_drew ?_ | refine blk_alloc ?_ _)); exact BK255.out⟩, ⟨by (with_reducible repeat (first | refine blk_drewN ?_ _ | refine blk_drew ?_ | refine blk_alloc ?_ _)); exact BK256.out⟩, ⟨by (with_reducible repeat (first | refine blk_drewN ?_ _ | refine blk_drew ?_ | refine blk_alloc ?_ _)); exact BK257.out⟩, ⟨by repeat (first | (with_reducible first | exact HB.out | apply below_alloc | apply pw_below_drewN | apply below_drew1 | refine below_set ?_ GE255.out | refine below_set ?_ GE256.out | refine below_set ?_ GE257.out) | exact HB.out)⟩⟩
 case rest =>
  clear HC3
  try clear c1
  try clear p2
  try clear c3
  try clear c8
  try clear c10
  try clear c11
  try clear c14
  try clear c17
  try clear c18
  try clear hcz12_0
  try clear hcz15_0
  try clear hcz15_1
  try clear hcz15_2
  try clear hcz19_0
  try clear hfz12_0
  try clear hfz15_0
  try clear hfz15_1
  try clear hfz15_2
  try clear hfz19_0
  obtain ⟨kq, x16_2, rfl, HA, HJ2, BK255, BK256, BK257, HB⟩ := hcut
  cases kq with
  | zero => exact absurd HA.out (by simp [impl_PutRoute.j0])
  | succ kj2 =>
   have H := HA.out
   clear HA
   simp only [impl_PutRoute.j0] at H
   by_cases c21 : x16_2 = true
   ·subst c21
    rw [if_pos rfl] at H
    replace H := Option.bind_eq_some_iff.mp H
    obtain ⟨t260, A220, H⟩ := H
    have A22 := Aside0.mk A220
    clear A220
    simp only [Option.some.injEq, Prod.mk.injEq] at H
    obtain ⟨rfl, rfl⟩ := H
    have hnb23 := NB255_256.out
    have hnc23 := NB256_255.out
    have hnb24 := NB255_257.out
    have hnc24 := NB257_255.out
    have hcz25_0 := cz_ BK255 0 (.slice A0_0 l0_0.length c0_0)
    have hfz25_0 := blk_frozen BK255.out 0
    go_wp2_with (first | ((with_reducible refine gate_callee (f := 30) rfl ?_); refine gl_ (some 18) Try.func30 #[.agg #[.slice A0_0 l0_0.length c0_0]] ?_; (with_reducible refine (impl_ownTable.calls _ _ l0_0 t260 _ ?side1 ?side2 A22.out).mono ?_); (case side1 => exact cb_ HR0_0 HB); (case side2 => exact HC0_0.out); rintro e w26 ⟨v261, rfl, ho0, hb⟩; refine ⟨_, rfl, ?_⟩; have HO262 := Aside0.mk (Kd.R_lower (Kd.R_newB ho0 (g := gb256) (o := .cells #[.int .i64 a1_0, .int .i64 a1_1, .int .i64 a1_2] 43 (0, 0)) (by (with_reducible repeat (first | refine blk_drewN ?_ _ | refine blk_drew ?_ | refine blk_alloc ?_ _)); exact BK256.out)) (bz_ HB)); replace BK255 := Aside0.mk (bb_ BK255 hb); replace BK256 := Aside0.mk (bb_ BK256 hb); replace BK257 := Aside0.mk (bb_ BK257 hb); replace HB := Aside0.mk (bt_ HB hb); (try clear hb); (try clear hb2); (try clear hk); (try clear hi); (try clear ho0); obtain ⟨Ao27, co27, eo27⟩ := Kd.R_slice HO262.out; subst eo27; have hnb28 := NB257_256.out; have hnc28 := NB256_257.out; have hcz29_0 := cz_ BK257 0 (.slice none 0 0); have hfz29_0 := blk_frozen BK257.out 0))
    refine bodyPost_ret (results_ct rfl _ _ gb257 30 #[.slice Ao27 t260.length co27] (0, 0) _ rfl (by (with_reducible repeat (first | refine blk_drewN ?_ _ | refine blk_drew ?_ | refine blk_alloc ?_ _)); refine blk_put (cs := #[.slice none 0 0]) ?_ 0 _ rfl; (with_reducible repeat (first | refine blk_drewN ?_ _ | refine blk_drew ?_ | refine blk_alloc ?_ _)); exact BK257.out) Try.underlying30 rfl (by kernel_rfl)) rfl ?_
    exact ⟨_, by first | rfl | (simp [errW_none, errW_some] <;> rfl) | (simp [*, errW_none, errW_some] <;> rfl), by (with_reducible repeat (first | apply Kd.R_alloc | apply Kd.R_drewN | apply Kd.R_drew)); exact Kd.R_mono (Kd.R_far (p := ⟨gb257, 0, none⟩) (Kd.R_types HO262.out BK257.out (by decide)) (fun _ hk => hk.2) (.slice Ao27 t260.length co27)) (fun _ hk => trivial), by repeat (first | (with_reducible first | exact HB.out | apply below_alloc | apply pw_below_drewN | apply below_drew1 | refine below_set ?_ GE255.out | refine below_set ?_ GE256.out | refine below_set ?_ GE257.out) | exact HB.out)⟩
   ·replace c21 := Bool.eq_false_iff.mpr c21
    subst c21
    rw [if_neg (show ¬ (false = true) by decide)] at H
    replace H := Option.bind_eq_some_iff.mp H
    obtain ⟨t263, A300, H⟩ := H
    have A30 := Aside0.mk A300
    clear A300
    replace H := Option.bind_eq_some_iff.mp H
    obtain ⟨⟨t267, t268⟩, A310, H⟩ := H
    have A31 := Aside0.mk A310
    clear A310
    by_cases c32 : t268 = true
    ·subst c32
     rw [if_pos rfl] at H
     by_cases c33 : 0 ≤ t267
     ·rw [if_pos c33] at H
      have c33b0 : decide (0 ≤ t267) = true := decide_eq_true c33
      clear c33
      by_cases c34 : t267 < (t263.length : Int)
      ·rw [if_pos c34] at H
       have c34b0 : decide (t267 < (t263.length : Int)) = true := decide_eq_true c34
       clear c34
       obtain ⟨y269, hy269⟩ : ∃ y_ : List (S43), y_ = (t263.set (t267 : Int).toNat (⟨(⟨a1_0, a1_1⟩ : S34), a1_2⟩ : S43)) := ⟨_, rfl⟩
       replace H : (some (y269, true)) = some (r1, r2) := by first | (rw [hy269]; with_reducible exact H) | (have H2_ := (Option.bind_some _ _).symm.trans H; rw [hy269]; with_reducible exact H2_) | (have H2_ := (Option.bind_some _ _).symm.trans H; with_reducible exact H2_) | with_reducible exact H | (rw [hy269]; exact H) | exact H
       have Ny269 := Aside0.mk hy269
       clear hy269
       simp only [Option.some.injEq, Prod.mk.injEq] at H
       obtain ⟨rfl, rfl⟩ := H
       have hnb36 := NB255_256.out
       have hnc36 := NB256_255.out
       have hnb37 := NB255_257.out
       have hnc37 := NB257_255.out
       have hcz38_0 := cz_ BK255 0 (.slice A0_0 l0_0.length c0_0)
       have hfz38_0 := blk_frozen BK255.out 0
       go_wp2_with (first | ((with_reducible refine gate_callee (f := 30) rfl ?_); refine gl_ (some 20) Try.func30 #[.agg #[.slice A0_0 l0_0.length c0_0]] ?_; (with_reducible refine (impl_ownTable.calls _ _ l0_0 t263 _ ?side1 ?side2 A30.out).mono ?_); (case side1 => exact cb_ HR0_0 HB); (case side2 => exact HC0_0.out); rintro e w39 ⟨v264, rfl, ho0, hb⟩; refine ⟨_, rfl, ?_⟩; have HO265 := Aside0.mk (Kd.R_lower (Kd.R_newB ho0 (g := gb256) (o := .cells #[.int .i64 a1_0, .int .i64 a1_1, .int .i64 a1_2] 43 (0, 0)) (by (with_reducible repeat (first | refine blk_drewN ?_ _ | refine blk_drew ?_ | refine blk_alloc ?_ _)); exact BK256.out)) (bz_ HB)); replace BK255 := Aside0.mk (bb_ BK255 hb); replace BK256 := Aside0.mk (bb_ BK256 hb); replace BK257 := Aside0.mk (bb_ BK257 hb); replace HB := Aside0.mk (bt_ HB hb); (try clear hb); (try clear hb2); (try clear hk); (try clear hi); (try clear ho0)) | ((with_reducible refine gate_dst (N := 6) rfl ?_); refine box_event ?hg (N := 6) ?hd (cs := #[.slice none 0 0]) (t := 30) ?hr ?_; (case hd => rfl); (case hg => rfl); (case hr => first | (go_simp; done) | (go_simp; rfl)); intro gb266 hg w40 hbox hb; have BK266 := Aside0.mk hbox; have GW266 := ge_ HB hg; have GE266 := ge_ HB hg; have NB255_266 := nl_ BK255 hg; have NB266_255 := ng_ BK255 hg; have NB256_266 := nl_ BK256 hg; have NB266_256 := ng_ BK256 hg; have NB257_266 := nl_ BK257 hg; have NB266_257 := ng_ BK257 hg; replace HO265 := rb_ HO265 hb; replace HB := Aside0.mk (bt_ HB hb); replace BK255 := Aside0.mk (bb_ BK255 hb); replace BK256 := Aside0.mk (bb_ BK256 hb); replace BK257 := Aside0.mk (bb_ BK257 hb); clear hb hbox hg; obtain ⟨Ao41, co41, eo41⟩ := Kd.R_slice HO265.out; subst eo41; have hnb42 := NB266_255.out; have hnc42 := NB255_266.out; have hnb43 := NB266_256.out; have hnc43 := NB256_266.out; have hnb44 := NB266_257.out; have hnc44 := NB257_266.out; have hcz45_0 := cz_ BK266 0 (.slice none 0 0); have hfz45_0 := blk_frozen BK266.out 0; have hnb46 := NB256_257.out; have hnc46 := NB257_256.out; have hcz47_0 := cz_ BK256 0 (.int .i64 a1_0); have hcz47_1 := cz_ BK256 1 (.int .i64 a1_1); have hcz47_2 := cz_ BK256 2 (.int .i64 a1_2); have hfz47_0 := blk_frozen BK256.out 0; have hfz47_1 := blk_frozen BK256.out 1; have hfz47_2 := blk_frozen BK256.out 2) | ((with_reducible refine gate_callee (f := 32) rfl ?_); refine gl_ (some 26) Try.func32 #[.slice Ao41 t263.length co41, .agg #[.int .i64 a1_0, .int .i64 a1_1]] ?_; (with_reducible refine (impl_findRoute.calls kj2 _ _ t263 a1_0 a1_1 t267 true _ ?side1 ?side2 A31.out).mono ?_); (case side1 => refine (Kd.R_reads' (e := 43) (base := w.heap.size) (ok := fun k_ => (True ∧ k_ ≠ gb256)) (n := t263.length) (c := co41) ?_).2.2; exact (hs_ HO265 BK266)); (case side2 => exact (Kd.R_reads' HO265.out).2.1); rintro e w48 ⟨rfl, hb⟩; refine ⟨_, rfl, ?_⟩; replace HO265 := rs_ HO265 BK266 hb; replace BK255 := bf_ BK255 NB255_266 hb; replace BK256 := bf_ BK256 NB256_266 hb; replace BK257 := bf_ BK257 NB257_266 hb; replace BK266 := Aside0.mk (blk_below (g := gb266) (o := .cells #[.slice Ao41 t263.length co41] 30 (0, 0)) (by (with_reducible repeat (first | refine blk_drewN ?_ _ | refine blk_drew ?_ | refine blk_alloc ?_ _)); refine blk_put (cs := #[.slice none 0 0]) ?_ 0 _ rfl; (with_reducible repeat (first | refine blk_drewN ?_ _ | refine blk_drew ?_ | refine blk_alloc ?_ _)); exact BK266.out) hb); replace HB := Aside0.mk (bt_ HB hb); (try clear hb); (try clear hb2); (try clear hk); (try clear hi); have hcz49_0 := cz_ BK266 0 (.slice Ao41 t263.length co41); have hfz49_0 := blk_frozen BK266.out 0; have hcz50_0 := cz_ BK256 0 (.int .i64 a1_0); have hcz50_1 := cz_ BK256 1 (.int .i64 a1_1); have hcz50_2 := cz_ BK256 2 (.int .i64 a1_2); have hfz50_0 := blk_frozen BK256.out 0; have hfz50_1 := blk_frozen BK256.out 1; have hfz50_2 := blk_frozen BK256.out 2; have p35 : 0 ≤ (t267 : Int) := of_decide_eq_true (by first | (with_reducible assumption) | assumption); have q35 : (t267 : Int) < ((t263.length : Int) : Int) := of_decide_eq_true (by first | (with_reducible assumption) | assumption); obtain ⟨go35, co35, eo35, gb35, gl35, cl35, HG35⟩ := Kd.R_form HO265.out (by omega); (first | cases eo35 | (injection eo35 with ea_ en_ ec_; (first | subst ea_ | (injection ea_ with ea_; subst ea_)); subst ec_; clear en_)); have GB35 := Aside0.mk gb35; have GG35 := Aside0.mk HG35; clear gb35 gl35 HG35; obtain ⟨ce35, hcl35, hM35, hcc35, hfr35⟩ := Kd.R_elem HO265.out z43 (t267 : Int) p35 q35; obtain rfl := k43_openM hM35; have hx35_0 : w48.cell? ⟨go35, (t267 : Int).toNat * 3, none⟩ = some (.int .i64 ((rd_T43 t263 t267).f0.f0)) := hcc35 0 _ rfl; have hx35_1 : w48.cell? ⟨go35, (t267 : Int).toNat * 3 + 1, none⟩ = some (.int .i64 ((rd_T43 t263 t267).f0.f1)) := hcc35 1 _ rfl; have hx35_2 : w48.cell? ⟨go35, (t267 : Int).toNat * 3 + 2, none⟩ = some (.int .i64 ((rd_T43 t263 t267).f1)) := hcc35 2 _ rfl; have hf35_0 : w48.frozen? ⟨go35, (t267 : Int).toNat * 3, none⟩ = false := hfr35 0; have hf35_1 : w48.frozen? ⟨go35, (t267 : Int).toNat * 3 + 1, none⟩ = false := hfr35 1; have hf35_2 : w48.frozen? ⟨go35, (t267 : Int).toNat * 3 + 2, none⟩ = false := hfr35 2; clear hcl35 hcc35 hfr35 hM35; replace p35 := eq_true p35; replace q35 := eq_true q35; have n_ := Aside0.mk (Kd.R_mono (ok' := (fun k_ => k_ ≠ gb256)) HO265.out (fun k_ hk => hk.2)); clear HO265; have HO265 := n_; clear n_; have HX51 := Aside0.mk (show Kd.R k43 43 w48 w.heap.size (fun k_ => k_ ≠ gb256) (.slice (some ⟨go35, 0, none⟩) t263.length co41) t263 from (hd_ HO265)); obtain ⟨ce51, hcl51, hM51, hcc51, hfr51⟩ := Kd.R_elem HX51.out z43 (t267 : Int) (of_decide_eq_true (by first | (with_reducible assumption) | assumption)) (by have h_ : (t267 : Int) < ((t263.length : Int) : Int) := of_decide_eq_true (by first | (with_reducible assumption) | assumption); first | exact h_ | (have e_ := (Kd.R_reads' HO265.out).1; omega) | simpa using h_); obtain rfl := k43_openM hM51; have HP51 := Kd.R_seg HX51.out (t267 : Int) (of_decide_eq_true (by first | (with_reducible assumption) | assumption)) (by have h_ : (t267 : Int) < ((t263.length : Int) : Int) := of_decide_eq_true (by first | (with_reducible assumption) | assumption); first | exact h_ | (have e_ := (Kd.R_reads' HO265.out).1; omega) | simpa using h_) (seg := [.int .i64 a1_0, .int .i64 a1_1, .int .i64 a1_2]) (j := 0) hcl51 hcc51 (show 3 ≤ 3 from by decide) (x' := (⟨(⟨a1_0, a1_1⟩ : S34), a1_2⟩ : S43)) (k43_mkM _ _ _ (⟨(⟨a1_0, a1_1⟩ : S34), a1_2⟩ : S43) ) (fun _ hk => hk); have hx51_0 := hcc51 0 _ rfl; (try simp only [show (k43).sz = 3 from rfl, Nat.mul_one, Nat.add_zero] at hx51_0); have hf51_0 := hfr51 0; (try simp only [show (k43).sz = 3 from rfl, Nat.mul_one, Nat.add_zero] at hf51_0); have hx51_1 := hcc51 1 _ rfl; (try simp only [show (k43).sz = 3 from rfl, Nat.mul_one, Nat.add_zero] at hx51_1); have hf51_1 := hfr51 1; (try simp only [show (k43).sz = 3 from rfl, Nat.mul_one, Nat.add_zero] at hf51_1); have hx51_2 := hcc51 2 _ rfl; (try simp only [show (k43).sz = 3 from rfl, Nat.mul_one, Nat.add_zero] at hx51_2); have hf51_2 := hfr51 2; (try simp only [show (k43).sz = 3 from rfl, Nat.mul_one, Nat.add_zero] at hf51_2); clear hcl51 hcc51 hfr51 hM51) | ((with_reducible refine gate_store (t := 43) (p := 42) rfl ?_); refine store_event (t := 43) (p := 42) (v := ?vo_w52) (w1 := (((w48.setCell ⟨go35, (t267 : Int).toNat * 3, none⟩ (.int .i64 a1_0)).setCell ⟨go35, (t267 : Int).toNat * 3 + 1, none⟩ (.int .i64 a1_1)).setCell ⟨go35, (t267 : Int).toNat * 3 + 2, none⟩ (.int .i64 a1_2))) ?hg ?ho ?hn ?hr ?_; (case ho => rfl); (case hg => rfl); (case hn => rfl); (case hr => first | (go_simp; done) | (go_simp; rfl)); intro w52 hw; have hg : w48.grownBy w52 (some go35) := (by rw [hw]; exact HP51.2); have hp_ : Kd.R k43 43 w52 w.heap.size (fun k_ => k_ ≠ gb256) (.slice (some ⟨go35, 0, none⟩) t263.length co41) y269 := (by rw [hw, Ny269.out]; exact HP51.1); clear HP51; replace BK255 := Aside0.mk (blk_grown (g := gb255) (o := .cells #[.slice A0_0 l0_0.length c0_0] 30 (0, 0)) (by (with_reducible repeat (first | refine blk_drewN ?_ _ | refine blk_drew ?_ | refine blk_alloc ?_ _)); exact BK255.out) hg (Kd.R_ne HO265.out BK255.out (by decide))); replace BK256 := Aside0.mk (blk_grown (g := gb256) (o := .cells #[.int .i64 a1_0, .int .i64 a1_1, .int .i64 a1_2] 43 (0, 0)) (by (with_reducible repeat (first | refine blk_drewN ?_ _ | refine blk_drew ?_ | refine blk_alloc ?_ _)); exact BK256.out) hg (Kd.R_away HO265.out (fun _ hk => hk))); replace BK257 := Aside0.mk (blk_grown (g := gb257) (o := .cells #[.slice none 0 0] 30 (0, 0)) (by (with_reducible repeat (first | refine blk_drewN ?_ _ | refine blk_drew ?_ | refine blk_alloc ?_ _)); exact BK257.out) hg (Kd.R_ne HO265.out BK257.out (by decide))); replace BK266 := Aside0.mk (blk_grown (g := gb266) (o := .cells #[.slice (some ⟨go35, 0, none⟩) t263.length co41] 30 (0, 0)) (by (with_reducible repeat (first | refine blk_drewN ?_ _ | refine blk_drew ?_ | refine blk_alloc ?_ _)); exact BK266.out) hg (Kd.R_ne HO265.out BK266.out (by decide))); replace HO265 := Aside0.mk (hp_); replace HB := Aside0.mk ((by rw [hw]; exact below_set (below_set (below_set (HB.out) GB35.out) GB35.out) GB35.out : Below w.heap.size w w52)); clear hg hw hp_; have hcz53_0 := cz_ BK266 0 (.slice (some ⟨go35, 0, none⟩) t263.length co41); have hfz53_0 := blk_frozen BK266.out 0; have hcz54_0 := cz_ BK257 0 (.slice none 0 0); have hfz54_0 := blk_frozen BK257.out 0))
       refine bodyPost_ret (results_ct rfl _ _ gb257 30 #[.slice (some ⟨go35, 0, none⟩) t263.length co41] (0, 0) _ rfl (by (with_reducible repeat (first | refine blk_drewN ?_ _ | refine blk_drew ?_ | refine blk_alloc ?_ _)); refine blk_put (cs := #[.slice none 0 0]) ?_ 0 _ rfl; (with_reducible repeat (first | refine blk_drewN ?_ _ | refine blk_drew ?_ | refine blk_alloc ?_ _)); exact BK257.out) Try.underlying30 rfl (by kernel_rfl)) rfl ?_
       exact ⟨_, by first | rfl | (simp [errW_none, errW_some] <;> rfl) | (simp [*, errW_none, errW_some] <;> rfl), by (with_reducible repeat (first | apply Kd.R_alloc | apply Kd.R_drewN | apply Kd.R_drew)); exact Kd.R_mono (Kd.R_far (p := ⟨gb257, 0, none⟩) (Kd.R_types HO265.out BK257.out (by decide)) (fun _ hk => hk.2) (.slice (some ⟨go35, 0, none⟩) t263.length co41)) (fun _ hk => trivial), by repeat (first | (with_reducible first | exact HB.out | apply below_alloc | apply pw_below_drewN | apply below_drew1 | refine below_set ?_ GE255.out | refine below_set ?_ GE256.out | refine below_set ?_ GE257.out | refine below_set ?_ GE266.out) | exact HB.out)⟩
      ·rw [if_neg c34] at H
       exact absurd H (by simp)
     ·rw [if_neg c33] at H
      exact absurd H (by simp)
    ·replace c32 := Bool.eq_false_iff.mpr c32
     subst c32
     rw [if_neg (show ¬ (false = true) by decide)] at H
     by_cases c55 : (t263.length : Int) = 120
     ·rw [if_pos c55] at H
      have c55b0 : ((t263.length : Int) == 120) = true := beq_iff_eq.mpr c55
      have c55b1 : ((t263.length : Int) != 120) = false := bne_eq_false_iff_eq.mpr c55
      clear c55
      simp only [Option.some.injEq, Prod.mk.injEq] at H
      obtain ⟨rfl, rfl⟩ := H
      have hnb56 := NB255_256.out
      have hnc56 := NB256_255.out
      have hnb57 := NB255_257.out
      have hnc57 := NB257_255.out
      have hcz58_0 := cz_ BK255 0 (.slice A0_0 l0_0.length c0_0)
      have hfz58_0 := blk_frozen BK255.out 0
      go_wp2_with (first | ((with_reducible refine gate_callee (f := 30) rfl ?_); refine gl_ (some 20) Try.func30 #[.agg #[.slice A0_0 l0_0.length c0_0]] ?_; (with_reducible refine (impl_ownTable.calls _ _ l0_0 t263 _ ?side1 ?side2 A30.out).mono ?_); (case side1 => exact cb_ HR0_0 HB); (case side2 => exact HC0_0.out); rintro e w59 ⟨v264, rfl, ho0, hb⟩; refine ⟨_, rfl, ?_⟩; have HO265 := Aside0.mk (Kd.R_lower (Kd.R_newB ho0 (g := gb256) (o := .cells #[.int .i64 a1_0, .int .i64 a1_1, .int .i64 a1_2] 43 (0, 0)) (by (with_reducible repeat (first | refine blk_drewN ?_ _ | refine blk_drew ?_ | refine blk_alloc ?_ _)); exact BK256.out)) (bz_ HB)); replace BK255 := Aside0.mk (bb_ BK255 hb); replace BK256 := Aside0.mk (bb_ BK256 hb); replace BK257 := Aside0.mk (bb_ BK257 hb); replace HB := Aside0.mk (bt_ HB hb); (try clear hb); (try clear hb2); (try clear hk); (try clear hi); (try clear ho0)) | ((with_reducible refine gate_dst (N := 6) rfl ?_); refine box_event ?hg (N := 6) ?hd (cs := #[.slice none 0 0]) (t := 30) ?hr ?_; (case hd => rfl); (case hg => rfl); (case hr => first | (go_simp; done) | (go_simp; rfl)); intro gb266 hg w60 hbox hb; have BK266 := Aside0.mk hbox; have GW266 := ge_ HB hg; have GE266 := ge_ HB hg; have NB255_266 := nl_ BK255 hg; have NB266_255 := ng_ BK255 hg; have NB256_266 := nl_ BK256 hg; have NB266_256 := ng_ BK256 hg; have NB257_266 := nl_ BK257 hg; have NB266_257 := ng_ BK257 hg; replace HO265 := rb_ HO265 hb; replace HB := Aside0.mk (bt_ HB hb); replace BK255 := Aside0.mk (bb_ BK255 hb); replace BK256 := Aside0.mk (bb_ BK256 hb); replace BK257 := Aside0.mk (bb_ BK257 hb); clear hb hbox hg; obtain ⟨Ao61, co61, eo61⟩ := Kd.R_slice HO265.out; subst eo61; have hnb62 := NB266_255.out; have hnc62 := NB255_266.out; have hnb63 := NB266_256.out; have hnc63 := NB256_266.out; have hnb64 := NB266_257.out; have hnc64 := NB257_266.out; have hcz65_0 := cz_ BK266 0 (.slice none 0 0); have hfz65_0 := blk_frozen BK266.out 0; have hnb66 := NB256_257.out; have hnc66 := NB257_256.out; have hcz67_0 := cz_ BK256 0 (.int .i64 a1_0); have hcz67_1 := cz_ BK256 1 (.int .i64 a1_1); have hcz67_2 := cz_ BK256 2 (.int .i64 a1_2); have hfz67_0 := blk_frozen BK256.out 0; have hfz67_1 := blk_frozen BK256.out 1; have hfz67_2 := blk_frozen BK256.out 2) | ((with_reducible refine gate_callee (f := 32) rfl ?_); refine gl_ (some 26) Try.func32 #[.slice Ao61 t263.length co61, .agg #[.int .i64 a1_0, .int .i64 a1_1]] ?_; (with_reducible refine (impl_findRoute.calls kj2 _ _ t263 a1_0 a1_1 t267 false _ ?side1 ?side2 A31.out).mono ?_); (case side1 => refine (Kd.R_reads' (e := 43) (base := w.heap.size) (ok := fun k_ => (True ∧ k_ ≠ gb256)) (n := t263.length) (c := co61) ?_).2.2; exact (hs_ HO265 BK266)); (case side2 => exact (Kd.R_reads' HO265.out).2.1); rintro e w68 ⟨rfl, hb⟩; refine ⟨_, rfl, ?_⟩; replace HO265 := rs_ HO265 BK266 hb; replace BK255 := bf_ BK255 NB255_266 hb; replace BK256 := bf_ BK256 NB256_266 hb; replace BK257 := bf_ BK257 NB257_266 hb; replace BK266 := Aside0.mk (blk_below (g := gb266) (o := .cells #[.slice Ao61 t263.length co61] 30 (0, 0)) (by (with_reducible repeat (first | refine blk_drewN ?_ _ | refine blk_drew ?_ | refine blk_alloc ?_ _)); refine blk_put (cs := #[.slice none 0 0]) ?_ 0 _ rfl; (with_reducible repeat (first | refine blk_drewN ?_ _ | refine blk_drew ?_ | refine blk_alloc ?_ _)); exact BK266.out) hb); replace HB := Aside0.mk (bt_ HB hb); (try clear hb); (try clear hb2); (try clear hk); (try clear hi); have hcz69_0 := cz_ BK266 0 (.slice Ao61 t263.length co61); have hfz69_0 := blk_frozen BK266.out 0; have hcz70_0 := cz_ BK257 0 (.slice none 0 0); have hfz70_0 := blk_frozen BK257.out 0))
      refine bodyPost_ret (results_ct rfl _ _ gb257 30 #[.slice Ao61 t263.length co61] (0, 0) _ rfl (by (with_reducible repeat (first | refine blk_drewN ?_ _ | refine blk_drew ?_ | refine blk_alloc ?_ _)); refine blk_put (cs := #[.slice none 0 0]) ?_ 0 _ rfl; (with_reducible repeat (first | refine blk_drewN ?_ _ | refine blk_drew ?_ | refine blk_alloc ?_ _)); exact BK257.out) Try.underlying30 rfl (by kernel_rfl)) rfl ?_
      exact ⟨_, by first | rfl | (simp [errW_none, errW_some] <;> rfl) | (simp [*, errW_none, errW_some] <;> rfl), by (with_reducible repeat (first | apply Kd.R_alloc | apply Kd.R_drewN | apply Kd.R_drew)); exact Kd.R_mono (Kd.R_far (p := ⟨gb257, 0, none⟩) (Kd.R_types HO265.out BK257.out (by decide)) (fun _ hk => hk.2) (.slice Ao61 t263.length co61)) (fun _ hk => trivial), by repeat (first | (with_reducible first | exact HB.out | apply below_alloc | apply pw_below_drewN | apply below_drew1 | refine below_set ?_ GE255.out | refine below_set ?_ GE256.out | refine below_set ?_ GE257.out | refine below_set ?_ GE266.out) | exact HB.out)⟩
     ·rw [if_neg c55] at H
      have c55b0 : ((t263.length : Int) == 120) = false := beq_eq_false_iff_ne.mpr c55
      have c55b1 : ((t263.length : Int) != 120) = true := bne_iff_ne.mpr c55
      obtain ⟨y270, hy270⟩ : ∃ y_ : List (S43), y_ = (([(⟨(⟨a1_0, a1_1⟩ : S34), a1_2⟩ : S43)] : List (S43))) := ⟨_, rfl⟩
      replace H : ((slices_Insert_impl_Route_impl_Route.f t263 t267 y270).bind fun t273 => (some (t273, true))) = some (r1, r2) := by first | (rw [hy270]; with_reducible exact H) | (have H2_ := (Option.bind_some _ _).symm.trans H; rw [hy270]; with_reducible exact H2_) | (have H2_ := (Option.bind_some _ _).symm.trans H; with_reducible exact H2_) | with_reducible exact H | (rw [hy270]; exact H) | exact H
      have Ny270 := Aside0.mk hy270
      clear hy270
      replace H := Option.bind_eq_some_iff.mp H
      obtain ⟨t273, A710, H⟩ := H
      have A71 := Aside0.mk A710
      clear A710
      simp only [Option.some.injEq, Prod.mk.injEq] at H
      obtain ⟨rfl, rfl⟩ := H
      have hnb72 := NB255_256.out
      have hnc72 := NB256_255.out
      have hnb73 := NB255_257.out
      have hnc73 := NB257_255.out
      have hcz74_0 := cz_ BK255 0 (.slice A0_0 l0_0.length c0_0)
      have hfz74_0 := blk_frozen BK255.out 0
      go_wp2_with (first | ((with_reducible refine gate_callee (f := 30) rfl ?_); refine gl_ (some 20) Try.func30 #[.agg #[.slice A0_0 l0_0.length c0_0]] ?_; (with_reducible refine (impl_ownTable.calls _ _ l0_0 t263 _ ?side1 ?side2 A30.out).mono ?_); (case side1 => exact cb_ HR0_0 HB); (case side2 => exact HC0_0.out); rintro e w75 ⟨v264, rfl, ho0, hb⟩; refine ⟨_, rfl, ?_⟩; have HO265 := Aside0.mk (Kd.R_lower (Kd.R_newB ho0 (g := gb256) (o := .cells #[.int .i64 a1_0, .int .i64 a1_1, .int .i64 a1_2] 43 (0, 0)) (by (with_reducible repeat (first | refine blk_drewN ?_ _ | refine blk_drew ?_ | refine blk_alloc ?_ _)); exact BK256.out)) (bz_ HB)); replace BK255 := Aside0.mk (bb_ BK255 hb); replace BK256 := Aside0.mk (bb_ BK256 hb); replace BK257 := Aside0.mk (bb_ BK257 hb); replace HB := Aside0.mk (bt_ HB hb); (try clear hb); (try clear hb2); (try clear hk); (try clear hi); (try clear ho0)) | ((with_reducible refine gate_dst (N := 6) rfl ?_); refine box_event ?hg (N := 6) ?hd (cs := #[.slice none 0 0]) (t := 30) ?hr ?_; (case hd => rfl); (case hg => rfl); (case hr => first | (go_simp; done) | (go_simp; rfl)); intro gb266 hg w76 hbox hb; have BK266 := Aside0.mk hbox; have GW266 := ge_ HB hg; have GE266 := ge_ HB hg; have NB255_266 := nl_ BK255 hg; have NB266_255 := ng_ BK255 hg; have NB256_266 := nl_ BK256 hg; have NB266_256 := ng_ BK256 hg; have NB257_266 := nl_ BK257 hg; have NB266_257 := ng_ BK257 hg; replace HO265 := rb_ HO265 hb; replace HB := Aside0.mk (bt_ HB hb); replace BK255 := Aside0.mk (bb_ BK255 hb); replace BK256 := Aside0.mk (bb_ BK256 hb); replace BK257 := Aside0.mk (bb_ BK257 hb); clear hb hbox hg; obtain ⟨Ao77, co77, eo77⟩ := Kd.R_slice HO265.out; subst eo77; have hnb78 := NB266_255.out; have hnc78 := NB255_266.out; have hnb79 := NB266_256.out; have hnc79 := NB256_266.out; have hnb80 := NB266_257.out; have hnc80 := NB257_266.out; have hcz81_0 := cz_ BK266 0 (.slice none 0 0); have hfz81_0 := blk_frozen BK266.out 0; have hnb82 := NB256_257.out; have hnc82 := NB257_256.out; have hcz83_0 := cz_ BK256 0 (.int .i64 a1_0); have hcz83_1 := cz_ BK256 1 (.int .i64 a1_1); have hcz83_2 := cz_ BK256 2 (.int .i64 a1_2); have hfz83_0 := blk_frozen BK256.out 0; have hfz83_1 := blk_frozen BK256.out 1; have hfz83_2 := blk_frozen BK256.out 2) | ((with_reducible refine gate_callee (f := 32) rfl ?_); refine gl_ (some 26) Try.func32 #[.slice Ao77 t263.length co77, .agg #[.int .i64 a1_0, .int .i64 a1_1]] ?_; (with_reducible refine (impl_findRoute.calls kj2 _ _ t263 a1_0 a1_1 t267 false _ ?side1 ?side2 A31.out).mono ?_); (case side1 => refine (Kd.R_reads' (e := 43) (base := w.heap.size) (ok := fun k_ => (True ∧ k_ ≠ gb256)) (n := t263.length) (c := co77) ?_).2.2; exact (hs_ HO265 BK266)); (case side2 => exact (Kd.R_reads' HO265.out).2.1); rintro e w84 ⟨rfl, hb⟩; refine ⟨_, rfl, ?_⟩; replace HO265 := rs_ HO265 BK266 hb; replace BK255 := bf_ BK255 NB255_266 hb; replace BK256 := bf_ BK256 NB256_266 hb; replace BK257 := bf_ BK257 NB257_266 hb; replace BK266 := Aside0.mk (blk_below (g := gb266) (o := .cells #[.slice Ao77 t263.length co77] 30 (0, 0)) (by (with_reducible repeat (first | refine blk_drewN ?_ _ | refine blk_drew ?_ | refine blk_alloc ?_ _)); refine blk_put (cs := #[.slice none 0 0]) ?_ 0 _ rfl; (with_reducible repeat (first | refine blk_drewN ?_ _ | refine blk_drew ?_ | refine blk_alloc ?_ _)); exact BK266.out) hb); replace HB := Aside0.mk (bt_ HB hb); (try clear hb); (try clear hb2); (try clear hk); (try clear hi); have hcz85_0 := cz_ BK266 0 (.slice Ao77 t263.length co77); have hfz85_0 := blk_frozen BK266.out 0; have hcz86_0 := cz_ BK256 0 (.int .i64 a1_0); have hcz86_1 := cz_ BK256 1 (.int .i64 a1_1); have hcz86_2 := cz_ BK256 2 (.int .i64 a1_2); have hfz86_0 := blk_frozen BK256.out 0; have hfz86_1 := blk_frozen BK256.out 1; have hfz86_2 := blk_frozen BK256.out 2) | ((with_reducible refine gate_dst (N := 33) rfl ?_); refine Kd.R_lit k43 _ 43 ?hg (N := 33) ?hd (xs := ([(⟨(⟨a1_0, a1_1⟩ : S34), a1_2⟩ : S43)] : List (S43))) (inner := [.int .i64 a1_0, .int .i64 a1_1, .int .i64 a1_2]) (ok := fun _ => True) (okp := fun _ => True) ?hr ?hp (fun _ hk => hk) trivial (Below.refl _ _) (Nat.le_refl _) (by simp) ?_; (case hd => rfl); (case hg => rfl); (case hr => first | (go_simp; done) | (go_simp; rfl)); (case hp => exact (Reps.c3 (show Kd.M k43 _ _ _ (⟨(⟨a1_0, a1_1⟩ : S34), a1_2⟩ : S43) [.int .i64 a1_0, .int .i64 a1_1, .int .i64 a1_2] from (k43_mkM _ _ _ (⟨(⟨a1_0, a1_1⟩ : S34), a1_2⟩ : S43) )) (Reps.none _ _))); intro v271 w87 ho88 hb hg_ hnew_; clear hg_ hnew_; (first | rw [← Ny270.out] at ho88 | (simp only [Int.reduceToNat] at ho88; rw [← Ny270.out] at ho88)); have HO272 := Aside0.mk (Kd.R_lower (Kd.R_newB (Kd.R_new' ho88 (Kd.R_lt (hd_ HO265))) (g := gb256) (o := .cells #[.int .i64 a1_0, .int .i64 a1_1, .int .i64 a1_2] 43 (0, 0)) (by (with_reducible repeat (first | refine blk_drewN ?_ _ | refine blk_drew ?_ | refine blk_alloc ?_ _)); exact BK256.out)) (bz_ HB)); replace HO265 := Aside0.mk (Kd.R_elder' (hd_ HO265) (Kd.R_base ho88) hb); replace BK255 := Aside0.mk (bb_ BK255 hb); replace BK256 := Aside0.mk (bb_ BK256 hb); replace BK257 := Aside0.mk (bb_ BK257 hb); replace BK266 := Aside0.mk (bb_ BK266 hb); replace HB := Aside0.mk (bt_ HB hb); clear hb ho88; obtain ⟨Ao89, co89, eo89⟩ := Kd.R_slice HO272.out; subst eo89) | ((with_reducible refine gate_callee (f := 39) rfl ?_); refine gl_ (some 34) Try.func39 #[.slice Ao77 t263.length co77, .int .i64 t267, .slice Ao89 y270.length co89] ?_; (with_reducible refine (slices_Insert_impl_Route_impl_Route.calls (fun k_ => some k_ = (.slice Ao77 t263.length co77 : Value).ownBlock) (.slice Ao77 t263.length co77) t263 t267 (fun k_ => some k_ = (.slice Ao89 y270.length co89 : Value).ownBlock) (.slice Ao89 y270.length co89) y270 t273 w _ ?side1 ?side2 ?side3 ?side4 ?side5 A71.out).mono ?_); (case side1 => exact by_ HB); (case side2 => exact Kd.R_tight rfl HO265.out); (case side3 => exact fun k_ e_ => (HO265.out.1 k_ e_.symm).2); (case side4 => exact Kd.R_tight rfl HO272.out); (case side5 => exact fun k_ e_ => (HO272.out.1 k_ e_.symm).1.2); rintro e w90 ⟨v274, rfl, ho0, hb, hkp⟩; refine ⟨_, rfl, ?_⟩; have HO275 := Aside0.mk (Kd.R_mono (ok' := fun k_ => k_ ≠ gb256) ho0 (fun k_ hk_ => Or.elim hk_ (fun hs_ => Or.elim hs_ (fun hs_ => fun e_ => (Kd.R_away HO265.out (fun _ hk => hk.1.2)) (by rw [← e_]; exact hs_)) (fun hs_ => fun e_ => (Kd.R_away HO272.out (fun _ hk => hk.2)) (by rw [← e_]; exact hs_))) (fun hn_ => (Kd.freshB (g := gb256) (o := .cells #[.int .i64 a1_0, .int .i64 a1_1, .int .i64 a1_2] 43 (0, 0)) (by (with_reducible repeat (first | refine blk_drewN ?_ _ | refine blk_drew ?_ | refine blk_alloc ?_ _)); exact BK256.out) k_ hn_)))); replace BK255 := bk_ BK255 hkp (fun hs_ => Or.elim hs_ (Kd.R_ne HO265.out BK255.out (by decide)) (Kd.R_ne HO272.out BK255.out (by decide))); replace BK257 := bk_ BK257 hkp (fun hs_ => Or.elim hs_ (Kd.R_ne HO265.out BK257.out (by decide)) (Kd.R_ne HO272.out BK257.out (by decide))); replace BK266 := bk_ BK266 hkp (fun hs_ => Or.elim hs_ (Kd.R_ne HO265.out BK266.out (by decide)) (Kd.R_ne HO272.out BK266.out (by decide))); replace BK256 := bk_ BK256 hkp (fun hs_ => Or.elim hs_ (Kd.R_away HO265.out (fun _ hk => hk.1.2)) (Kd.R_away HO272.out (fun _ hk => hk.2))); replace HB := Aside0.mk (hb); clear HO265 HO272; (try clear hb); (try clear hkp); (try clear ho0); obtain ⟨Ao91, co91, eo91⟩ := Kd.R_slice HO275.out; subst eo91; have hcz92_0 := cz_ BK266 0 (.slice Ao77 t263.length co77); have hfz92_0 := blk_frozen BK266.out 0; have hcz93_0 := cz_ BK257 0 (.slice none 0 0); have hfz93_0 := blk_frozen BK257.out 0))
      refine bodyPost_ret (results_ct rfl _ _ gb257 30 #[.slice Ao91 t273.length co91] (0, 0) _ rfl (by (with_reducible repeat (first | refine blk_drewN ?_ _ | refine blk_drew ?_ | refine blk_alloc ?_ _)); refine blk_put (cs := #[.slice none 0 0]) ?_ 0 _ rfl; (with_reducible repeat (first | refine blk_drewN ?_ _ | refine blk_drew ?_ | refine blk_alloc ?_ _)); refine blk_far ?_ NB257_266.out _; (with_reducible repeat (first | refine blk_drewN ?_ _ | refine blk_drew ?_ | refine blk_alloc ?_ _)); exact BK257.out) Try.underlying30 rfl (by kernel_rfl)) rfl ?_
      exact ⟨_, by first | rfl | (simp [errW_none, errW_some] <;> rfl) | (simp [*, errW_none, errW_some] <;> rfl), by (with_reducible repeat (first | apply Kd.R_alloc | apply Kd.R_drewN | apply Kd.R_drew)); exact Kd.R_mono (Kd.R_far (p := ⟨gb257, 0, none⟩) (Kd.R_far (p := ⟨gb266, 0, none⟩) (Kd.R_types (Kd.R_types HO275.out BK266.out (by decide)) BK257.out (by decide)) (fun _ hk => hk.1.2) (.slice Ao91 t273.length co91)) (fun _ hk => hk.2) (.slice Ao91 t273.length co91)) (fun _ hk => trivial), by repeat (first | (with_reducible first | exact HB.out | apply below_alloc | apply pw_below_drewN | apply below_drew1 | refine below_set ?_ GE255.out | refine below_set ?_ GE256.out | refine below_set ?_ GE257.out | refine below_set ?_ GE266.out) | exact HB.out)⟩

end Go.Proofs.Ytflfbaofgfandaa.QFnExactPutRoute
