/- Contracts of functions that the law reaches: what each call returns and what it leaves in memory. Made by this session over the print of the kit. -/
import Derived.Test.YtjepmdngbafonaaQFnSqueezedx0
import Derived.Test.YtjepmdngbafonaaQFnSqueezedx3
import Derived.Test.YtjepmdngbafonaaQFnSqueezedx6
import Derived.Test.YtjepmdngbafonaaQFnSqueezedx7
import Derived.Test.YtjepmdngbafonaaQFnSqueezedx14
import Derived.Test.YtjepmdngbafonaaQFnSqueezedx17
import Derived.Test.YtjepmdngbafonaaQFnSqueezedx23
import Derived.Test.YtjepmdngbafonaaQFnSqueezedx25
namespace Go.Proofs.Ytjepmdngbafonaa.QFnSqueezed
open Go.RowKit Go.Proofs.YtjepmdngbafonaaZ.PrintWords Go.Proofs.YtjepmdngbafonaaZ.PrintLast Go.Proofs.YtjepmdngbafonaaZ.PrintMore
attribute [local go_sem] max2_int min2_int max_two min_two max_three min_three max_four min_four   -- for this text's walks alone
set_option linter.unusedVariables false
set_option linter.unusedSimpArgs false
def ba27_0 := bs_ 14 0
def ba27_1 := bs_ 14 2
def ba27_2 := bs_ 14 10
def ba27_3 := bs_ 14 11
def ba27_4 := bs_ 14 15
def ba27_5 := bs_ 14 31
def ba27_6 := bs_ 14 63
def ba27_7 := bs_ 14 127
def ba27_8 := bs_ 14 4095
def ba27_9 := bs_ 14 255
def ba27_10 := bs_ 14 2175
def ba27_11 := bs_ 14 511
def ba27_12 := bs_ 14 1023
def ba27_13 := bs_ 14 2047
def ba27_14 := bs_ 14 2303
def ba27_15 := bs_ 14 2559
def ba27_16 := bs_ 14 3071
def ba27_17 := bs_ 14 8191
def ba27_18 := bs_ 14 16383
def ba27_19 := bs_ 6 0
def ba27_20 := bs_ 6 1
def ba27_21 := bs_ 6 5
def ba27_22 := bs_ 6 7
def ba27_23 := bs_ 6 15
def ba27_24 := bs_ 6 31
def ba27_25 := bs_ 6 63

/-! ### laws_FnSqueezed: function 4 -/
mutual
def laws_FnSqueezed.j0 : Nat → Bool → List (S30) → Option (Bool)
 | 0, _, _ => none
 | k + 1, x21, x564000 => if x21 = true then (some true) else ((impl_Squeeze.f k x564000).bind fun bt565 => (if bt565.2 = true then ((impl_SameTable.f k x564000 bt565.1).bind fun t570 => (if t570 = true then ((spec_SameTable.f k x564000 bt565.1).bind fun t571 => (laws_FnSqueezed.j1 k (!t571) x564000 bt565.1)) else (laws_FnSqueezed.j1 k true x564000 bt565.1))) else (laws_FnSqueezed.j1 k true x564000 bt565.1)))
def laws_FnSqueezed.j1 : Nat → Bool → List (S30) → List (S30) → Option (Bool)
 | 0, _, _, _ => none
 | k + 1, x40, x564000, x570000 => if x40 = true then (some false) else (laws_FnSqueezed.l0 k 0 x564000 x570000)
def laws_FnSqueezed.l0 : Nat → Int → List (S30) → List (S30) → Option (Bool)
 | 0, _, _, _ => none
 | k + 1, x6, x564000, x570000 => if x6 < (x570000.length : Int) then (if 0 ≤ x6 then ((impl_DropRoute.f k x570000 ((rd_T30 x570000 x6).f0.f0) ((rd_T30 x570000 x6).f0.f1)).bind fun bt580 => (if bt580.2 = true then ((spec_SameTable.f k bt580.1 x570000).bind fun t585 => (if t585 = true then (some false) else (laws_FnSqueezed.l0 k (wrap64 (x6 + 1)) x564000 x570000))) else (some false))) else (none)) else ((impl_TableSpans.f k x570000).bind fun t572 => ((impl_TableSpans.f k x564000).bind fun t575 => ((laws_same.f k t572 t575).bind fun t578 => (some t578))))
end
def laws_FnSqueezed.f (k : Nat) (l0 : List Int) : Option (Bool) := (laws_big.f l0).bind fun t559 => (if t559 = true then (some true) else ((spec_DrawSqueeze.f k l0).bind fun t560 => ((spec_TableOk.f k t560).bind fun t564 => (if t564 = true then (laws_FnSqueezed.j0 k (decide ((t560.length : Int) > 12)) t560) else (laws_FnSqueezed.j0 k true t560)))))
def laws_FnSqueezed.T12 : Bool × List (List Nat × List Nat) := (true, [([], []), ([], []), ([1], [1]), ([], []), ([2, 3], [2, 3]), ([4], [4]), ([5], [5]), ([0, 6], [0, 6]), ([7], [7]), ([8], [8]), ([8], [8]), ([], []), ([11, 9, 7, 0, 1, 2, 3, 4, 5, 6, 7, 8, 9, 11], [9, 11]), ([10, 12, 0, 1, 2, 3, 4, 5, 6, 7, 8, 9, 10, 11, 12], [10])])
def laws_FnSqueezed.B12 : List Nat := [0, 0, 2, 0, 14, 30, 62, 127, 255, 511, 511, 0, 3071, 8191]
theorem laws_FnSqueezed.tab12 : rtab .any (opsOf Try.f4 12) = laws_FnSqueezed.T12 := by kernel_rfl
theorem laws_FnSqueezed.bits12 : waitsOk laws_FnSqueezed.T12.2 laws_FnSqueezed.B12 = true := by kernel_rfl
set_option maxHeartbeats 8000000 in
set_option maxRecDepth 100000 in
theorem laws_FnSqueezed.calls (k : Nat) (A0 : Option Addr) (c0 : Nat) (l0 : List Int) (r : Bool) (w : World) (hr0 : Kd.C (Kd.int .u8) w A0 l0.length l0) (hc0 : l0.length ≤ c0) (h : laws_FnSqueezed.f k l0 = some r) :
  Calls Try.prog 4 #[.slice A0 l0.length c0] w fun e w' => e = .returned (.bool r) ∧ Below w.heap.size w w' := by
 have hu26 := Try.underlying26
 have hu28 := Try.underlying28
 have HR0 := Aside0.mk hr0
 have HC0 := Aside0.mk hc0
 clear hr0 hc0
 have HB := Aside0.mk (Below.refl w.heap.size w)
 have H : ((laws_big.f l0).bind fun t559 => (if t559 = true then (some true) else ((spec_DrawSqueeze.f k l0).bind fun t560 => ((spec_TableOk.f k t560).bind fun t564 => (if t564 = true then (laws_FnSqueezed.j0 k (decide ((t560.length : Int) > 12)) t560) else (laws_FnSqueezed.j0 k true t560)))))) = some r := h
 clear h
 obtain ⟨t559, A2, H⟩ := ob_ H
 by_cases c3 : t559 = true
 ·subst c3
  rw [if_pos rfl] at H
  obtain rfl := Option.some.inj H
  go_enter Try.func4, Try.ntmps4
  go_wp2_with (first | ((with_reducible refine gate_callee (f := 8) rfl ?_); refine gl_ (some 10) Try.func8 #[.slice A0 l0.length c0] ?_; (with_reducible refine (laws_big.calls _ _ l0 true _ ?side1 ?side2 A2.out).mono ?_); (case side1 => repeat (first | exact HR0.out | (with_reducible refine Kd.C_alloc ?_ _) | (with_reducible refine Kd.C_drewN ?_ _) | (with_reducible refine Kd.C_drew ?_))); (case side2 => exact HC0.out); rintro e w' ⟨rfl, ⟨nd, rfl⟩⟩; refine ⟨_, rfl, ?_⟩))
  go_ret
  exact ⟨by first | rfl | (simp [errW_none, errW_some] <;> rfl) | (simp [*, errW_none, errW_some] <;> rfl), bw112_⟩
 replace c3 := Bool.eq_false_iff.mpr c3
 subst c3
 rw [if_neg (show ¬ (false = true) by decide)] at H
 obtain ⟨t560, A4, H⟩ := ob_ H
 have HC5 := Aside0.mk H
 clear H
 go_enter Try.func4, Try.ntmps4
 go_upto_region 4 with (first | ((with_reducible refine gate_callee (f := 8) rfl ?_); refine gl_ (some 10) Try.func8 #[.slice A0 l0.length c0] ?_; (with_reducible refine (laws_big.calls _ _ l0 false _ ?side1 ?side2 A2.out).mono ?_); (case side1 => repeat (first | exact HR0.out | (with_reducible refine Kd.C_alloc ?_ _) | (with_reducible refine Kd.C_drewN ?_ _) | (with_reducible refine Kd.C_drew ?_))); (case side2 => exact HC0.out); rintro e w' ⟨rfl, ⟨nd, rfl⟩⟩; refine ⟨_, rfl, ?_⟩) | ((with_reducible refine gate_callee (f := 18) rfl ?_); refine gl_ (some 12) Try.func18 #[.slice A0 l0.length c0] ?_; (with_reducible refine (spec_DrawSqueeze.calls k _ _ l0 t560 _ ?side1 ?side2 A4.out).mono ?_); (case side1 => repeat (first | exact HR0.out | (with_reducible refine Kd.C_alloc ?_ _) | (with_reducible refine Kd.C_drewN ?_ _) | (with_reducible refine Kd.C_drew ?_))); (case side2 => exact HC0.out); rintro e w6 ⟨v561, rfl, ho0, hb⟩; refine ⟨_, rfl, ?_⟩; have HO562 := Aside0.mk (Kd.R_lower ho0 (bz_ HB)); replace HB := at_ HB hb; clear hb ho0) | ((with_reducible refine gate_dst (N := 3) rfl ?_); refine be_ 3 #[.slice none 0 0] 26 ?_; intro gb563 hg w7 BK563 hb; have GW563 := ge_ HB hg; have GE563 := ge_ HB hg; replace HO562 := rb_ HO562 hb; replace HB := at_ HB hb; clear hb hg; obtain ⟨Ao8, co8, eo8⟩ := Kd.R_slice HO562.out; subst eo8; have hcz9_0 := cz_ BK563 0 (.slice none 0 0); have hfz9_0 := fz_ BK563 0))
 (try simp only [Act.put, List.setIfInBounds_toArray, List.set_cons_zero, List.set_cons_succ])
 go_cut [21] (fun v21 wc => ∃ (kq : Nat) (x21_4 : Bool), v21 = .bool x21_4 ∧ Aside0 (laws_FnSqueezed.j0 kq x21_4 t560 = some r) ∧ Aside0 (kq ≤ k) ∧ Aside0 (Kd.R k30 30 wc w.heap.size (fun _ => True) (.slice Ao8 t560.length co8) t560) ∧ Aside0 (wc.heap[gb563]? = some (.cells #[(.slice Ao8 t560.length co8)] 26 (0, 0))) ∧ Aside0 (Below w.heap.size w wc))
 case first =>
  have H := HC5.out
  clear HC5
  obtain ⟨t564, A10, H⟩ := ob_ H
  by_cases c11 : t564 = true
  ·subst c11
   rw [if_pos rfl] at H
   have H' := Aside0.mk H
   clear H
   have hcz12_0 := cz_ BK563 0 (.slice none 0 0)
   have hfz12_0 := fz_ BK563 0
   go_wp2_with (first | ((with_reducible refine gate_callee (f := 19) rfl ?_); refine gl_ (some 14) Try.func19 #[.agg #[.slice Ao8 t560.length co8]] ?_; (with_reducible refine (spec_TableOk.calls k _ _ t560 true _ ?side1 ?side2 A10.out).mono ?_); (case side1 => refine (Kd.R_reads' (e := 30) (base := w.heap.size) (ok := fun k_ => True) (n := t560.length) (c := co8) ?_).2.2; exact (hs_ HO562 BK563)); (case side2 => exact (Kd.R_reads' HO562.out).2.1); rintro e w13 ⟨rfl, hb⟩; refine ⟨_, rfl, ?_⟩; replace HO562 := rs_ HO562 BK563 hb; replace BK563 := Aside0.mk (blk_below (g := gb563) (o := .cells #[.slice Ao8 t560.length co8] 26 (0, 0)) (by refine bd_ ?_; refine blk_put (cs := #[.slice none 0 0]) ?_ 0 _ rfl; refine bd_ ?_; exact BK563.out) hb); replace HB := at_ HB hb; clear hb; have hcz14_0 := cz_ BK563 0 (.slice Ao8 t560.length co8); have hfz14_0 := fz_ BK563 0))
   go_meet
   case rel => exact ⟨_, (decide ((t560.length : Int) > 12)), er_, H', ⟨by first | omega | exact Nat.le_refl _⟩, ⟨hd_ HO562⟩, ⟨bx_ BK563⟩, ⟨bw112_⟩⟩
  replace c11 := Bool.eq_false_iff.mpr c11
  subst c11
  rw [if_neg (show ¬ (false = true) by decide)] at H
  have H' := Aside0.mk H
  clear H
  have hcz15_0 := cz_ BK563 0 (.slice none 0 0)
  have hfz15_0 := fz_ BK563 0
  go_wp2_with (first | ((with_reducible refine gate_callee (f := 19) rfl ?_); refine gl_ (some 14) Try.func19 #[.agg #[.slice Ao8 t560.length co8]] ?_; (with_reducible refine (spec_TableOk.calls k _ _ t560 false _ ?side1 ?side2 A10.out).mono ?_); (case side1 => refine (Kd.R_reads' (e := 30) (base := w.heap.size) (ok := fun k_ => True) (n := t560.length) (c := co8) ?_).2.2; exact (hs_ HO562 BK563)); (case side2 => exact (Kd.R_reads' HO562.out).2.1); rintro e w16 ⟨rfl, hb⟩; refine ⟨_, rfl, ?_⟩; replace HO562 := rs_ HO562 BK563 hb; replace BK563 := Aside0.mk (blk_below (g := gb563) (o := .cells #[.slice Ao8 t560.length co8] 26 (0, 0)) (by refine bd_ ?_; refine blk_put (cs := #[.slice none 0 0]) ?_ 0 _ rfl; refine bd_ ?_; exact BK563.out) hb); replace HB := at_ HB hb; clear hb))
  go_meet
  case rel => exact ⟨_, (true), er_, H', ⟨by first | omega | exact Nat.le_refl _⟩, ⟨hd_ HO562⟩, ⟨bx_ BK563⟩, ⟨bw112_⟩⟩
 case rest =>
  clear HC5 hcz9_0 hfz9_0
  obtain ⟨kq, x21_4, rfl, HA, HJ4, HO_564000, BK563, HB⟩ := hcut
  cases kq with
  | zero => exact absurd HA.out (by simp [laws_FnSqueezed.j0])
  | succ kj4 =>
   have H := HA.out
   clear HA
   simp only [laws_FnSqueezed.j0] at H
   by_cases c17 : x21_4 = true
   ·subst c17
    rw [if_pos rfl] at H
    obtain rfl := Option.some.inj H
    go_wp2
    go_ret
    exact ⟨by first | rfl | (simp [errW_none, errW_some] <;> rfl) | (simp [*, errW_none, errW_some] <;> rfl), bw112_⟩
   replace c17 := Bool.eq_false_iff.mpr c17
   subst c17
   rw [if_neg (show ¬ (false = true) by decide)] at H
   obtain ⟨⟨t565, t568⟩, A18, H⟩ := ob_ H
   have HC19 := Aside0.mk H
   clear H
   have hcz20_0 := cz_ BK563 0 (.slice Ao8 t560.length co8)
   have hfz20_0 := fz_ BK563 0
   go_upto_region 7 with (first | ((with_reducible refine gate_callee (f := 20) rfl ?_); refine gl_ (some 24) Try.func20 #[.agg #[.slice Ao8 t560.length co8]] ?_; (with_reducible refine (impl_Squeeze.calls kj4 _ _ t560 t565 t568 _ ?side1 ?side2 A18.out).mono ?_); (case side1 => exact rc_ HO_564000); (case side2 => exact (Kd.R_reads' HO_564000.out).2.1); rintro e w21 ⟨v566, rfl, ho0, hb⟩; refine ⟨_, rfl, ?_⟩; have HO567 := Aside0.mk (Kd.R_lower (Kd.R_new' ho0 (Kd.R_lt (hd_ HO_564000))) (bz_ HB)); replace HO_564000 := Aside0.mk (Kd.R_elder' (hd_ HO_564000) (Kd.R_base ho0) hb); replace BK563 := ab_ BK563 hb; replace HB := at_ HB hb; clear hb ho0) | ((with_reducible refine gate_dst (N := 4) rfl ?_); refine be_ 4 #[.slice none 0 0] 26 ?_; intro gb569 hg w22 BK569 hb; have GW569 := ge_ HB hg; have GE569 := ge_ HB hg; have NB563_569 := nl_ BK563 hg; have NB569_563 := ng_ BK563 hg; replace HO_564000 := rb_ HO_564000 hb; replace HO567 := rb_ HO567 hb; replace HB := at_ HB hb; replace BK563 := ab_ BK563 hb; clear hb hg; obtain ⟨Ao23, co23, eo23⟩ := Kd.R_slice HO567.out; subst eo23; have hnb24 := NB569_563.out; have hnc24 := NB563_569.out; have hcz25_0 := cz_ BK569 0 (.slice none 0 0); have hfz25_0 := fz_ BK569 0))
   (try simp only [Act.put, List.setIfInBounds_toArray, List.set_cons_zero, List.set_cons_succ])
   go_cut [40] (fun v40 wc => ∃ (kq : Nat) (x40_18 : Bool), v40 = .bool x40_18 ∧ Aside0 (laws_FnSqueezed.j1 kq x40_18 t560 t565 = some r) ∧ Aside0 (kq ≤ kj4) ∧ Aside0 (Kd.R k30 30 wc w.heap.size (fun k_ => some k_ ≠ ((.slice Ao23 t565.length co23) : Value).ownBlock) (.slice Ao8 t560.length co8) t560) ∧ Aside0 (Kd.R k30 30 wc w.heap.size (fun k_ => some k_ ≠ ((.slice Ao8 t560.length co8) : Value).ownBlock) (.slice Ao23 t565.length co23) t565) ∧ Aside0 (wc.heap[gb563]? = some (.cells #[(.slice Ao8 t560.length co8)] 26 (0, 0))) ∧ Aside0 (wc.heap[gb569]? = some (.cells #[(.slice Ao23 t565.length co23)] 26 (0, 0))) ∧ Aside0 (Below w.heap.size w wc))
   case first =>
    have H := HC19.out
    clear HC19
    by_cases c26 : t568 = true
    rotate_left
    ·replace c26 := Bool.eq_false_iff.mpr c26
     subst c26
     rw [if_neg (show ¬ (false = true) by decide)] at H
     have H' := Aside0.mk H
     clear H
     go_wp2
     go_meet
     case rel => exact ⟨_, (true), er_, H', ⟨by have := HJ4.out; first | omega | exact Nat.le_refl _⟩, ⟨by (with_reducible repeat (first | apply Kd.R_alloc | apply Kd.R_drewN | apply Kd.R_drew)); exact Kd.R_mono (Kd.R_far (Kd.R_types HO_564000.out BK569.out (by decide)) (fun _ hk => hk.2) _) (fun _ hk => hk.1.2)⟩, ⟨by (with_reducible repeat (first | apply Kd.R_alloc | apply Kd.R_drewN | apply Kd.R_drew)); exact Kd.R_mono (Kd.R_far (Kd.R_types HO567.out BK569.out (by decide)) (fun _ hk => hk.2) _) (fun _ hk => hk.1.2)⟩, ⟨bc_ BK563⟩, ⟨by refine bd_ ?_; refine blk_put (cs := #[.slice none 0 0]) ?_ 0 _ rfl; refine bd_ ?_; exact BK569.out⟩, ⟨bw112_⟩⟩
    subst c26
    rw [if_pos rfl] at H
    obtain ⟨t570, A27, H⟩ := ob_ H
    by_cases c28 : t570 = true
    rotate_left
    ·replace c28 := Bool.eq_false_iff.mpr c28
     subst c28
     rw [if_neg (show ¬ (false = true) by decide)] at H
     have H' := Aside0.mk H
     clear H
     have hnb37 := NB563_569.out
     have hnc37 := NB569_563.out
     have hcz38_0 := cz_ BK563 0 (.slice Ao8 t560.length co8)
     have hfz38_0 := fz_ BK563 0
     have hcz39_0 := cz_ BK569 0 (.slice none 0 0)
     have hfz39_0 := fz_ BK569 0
     go_wp2_with (first | (go_at_call 21; (with_reducible refine (impl_SameTable.calls kj4 _ _ t560 _ _ t565 false _ ?side1 ?side2 ?side3 ?side4 A27.out).mono ?_); (case side1 => refine (Kd.R_reads' (e := 30) (base := w.heap.size) (ok := fun k_ => (True ∧ some k_ ≠ (.slice Ao23 t565.length co23 : Value).ownBlock)) (n := t560.length) (c := co8) ?_).2.2; exact (hs_ HO_564000 BK569)); (case side2 => exact (Kd.R_reads' HO_564000.out).2.1); (case side3 => refine (Kd.R_reads' (e := 30) (base := w.heap.size) (ok := fun k_ => (True ∧ some k_ ≠ (.slice Ao8 t560.length co8 : Value).ownBlock)) (n := t565.length) (c := co23) ?_).2.2; exact (hs_ HO567 BK569)); (case side4 => exact (Kd.R_reads' HO567.out).2.1); rintro e w40 ⟨rfl, hb⟩; replace HO_564000 := rs_ HO_564000 BK569 hb; replace HO567 := rs_ HO567 BK569 hb; replace BK563 := bf_ BK563 NB563_569 hb; replace BK569 := Aside0.mk (blk_below (g := gb569) (o := .cells #[.slice Ao23 t565.length co23] 26 (0, 0)) (by refine bd_ ?_; refine blk_put (cs := #[.slice none 0 0]) ?_ 0 _ rfl; refine bd_ ?_; exact BK569.out) hb); replace HB := at_ HB hb; clear hb))
     go_meet
     case rel => exact ⟨_, (true), er_, H', ⟨by have := HJ4.out; first | omega | exact Nat.le_refl _⟩, ⟨by (with_reducible repeat (first | apply Kd.R_alloc | apply Kd.R_drewN | apply Kd.R_drew)); exact Kd.R_mono HO_564000.out (fun _ hk => hk.2)⟩, ⟨by (with_reducible repeat (first | apply Kd.R_alloc | apply Kd.R_drewN | apply Kd.R_drew)); exact Kd.R_mono HO567.out (fun _ hk => hk.2)⟩, ⟨bx_ BK563⟩, ⟨bx_ BK569⟩, ⟨bw112_⟩⟩
    subst c28
    rw [if_pos rfl] at H
    obtain ⟨t571, A29, H⟩ := ob_ H
    have H' := Aside0.mk H
    clear H
    have hnb30 := NB563_569.out
    have hnc30 := NB569_563.out
    have hcz31_0 := cz_ BK563 0 (.slice Ao8 t560.length co8)
    have hfz31_0 := fz_ BK563 0
    have hcz32_0 := cz_ BK569 0 (.slice none 0 0)
    have hfz32_0 := fz_ BK569 0
    go_wp2_with (first | (go_at_call 21; (with_reducible refine (impl_SameTable.calls kj4 _ _ t560 _ _ t565 true _ ?side1 ?side2 ?side3 ?side4 A27.out).mono ?_); (case side1 => refine (Kd.R_reads' (e := 30) (base := w.heap.size) (ok := fun k_ => (True ∧ some k_ ≠ (.slice Ao23 t565.length co23 : Value).ownBlock)) (n := t560.length) (c := co8) ?_).2.2; exact (hs_ HO_564000 BK569)); (case side2 => exact (Kd.R_reads' HO_564000.out).2.1); (case side3 => refine (Kd.R_reads' (e := 30) (base := w.heap.size) (ok := fun k_ => (True ∧ some k_ ≠ (.slice Ao8 t560.length co8 : Value).ownBlock)) (n := t565.length) (c := co23) ?_).2.2; exact (hs_ HO567 BK569)); (case side4 => exact (Kd.R_reads' HO567.out).2.1); rintro e w33 ⟨rfl, hb⟩; replace HO_564000 := rs_ HO_564000 BK569 hb; replace HO567 := rs_ HO567 BK569 hb; replace BK563 := bf_ BK563 NB563_569 hb; replace BK569 := Aside0.mk (blk_below (g := gb569) (o := .cells #[.slice Ao23 t565.length co23] 26 (0, 0)) (by refine bd_ ?_; refine blk_put (cs := #[.slice none 0 0]) ?_ 0 _ rfl; refine bd_ ?_; exact BK569.out) hb); replace HB := at_ HB hb; clear hb; have hcz34_0 := cz_ BK563 0 (.slice Ao8 t560.length co8); have hfz34_0 := fz_ BK563 0; have hcz35_0 := cz_ BK569 0 (.slice Ao23 t565.length co23); have hfz35_0 := fz_ BK569 0) | (go_at_call 22; (with_reducible refine (spec_SameTable.calls kj4 _ _ t560 _ _ t565 t571 _ ?side1 ?side2 ?side3 ?side4 A29.out).mono ?_); (case side1 => exact rc_ HO_564000); (case side2 => exact (Kd.R_reads' HO_564000.out).2.1); (case side3 => exact rc_ HO567); (case side4 => exact (Kd.R_reads' HO567.out).2.1); rintro e w36 ⟨rfl, hb⟩; replace HO_564000 := rb_ HO_564000 hb; replace HO567 := rb_ HO567 hb; replace BK563 := ab_ BK563 hb; replace BK569 := ab_ BK569 hb; replace HB := at_ HB hb; clear hb))
    go_meet
    case rel => exact ⟨_, (!t571), er_, H', ⟨by have := HJ4.out; first | omega | exact Nat.le_refl _⟩, ⟨by (with_reducible repeat (first | apply Kd.R_alloc | apply Kd.R_drewN | apply Kd.R_drew)); exact Kd.R_mono HO_564000.out (fun _ hk => hk.2)⟩, ⟨by (with_reducible repeat (first | apply Kd.R_alloc | apply Kd.R_drewN | apply Kd.R_drew)); exact Kd.R_mono HO567.out (fun _ hk => hk.2)⟩, ⟨bx_ BK563⟩, ⟨bx_ BK569⟩, ⟨bw112_⟩⟩
   case rest =>
    clear HC19 hcz20_0 hcz25_0 hfz20_0 hfz25_0
    obtain ⟨kq, x40_18, rfl, HA, HJ18, HO_564000, HO_570000, BK563, BK569, HB⟩ := hcut
    cases kq with
    | zero => exact absurd HA.out (by simp [laws_FnSqueezed.j1])
    | succ kj18 =>
     have H := HA.out
     clear HA
     simp only [laws_FnSqueezed.j1] at H
     by_cases c41 : x40_18 = true
     ·subst c41
      rw [if_pos rfl] at H
      obtain rfl := Option.some.inj H
      go_wp2
      go_ret
      exact ⟨by first | rfl | (simp [errW_none, errW_some] <;> rfl) | (simp [*, errW_none, errW_some] <;> rfl), bw112_⟩
     replace c41 := Bool.eq_false_iff.mpr c41
     subst c41
     rw [if_neg (show ¬ (false = true) by decide)] at H
     have H' := Aside0.mk H
     clear H
     go_wp2
     go_loopg [6] kj18 (fun kq v6 w' => ∃ (x6_3 : Int), v6 = .int .i64 x6_3 ∧ Aside0 (laws_FnSqueezed.l0 kq x6_3 t560 t565 = some r) ∧ Aside0 (kq ≤ kj18) ∧ Aside0 (Kd.R k30 30 w' w.heap.size (fun k_ => some k_ ≠ ((.slice Ao23 t565.length co23) : Value).ownBlock) (.slice Ao8 t560.length co8) t560) ∧ Aside0 (Kd.R k30 30 w' w.heap.size (fun k_ => some k_ ≠ ((.slice Ao8 t560.length co8) : Value).ownBlock) (.slice Ao23 t565.length co23) t565) ∧ Aside0 (w'.heap[gb563]? = some (.cells #[(.slice Ao8 t560.length co8)] 26 (0, 0))) ∧ Aside0 (w'.heap[gb569]? = some (.cells #[(.slice Ao23 t565.length co23)] 26 (0, 0))) ∧ Aside0 (Below w.heap.size w w'))
     case atStart => exact ⟨(0), er_, H', ⟨Nat.le_refl _⟩, ⟨hd_ HO_564000⟩, ⟨hd_ HO_570000⟩, ⟨bx_ BK563⟩, ⟨bx_ BK569⟩, ⟨bw112_⟩⟩
     case round =>
      clear H'
      obtain ⟨x6_3, rfl, HA, HK3, HO_564000, HO_570000, BK563, BK569, HB⟩ := hrel
      cases gk with
      | zero => exact absurd HA.out (by simp [laws_FnSqueezed.l0])
      | succ k3 =>
       have H := HA.out
       clear HA
       simp only [laws_FnSqueezed.l0] at H
       by_cases c42 : x6_3 < (t565.length : Int)
       rotate_left
       ·rw [if_neg c42] at H
        have c42b0 : decide (x6_3 < (t565.length : Int)) = false := decide_eq_false c42
        clear c42
        obtain ⟨t572, A82, H⟩ := ob_ H
        obtain ⟨t575, A83, H⟩ := ob_ H
        obtain ⟨t578, A84, H⟩ := ob_ H
        obtain rfl := Option.some.inj H
        have hnb85 := NB569_563.out
        have hnc85 := NB563_569.out
        have hcz86_0 := cz_ BK569 0 (.slice Ao23 t565.length co23)
        have hfz86_0 := fz_ BK569 0
        go_wp2
        replace HO_564000 := Aside0.mk (Kd.R_drew HO_564000.out)
        replace HO_570000 := Aside0.mk (Kd.R_drew HO_570000.out)
        replace BK563 := ad_ BK563
        replace BK569 := ad_ BK569
        replace HB := Aside0.mk (below_drew1 HB.out)
        refine start_ (n := 6) (S := fun w' => w'.cell? ⟨gb569, 0, none⟩ = some (.slice Ao23 t565.length co23) ∧ w'.cell? ⟨gb563, 0, none⟩ = some (.slice Ao8 t560.length co8)) (ds := []) ba27_19 (by kernel_rfl) rfl rfl ⟨bq5_ BK569 0, bq5_ BK563 0⟩ (fun hHeld => ?_)
        generalize wr.drew = w87 at HO_564000 HO_570000 BK563 BK569 HB hHeld ⊢
        refine take_ (i := 0) (N := some 66) (v := ?_) (a' := ?_) ba27_20 rfl rfl (by kernel_rfl) (fun _ _ _ h => h) (Or.inl ⟨by rfl, ?_⟩) hHeld ?_ ?_
        rotate_left; · rintro w' ⟨s0, s1⟩; go_simp; with_reducible rfl
        rotate_left; · simp only [Act.put, List.setIfInBounds_toArray, List.set_cons_zero, List.set_cons_succ, i64_w, i32_w]; rfl
        refine take_ (i := 2) (N := some 68) (v := ?_) (a' := ?_) ba27_21 rfl rfl (by kernel_rfl) (fun _ _ _ h => h) (Or.inl ⟨by rfl, ?_⟩) hHeld ?_ ?_
        rotate_left; · rintro w' ⟨s0, s1⟩; go_simp; with_reducible rfl
        rotate_left; · simp only [Act.put, List.setIfInBounds_toArray, List.set_cons_zero, List.set_cons_succ, i64_w, i32_w]; rfl
        refine one_ (i := 1) (N := some 67) ba27_22 rfl rfl (by kernel_rfl) (by decide) (fun K hK => ?_)
        refine gz_ Try.func24 #[.agg #[.slice Ao23 t565.length co23]] ?_
        with_reducible refine (impl_TableSpans.calls k3 _ _ t565 t572 _ ?side1 ?side2 A82.out).mono ?_
        (case side1 => exact rc_ HO_570000)
        (case side2 => exact (Kd.R_reads' HO_570000.out).2.1)
        rintro e w88 ⟨v573, rfl, ho0, hb⟩
        refine ⟨_, rfl, ?_⟩
        have HO574 := Aside0.mk (Kd.R_lower ho0 (bz_ HB))
        replace HO_564000 := rb_ HO_564000 hb
        replace HO_570000 := rb_ HO_570000 hb
        replace BK563 := ab_ BK563 hb
        replace BK569 := ab_ BK569 hb
        replace HB := at_ HB hb
        clear hb ho0
        refine hK.out _ _ ⟨bq5_ BK569 0, bq5_ BK563 0⟩ (fun hHeld => ?_)
        clear hK K
        refine nz_ 67 ?_
        refine one_ (i := 3) (N := some 69) ba27_23 rfl rfl (by kernel_rfl) (by decide) (fun K hK => ?_)
        refine gz_ Try.func24 #[.agg #[.slice Ao8 t560.length co8]] ?_
        with_reducible refine (impl_TableSpans.calls k3 _ _ t560 t575 _ ?side1 ?side2 A83.out).mono ?_
        (case side1 => exact rc_ HO_564000)
        (case side2 => exact (Kd.R_reads' HO_564000.out).2.1)
        rintro e w89 ⟨v576, rfl, ho0, hb⟩
        refine ⟨_, rfl, ?_⟩
        have HO577 := Aside0.mk (Kd.R_lower (Kd.R_new' ho0 (Kd.R_lt (hd_ HO574))) (bz_ HB))
        replace HO_564000 := rb_ HO_564000 hb
        replace HO_570000 := rb_ HO_570000 hb
        replace HO574 := Aside0.mk (Kd.R_elder' (hd_ HO574) (Kd.R_base ho0) hb)
        replace BK563 := ab_ BK563 hb
        replace BK569 := ab_ BK569 hb
        replace HB := at_ HB hb
        clear hb ho0
        obtain ⟨Ao90, co90, eo90⟩ := Kd.R_slice HO574.out
        subst eo90
        obtain ⟨Ao91, co91, eo91⟩ := Kd.R_slice HO577.out
        subst eo91
        refine hK.out _ _ ⟨bq5_ BK569 0, bq5_ BK563 0⟩ (fun hHeld => ?_)
        clear hK K
        refine nz_ 69 ?_
        refine one_ (i := 4) (N := some 70) ba27_24 rfl rfl (by kernel_rfl) (by decide) (fun K hK => ?_)
        refine gz_ Try.func23 #[.slice Ao90 t572.length co90, .slice Ao91 t575.length co91] ?_
        with_reducible refine (laws_same.calls k3 _ _ t572 _ _ t575 t578 _ ?side1 ?side2 ?side3 ?side4 A84.out).mono ?_
        (case side1 => exact rc_ HO574)
        (case side2 => exact (Kd.R_reads' HO574.out).2.1)
        (case side3 => exact rc_ HO577)
        (case side4 => exact (Kd.R_reads' HO577.out).2.1)
        rintro e w' ⟨rfl, ⟨nd, rfl⟩⟩
        refine ⟨_, rfl, ?_⟩
        refine hK.out _ _ ⟨bq5_ BK569 0, bq5_ BK563 0⟩ (fun hHeld => ?_)
        clear hK K
        refine nz_ 70 ?_
        refine pure_ (i := 5) (N := some 2) (v := ?_) (a' := ?_) ba27_25 rfl rfl (by kernel_rfl) (fun _ _ _ h => h) (Or.inl ⟨by rfl, ?_⟩) ?_ ?_
        rotate_left; · intro w'; go_simp; with_reducible rfl
        rotate_left; · simp only [Act.put, List.setIfInBounds_toArray, List.set_cons_zero, List.set_cons_succ, i64_w, i32_w]; rfl
        refine done_ (by kernel_rfl) ?_
        go_wp2
        go_ret
        exact ⟨by first | rfl | (simp [errW_none, errW_some] <;> rfl) | (simp [*, errW_none, errW_some] <;> rfl), bw112_⟩
       rw [if_pos c42] at H
       have c42b0 : decide (x6_3 < (t565.length : Int)) = true := decide_eq_true c42
       clear c42
       obtain ⟨c43b0, H⟩ := iq_ H
       obtain ⟨⟨t580, t583⟩, A44, H⟩ := ob_ H
       by_cases c45 : t583 = true
       rotate_left
       ·replace c45 := Bool.eq_false_iff.mpr c45
        subst c45
        rw [if_neg (show ¬ (false = true) by decide)] at H
        obtain rfl := Option.some.inj H
        have hnb74 := NB569_563.out
        have hnc74 := NB563_569.out
        have hcz75_0 := cz_ BK569 0 (.slice Ao23 t565.length co23)
        have hfz75_0 := fz_ BK569 0
        go_wp2
        replace HO_564000 := Aside0.mk (Kd.R_drew HO_564000.out)
        replace HO_570000 := Aside0.mk (Kd.R_drew HO_570000.out)
        replace BK563 := ad_ BK563
        replace BK569 := ad_ BK569
        replace HB := Aside0.mk (below_drew1 HB.out)
        have p579 : 0 ≤ (x6_3 : Int) := oa_
        have q579 : x6_3 < (t565.length : Int) := oa_
        obtain ⟨ad579, e579, hx579_0, hx579_1, hx579_2⟩ := at_T30 (Kd.R_reads' HO_570000.out).2.2 x6_3 p579 q579
        cases e579
        obtain ⟨p579, q579⟩ := et_ p579 q579
        refine start_ (n := 14) (S := fun w' => w'.cell? ⟨gb569, 0, none⟩ = some (.slice (some ad579) t565.length co23) ∧ w'.cell? (ad579.add ((x6_3).toNat * 3)) = some (.int .i64 ((rd_T30 t565 x6_3).f0.f0)) ∧ w'.cell? ⟨(ad579.add ((x6_3).toNat * 3)).block, (ad579.add ((x6_3).toNat * 3)).off + 1, none⟩ = some (.int .i64 ((rd_T30 t565 x6_3).f0.f1)) ∧ w'.cell? ⟨(ad579.add ((x6_3).toNat * 3)).block, (ad579.add ((x6_3).toNat * 3)).off + 2, none⟩ = some (.int .i64 ((rd_T30 t565 x6_3).f1))) (ds := []) ba27_0 (by kernel_rfl) rfl rfl ⟨bq5_ BK569 0, hx579_0, hx579_1, hx579_2⟩ (fun hHeld => ?_); refine with_tabW laws_FnSqueezed.tab12 laws_FnSqueezed.bits12 (fun HT_ HW_ => ?_)
        generalize wr.drew = w76 at HO_564000 HO_570000 BK563 BK569 HB hx579_0 hx579_1 hx579_2 hHeld ⊢
        refine pz_ 1 50 ba27_1 HT_ ?_
        refine pz_ 3 52 ba27_2 HT_ ?_
        refine pt_ 0 49 ba27_3 HT_ HW_ hHeld ?_
        refine pt_ 2 51 ba27_4 HT_ HW_ hHeld ?_
        refine pz_ 4 53 ba27_5 HT_ ?_
        refine pz_ 5 54 ba27_6 HT_ ?_
        refine pt_ 6 55 ba27_7 HT_ HW_ hHeld ?_
        refine join_ (σ := Value × Nat) 2 ba27_8 (fun s_ => [(56, .tuple #[.agg #[s_.1], .bool false]), (7, .pointer (some ⟨s_.2, 0, none⟩)), (48, .tuple #[.agg #[s_.1], .bool false]), (57, .agg #[s_.1]), (58, .bool false)]) (fun s_ w' => (w'.cell? ⟨gb569, 0, none⟩ = some (.slice (some ad579) t565.length co23) ∧ w'.cell? (ad579.add ((x6_3).toNat * 3)) = some (.int .i64 ((rd_T30 t565 x6_3).f0.f0)) ∧ w'.cell? ⟨(ad579.add ((x6_3).toNat * 3)).block, (ad579.add ((x6_3).toNat * 3)).off + 1, none⟩ = some (.int .i64 ((rd_T30 t565 x6_3).f0.f1)) ∧ w'.cell? ⟨(ad579.add ((x6_3).toNat * 3)).block, (ad579.add ((x6_3).toNat * 3)).off + 2, none⟩ = some (.int .i64 ((rd_T30 t565 x6_3).f1))) ∧ (Kd.R k30 30 w' w.heap.size (fun k_ => some k_ ≠ (.slice Ao8 t560.length co8 : Value).ownBlock ∧ some k_ ≠ (.slice (some ad579) t565.length co23 : Value).ownBlock) s_.1 t580) ∧ (Kd.R k30 30 w' w.heap.size (fun k_ => some k_ ≠ (s_.1 : Value).ownBlock ∧ some k_ ≠ (.slice (some ad579) t565.length co23 : Value).ownBlock) (.slice Ao8 t560.length co8) t560) ∧ (Kd.R k30 30 w' w.heap.size (fun k_ => some k_ ≠ (s_.1 : Value).ownBlock ∧ some k_ ≠ (.slice Ao8 t560.length co8 : Value).ownBlock) (.slice (some ad579) t565.length co23) t565) ∧ (w'.heap[gb563]? = some (.cells #[.slice Ao8 t560.length co8] 26 (0, 0))) ∧ (w'.heap[gb569]? = some (.cells #[.slice (some ad579) t565.length co23] 26 (0, 0))) ∧ (w'.heap[s_.2]? = some (.cells #[.slice none 0 0] 26 (0, 0))) ∧ (w.heap.size ≤ s_.2) ∧ (w.heap.size ≤ s_.2) ∧ (gb563 ≠ s_.2) ∧ (s_.2 ≠ gb563) ∧ (gb569 ≠ s_.2) ∧ (s_.2 ≠ gb569) ∧ (Below w.heap.size w w')) ?_ ?_
        rotate_left
        ·intro hCont
         refine two_ (i := 7) (j := 11) (Ni := some 56) (Nj := some 7) ba27_9 ba27_10 rfl rfl rfl rfl (two_of HT_.out (by kernel_rfl)) (by decide) (by decide) (fun K hK => ?_) (fun K hK => ?_)
         ·skip
          refine gz_ Try.func12 #[.agg #[.slice (some ad579) t565.length co23], .agg #[.int .i64 ((rd_T30 t565 x6_3).f0.f0), .int .i64 ((rd_T30 t565 x6_3).f0.f1)]] ?_
          with_reducible refine (impl_DropRoute.calls k3 _ _ t565 ((rd_T30 t565 x6_3).f0.f0) ((rd_T30 t565 x6_3).f0.f1) t580 false _ ?side1 ?side2 A44.out).mono ?_
          (case side1 => exact rc_ HO_570000)
          (case side2 => exact (Kd.R_reads' HO_570000.out).2.1)
          rintro e w77 ⟨v581, rfl, ho0, hb⟩
          have HS1_ := (hb.cell (World.block_lt_of_cell? _ _ (hHeld.2.1))).trans (hHeld.2.1)
          have HS2_ := (hb.cell (World.block_lt_of_cell? _ _ (hHeld.2.2.1))).trans (hHeld.2.2.1)
          have HS3_ := (hb.cell (World.block_lt_of_cell? _ _ (hHeld.2.2.2))).trans (hHeld.2.2.2)
          refine ⟨_, rfl, ?_⟩
          have HO582 := Aside0.mk (Kd.R_lower (Kd.R_new' (Kd.R_new' ho0 (Kd.R_lt (hd_ HO_564000))) (Kd.R_lt (hd_ HO_570000))) (bz_ HB))
          replace HO_564000 := Aside0.mk (Kd.R_elder' (hd_ HO_564000) (Kd.R_base ho0) hb)
          replace HO_570000 := Aside0.mk (Kd.R_elder' (hd_ HO_570000) (Kd.R_base ho0) hb)
          replace BK563 := ab_ BK563 hb
          replace BK569 := ab_ BK569 hb
          replace HB := at_ HB hb
          clear hb ho0
          refine hK.out _ _ ⟨bq5_ BK569 0, HS1_, HS2_, HS3_⟩ (fun hHeld => ?_)
          clear hK K
          refine nz_ 56 ?_
          refine pz_ 8 48 ba27_11 HT_ ?_
          refine pz_ 9 57 ba27_12 HT_ ?_
          refine pz_ 10 58 ba27_13 HT_ ?_
          refine on_ 11 (some 7) ba27_8 HT_ (fun K hK => ?_)
          refine box_step ?hg (N := 7) ?hd (cs := #[.slice none 0 0]) (t := 26) ?hr ?_; (case hd => rfl); (case hg => rfl); (case hr => first | (go_simp; done) | (go_simp; rfl))
          intro gb584 hg w78 hbox hb
          have HS1_ := (hb.cell (World.block_lt_of_cell? _ _ (hHeld.2.1))).trans (hHeld.2.1)
          have HS2_ := (hb.cell (World.block_lt_of_cell? _ _ (hHeld.2.2.1))).trans (hHeld.2.2.1)
          have HS3_ := (hb.cell (World.block_lt_of_cell? _ _ (hHeld.2.2.2))).trans (hHeld.2.2.2)
          have BK584 := Aside0.mk hbox
          have GW584 := ge_ HB hg
          have GE584 := ge_ HB hg
          have NB563_584 := nl_ BK563 hg
          have NB584_563 := ng_ BK563 hg
          have NB569_584 := nl_ BK569 hg
          have NB584_569 := ng_ BK569 hg
          replace HO_564000 := rb_ HO_564000 hb
          replace HO_570000 := rb_ HO_570000 hb
          replace HO582 := rb_ HO582 hb
          replace HB := at_ HB hb
          replace BK563 := ab_ BK563 hb
          replace BK569 := ab_ BK569 hb
          clear hb hbox hg
          refine hK.out _ _ ⟨bq5_ BK569 0, HS1_, HS2_, HS3_⟩ (fun hHeld => ?_)
          clear hK K
          refine nz_ 7 ?_
          exact norm_ (by simp only [putAll, Act.put, List.setIfInBounds_toArray, List.set_cons_zero, List.set_cons_succ]) (hCont (v581, gb584) _ ⟨hHeld, (by (with_reducible repeat (first | apply Kd.R_alloc | apply Kd.R_drewN | apply Kd.R_drew)); exact Kd.R_mono HO582.out (fun _ hk => by first | exact ⟨hk.1.2, hk.2⟩ | grind)), (by (with_reducible repeat (first | apply Kd.R_alloc | apply Kd.R_drewN | apply Kd.R_drew)); exact Kd.R_mono HO_564000.out (fun _ hk => by first | exact ⟨hk.2, hk.1⟩ | grind)), (by (with_reducible repeat (first | apply Kd.R_alloc | apply Kd.R_drewN | apply Kd.R_drew)); exact Kd.R_mono HO_570000.out (fun _ hk => by first | exact ⟨hk.2, hk.1⟩ | grind)), (bx_ BK563), (bx_ BK569), (bx_ BK584), GW584.out, GE584.out, NB563_584.out, NB584_563.out, NB569_584.out, NB584_569.out, (bw112_)⟩)
         ·skip
          refine box_step ?hg (N := 7) ?hd (cs := #[.slice none 0 0]) (t := 26) ?hr ?_; (case hd => rfl); (case hg => rfl); (case hr => first | (go_simp; done) | (go_simp; rfl))
          intro gb584 hg w77 hbox hb
          have HS1_ := (hb.cell (World.block_lt_of_cell? _ _ (hHeld.2.1))).trans (hHeld.2.1)
          have HS2_ := (hb.cell (World.block_lt_of_cell? _ _ (hHeld.2.2.1))).trans (hHeld.2.2.1)
          have HS3_ := (hb.cell (World.block_lt_of_cell? _ _ (hHeld.2.2.2))).trans (hHeld.2.2.2)
          have BK584 := Aside0.mk hbox
          have GW584 := ge_ HB hg
          have GE584 := ge_ HB hg
          have NB563_584 := nl_ BK563 hg
          have NB584_563 := ng_ BK563 hg
          have NB569_584 := nl_ BK569 hg
          have NB584_569 := ng_ BK569 hg
          replace HO_564000 := rb_ HO_564000 hb
          replace HO_570000 := rb_ HO_570000 hb
          replace HB := at_ HB hb
          replace BK563 := ab_ BK563 hb
          replace BK569 := ab_ BK569 hb
          clear hb hbox hg
          refine hK.out _ _ ⟨bq5_ BK569 0, HS1_, HS2_, HS3_⟩ (fun hHeld => ?_)
          clear hK K
          refine nz_ 7 ?_
          refine on_ 7 (some 56) ba27_14 HT_ (fun K hK => ?_)
          refine gz_ Try.func12 #[.agg #[.slice (some ad579) t565.length co23], .agg #[.int .i64 ((rd_T30 t565 x6_3).f0.f0), .int .i64 ((rd_T30 t565 x6_3).f0.f1)]] ?_
          with_reducible refine (impl_DropRoute.calls k3 _ _ t565 ((rd_T30 t565 x6_3).f0.f0) ((rd_T30 t565 x6_3).f0.f1) t580 false _ ?side1 ?side2 A44.out).mono ?_
          (case side1 => exact rc_ HO_570000)
          (case side2 => exact (Kd.R_reads' HO_570000.out).2.1)
          rintro e w78 ⟨v581, rfl, ho0, hb⟩
          have HS1_ := (hb.cell (World.block_lt_of_cell? _ _ (hHeld.2.1))).trans (hHeld.2.1)
          have HS2_ := (hb.cell (World.block_lt_of_cell? _ _ (hHeld.2.2.1))).trans (hHeld.2.2.1)
          have HS3_ := (hb.cell (World.block_lt_of_cell? _ _ (hHeld.2.2.2))).trans (hHeld.2.2.2)
          refine ⟨_, rfl, ?_⟩
          have HO582 := Aside0.mk (Kd.R_lower (Kd.R_new' (Kd.R_new' ho0 (Kd.R_lt (hd_ HO_564000))) (Kd.R_lt (hd_ HO_570000))) (bz_ HB))
          replace HO_564000 := Aside0.mk (Kd.R_elder' (hd_ HO_564000) (Kd.R_base ho0) hb)
          replace HO_570000 := Aside0.mk (Kd.R_elder' (hd_ HO_570000) (Kd.R_base ho0) hb)
          replace BK563 := ab_ BK563 hb
          replace BK569 := ab_ BK569 hb
          replace BK584 := ab_ BK584 hb
          replace HB := at_ HB hb
          clear hb ho0
          refine hK.out _ _ ⟨bq5_ BK569 0, HS1_, HS2_, HS3_⟩ (fun hHeld => ?_)
          clear hK K
          refine nz_ 56 ?_
          refine pz_ 8 48 ba27_15 HT_ ?_
          refine pz_ 9 57 ba27_16 HT_ ?_
          refine pz_ 10 58 ba27_8 HT_ ?_
          exact norm_ (by simp only [putAll, Act.put, List.setIfInBounds_toArray, List.set_cons_zero, List.set_cons_succ]) (hCont (v581, gb584) _ ⟨hHeld, (by (with_reducible repeat (first | apply Kd.R_alloc | apply Kd.R_drewN | apply Kd.R_drew)); exact Kd.R_mono HO582.out (fun _ hk => by first | exact ⟨hk.1.2, hk.2⟩ | grind)), (by (with_reducible repeat (first | apply Kd.R_alloc | apply Kd.R_drewN | apply Kd.R_drew)); exact Kd.R_mono HO_564000.out (fun _ hk => by first | exact ⟨hk.2, hk.1⟩ | grind)), (by (with_reducible repeat (first | apply Kd.R_alloc | apply Kd.R_drewN | apply Kd.R_drew)); exact Kd.R_mono HO_570000.out (fun _ hk => by first | exact ⟨hk.2, hk.1⟩ | grind)), (bx_ BK563), (bx_ BK569), (bx_ BK584), GW584.out, GE584.out, NB563_584.out, NB584_563.out, NB569_584.out, NB584_569.out, (bw112_)⟩)
        rintro ⟨v581, gb584⟩ w79 ⟨hS_, h0_, h1_, h2_, h3_, h4_, h5_, h6_, h7_, h8_, h9_, h10_, h11_, h12_⟩
        have HO582 : Aside0 (Kd.R k30 30 w79 w.heap.size (fun k_ => some k_ ≠ (.slice Ao8 t560.length co8 : Value).ownBlock ∧ some k_ ≠ (.slice (some ad579) t565.length co23 : Value).ownBlock) v581 t580) := ⟨h0_⟩
        have BK584 : Aside0 (w79.heap[gb584]? = some (.cells #[.slice none 0 0] 26 (0, 0))) := ⟨h5_⟩
        have GW584 : Aside0 (w.heap.size ≤ gb584) := ⟨h6_⟩
        have GE584 : Aside0 (w.heap.size ≤ gb584) := ⟨h7_⟩
        have NB563_584 : Aside0 (gb563 ≠ gb584) := ⟨h8_⟩
        have NB584_563 : Aside0 (gb584 ≠ gb563) := ⟨h9_⟩
        have NB569_584 : Aside0 (gb569 ≠ gb584) := ⟨h10_⟩
        have NB584_569 : Aside0 (gb584 ≠ gb569) := ⟨h11_⟩
        replace HO_564000 : Aside0 (Kd.R k30 30 w79 w.heap.size (fun k_ => some k_ ≠ (v581 : Value).ownBlock ∧ some k_ ≠ (.slice (some ad579) t565.length co23 : Value).ownBlock) (.slice Ao8 t560.length co8) t560) := ⟨h1_⟩
        replace HO_570000 : Aside0 (Kd.R k30 30 w79 w.heap.size (fun k_ => some k_ ≠ (v581 : Value).ownBlock ∧ some k_ ≠ (.slice Ao8 t560.length co8 : Value).ownBlock) (.slice (some ad579) t565.length co23) t565) := ⟨h2_⟩
        replace BK563 : Aside0 (w79.heap[gb563]? = some (.cells #[.slice Ao8 t560.length co8] 26 (0, 0))) := ⟨h3_⟩
        replace BK569 : Aside0 (w79.heap[gb569]? = some (.cells #[.slice (some ad579) t565.length co23] 26 (0, 0))) := ⟨h4_⟩
        replace HB : Aside0 (Below w.heap.size w w79) := ⟨h12_⟩
        clear h0_ h1_ h2_ h3_ h4_ h5_ h6_ h7_ h8_ h9_ h10_ h11_ h12_
        have hHeld : w79.cell? ⟨gb569, 0, none⟩ = some (.slice (some ad579) t565.length co23) ∧ w79.cell? (ad579.add ((x6_3).toNat * 3)) = some (.int .i64 ((rd_T30 t565 x6_3).f0.f0)) ∧ w79.cell? ⟨(ad579.add ((x6_3).toNat * 3)).block, (ad579.add ((x6_3).toNat * 3)).off + 1, none⟩ = some (.int .i64 ((rd_T30 t565 x6_3).f0.f1)) ∧ w79.cell? ⟨(ad579.add ((x6_3).toNat * 3)).block, (ad579.add ((x6_3).toNat * 3)).off + 2, none⟩ = some (.int .i64 ((rd_T30 t565 x6_3).f1)) := hS_
        obtain ⟨Ao80, co80, eo80⟩ := Kd.R_slice HO582.out
        subst eo80
        refine norm_ (a' := ?_) ?_ ?_
        rotate_left; · simp only [putAll, Act.put, List.setIfInBounds_toArray, List.set_cons_zero, List.set_cons_succ]; rfl
        refine on_ 12 none ba27_17 HT_ (fun K hK => ?_)
        have hs81 : w79.cell? ⟨gb584, 0, none⟩ = some (.slice none 0 0) := bq5_ BK584 0
        have hfs81 := fz_ BK584 0
        have hns81_0 := NB563_584.out
        have hns81_1 := NB569_584.out
        have hms81_0 := NB584_563.out
        have hms81_1 := NB584_569.out
        refine skip_ (w1 := ?_) (by rfl) rfl ?_ ?_
        rotate_left; · go_simp; rfl
        refine hK.out _ _ ⟨((cell_far (p := ⟨gb584, _, none⟩) NB569_584.out _).trans (hHeld.1)), ((cell_far (p := ⟨gb584, _, none⟩) (by first | exact Kd.own_blk (Kd.R_ne HO_570000.out BK584.out (by decide)) | (rw [add_block]; exact Kd.own_blk (Kd.R_ne HO_570000.out BK584.out (by decide))) | (show (Addr.add _ _).block ≠ _; rw [add_block]; exact Kd.own_blk (Kd.R_ne HO_570000.out BK584.out (by decide))) | (dsimp only; exact Kd.own_blk (Kd.R_ne HO_570000.out BK584.out (by decide)))) _).trans (hHeld.2.1)), ((cell_far (p := ⟨gb584, _, none⟩) (by first | exact Kd.own_blk (Kd.R_ne HO_570000.out BK584.out (by decide)) | (rw [add_block]; exact Kd.own_blk (Kd.R_ne HO_570000.out BK584.out (by decide))) | (show (Addr.add _ _).block ≠ _; rw [add_block]; exact Kd.own_blk (Kd.R_ne HO_570000.out BK584.out (by decide))) | (dsimp only; exact Kd.own_blk (Kd.R_ne HO_570000.out BK584.out (by decide)))) _).trans (hHeld.2.2.1)), ((cell_far (p := ⟨gb584, _, none⟩) (by first | exact Kd.own_blk (Kd.R_ne HO_570000.out BK584.out (by decide)) | (rw [add_block]; exact Kd.own_blk (Kd.R_ne HO_570000.out BK584.out (by decide))) | (show (Addr.add _ _).block ≠ _; rw [add_block]; exact Kd.own_blk (Kd.R_ne HO_570000.out BK584.out (by decide))) | (dsimp only; exact Kd.own_blk (Kd.R_ne HO_570000.out BK584.out (by decide)))) _).trans (hHeld.2.2.2))⟩ (fun hHeld => ?_)
        clear hK K
        refine pz_ 13 8 ba27_18 HT_ ?_
        refine done_ (done_of HT_.out (by kernel_rfl)) ?_
        go_wp2
        go_ret
        exact ⟨by first | rfl | (simp [errW_none, errW_some] <;> rfl) | (simp [*, errW_none, errW_some] <;> rfl), bw112_⟩
       subst c45
       rw [if_pos rfl] at H
       obtain ⟨t585, A46, H⟩ := ob_ H
       by_cases c47 : t585 = true
       ·subst c47
        rw [if_pos rfl] at H
        obtain rfl := Option.some.inj H
        have hnb48 := NB569_563.out
        have hnc48 := NB563_569.out
        have hcz49_0 := cz_ BK569 0 (.slice Ao23 t565.length co23)
        have hfz49_0 := fz_ BK569 0
        go_wp2
        replace HO_564000 := Aside0.mk (Kd.R_drew HO_564000.out)
        replace HO_570000 := Aside0.mk (Kd.R_drew HO_570000.out)
        replace BK563 := ad_ BK563
        replace BK569 := ad_ BK569
        replace HB := Aside0.mk (below_drew1 HB.out)
        have p579 : 0 ≤ (x6_3 : Int) := oa_
        have q579 : x6_3 < (t565.length : Int) := oa_
        obtain ⟨ad579, e579, hx579_0, hx579_1, hx579_2⟩ := at_T30 (Kd.R_reads' HO_570000.out).2.2 x6_3 p579 q579
        cases e579
        obtain ⟨p579, q579⟩ := et_ p579 q579
        refine start_ (n := 14) (S := fun w' => w'.cell? ⟨gb569, 0, none⟩ = some (.slice (some ad579) t565.length co23) ∧ w'.cell? (ad579.add ((x6_3).toNat * 3)) = some (.int .i64 ((rd_T30 t565 x6_3).f0.f0)) ∧ w'.cell? ⟨(ad579.add ((x6_3).toNat * 3)).block, (ad579.add ((x6_3).toNat * 3)).off + 1, none⟩ = some (.int .i64 ((rd_T30 t565 x6_3).f0.f1)) ∧ w'.cell? ⟨(ad579.add ((x6_3).toNat * 3)).block, (ad579.add ((x6_3).toNat * 3)).off + 2, none⟩ = some (.int .i64 ((rd_T30 t565 x6_3).f1))) (ds := []) ba27_0 (by kernel_rfl) rfl rfl ⟨bq5_ BK569 0, hx579_0, hx579_1, hx579_2⟩ (fun hHeld => ?_); refine with_tabW laws_FnSqueezed.tab12 laws_FnSqueezed.bits12 (fun HT_ HW_ => ?_)
        generalize wr.drew = w50 at HO_564000 HO_570000 BK563 BK569 HB hx579_0 hx579_1 hx579_2 hHeld ⊢
        refine pz_ 1 50 ba27_1 HT_ ?_
        refine pz_ 3 52 ba27_2 HT_ ?_
        refine pt_ 0 49 ba27_3 HT_ HW_ hHeld ?_
        refine pt_ 2 51 ba27_4 HT_ HW_ hHeld ?_
        refine pz_ 4 53 ba27_5 HT_ ?_
        refine pz_ 5 54 ba27_6 HT_ ?_
        refine pt_ 6 55 ba27_7 HT_ HW_ hHeld ?_
        refine join_ (σ := Value × Nat) 2 ba27_8 (fun s_ => [(56, .tuple #[.agg #[s_.1], .bool true]), (7, .pointer (some ⟨s_.2, 0, none⟩)), (48, .tuple #[.agg #[s_.1], .bool true]), (57, .agg #[s_.1]), (58, .bool true)]) (fun s_ w' => (w'.cell? ⟨gb569, 0, none⟩ = some (.slice (some ad579) t565.length co23) ∧ w'.cell? (ad579.add ((x6_3).toNat * 3)) = some (.int .i64 ((rd_T30 t565 x6_3).f0.f0)) ∧ w'.cell? ⟨(ad579.add ((x6_3).toNat * 3)).block, (ad579.add ((x6_3).toNat * 3)).off + 1, none⟩ = some (.int .i64 ((rd_T30 t565 x6_3).f0.f1)) ∧ w'.cell? ⟨(ad579.add ((x6_3).toNat * 3)).block, (ad579.add ((x6_3).toNat * 3)).off + 2, none⟩ = some (.int .i64 ((rd_T30 t565 x6_3).f1))) ∧ (Kd.R k30 30 w' w.heap.size (fun k_ => some k_ ≠ (.slice Ao8 t560.length co8 : Value).ownBlock ∧ some k_ ≠ (.slice (some ad579) t565.length co23 : Value).ownBlock) s_.1 t580) ∧ (Kd.R k30 30 w' w.heap.size (fun k_ => some k_ ≠ (s_.1 : Value).ownBlock ∧ some k_ ≠ (.slice (some ad579) t565.length co23 : Value).ownBlock) (.slice Ao8 t560.length co8) t560) ∧ (Kd.R k30 30 w' w.heap.size (fun k_ => some k_ ≠ (s_.1 : Value).ownBlock ∧ some k_ ≠ (.slice Ao8 t560.length co8 : Value).ownBlock) (.slice (some ad579) t565.length co23) t565) ∧ (w'.heap[gb563]? = some (.cells #[.slice Ao8 t560.length co8] 26 (0, 0))) ∧ (w'.heap[gb569]? = some (.cells #[.slice (some ad579) t565.length co23] 26 (0, 0))) ∧ (w'.heap[s_.2]? = some (.cells #[.slice none 0 0] 26 (0, 0))) ∧ (w.heap.size ≤ s_.2) ∧ (w.heap.size ≤ s_.2) ∧ (gb563 ≠ s_.2) ∧ (s_.2 ≠ gb563) ∧ (gb569 ≠ s_.2) ∧ (s_.2 ≠ gb569) ∧ (Below w.heap.size w w')) ?_ ?_
        rotate_left
        ·intro hCont
         refine two_ (i := 7) (j := 11) (Ni := some 56) (Nj := some 7) ba27_9 ba27_10 rfl rfl rfl rfl (two_of HT_.out (by kernel_rfl)) (by decide) (by decide) (fun K hK => ?_) (fun K hK => ?_)
         ·skip
          refine gz_ Try.func12 #[.agg #[.slice (some ad579) t565.length co23], .agg #[.int .i64 ((rd_T30 t565 x6_3).f0.f0), .int .i64 ((rd_T30 t565 x6_3).f0.f1)]] ?_
          with_reducible refine (impl_DropRoute.calls k3 _ _ t565 ((rd_T30 t565 x6_3).f0.f0) ((rd_T30 t565 x6_3).f0.f1) t580 true _ ?side1 ?side2 A44.out).mono ?_
          (case side1 => exact rc_ HO_570000)
          (case side2 => exact (Kd.R_reads' HO_570000.out).2.1)
          rintro e w51 ⟨v581, rfl, ho0, hb⟩
          have HS1_ := (hb.cell (World.block_lt_of_cell? _ _ (hHeld.2.1))).trans (hHeld.2.1)
          have HS2_ := (hb.cell (World.block_lt_of_cell? _ _ (hHeld.2.2.1))).trans (hHeld.2.2.1)
          have HS3_ := (hb.cell (World.block_lt_of_cell? _ _ (hHeld.2.2.2))).trans (hHeld.2.2.2)
          refine ⟨_, rfl, ?_⟩
          have HO582 := Aside0.mk (Kd.R_lower (Kd.R_new' (Kd.R_new' ho0 (Kd.R_lt (hd_ HO_564000))) (Kd.R_lt (hd_ HO_570000))) (bz_ HB))
          replace HO_564000 := Aside0.mk (Kd.R_elder' (hd_ HO_564000) (Kd.R_base ho0) hb)
          replace HO_570000 := Aside0.mk (Kd.R_elder' (hd_ HO_570000) (Kd.R_base ho0) hb)
          replace BK563 := ab_ BK563 hb
          replace BK569 := ab_ BK569 hb
          replace HB := at_ HB hb
          clear hb ho0
          refine hK.out _ _ ⟨bq5_ BK569 0, HS1_, HS2_, HS3_⟩ (fun hHeld => ?_)
          clear hK K
          refine nz_ 56 ?_
          refine pz_ 8 48 ba27_11 HT_ ?_
          refine pz_ 9 57 ba27_12 HT_ ?_
          refine pz_ 10 58 ba27_13 HT_ ?_
          refine on_ 11 (some 7) ba27_8 HT_ (fun K hK => ?_)
          refine box_step ?hg (N := 7) ?hd (cs := #[.slice none 0 0]) (t := 26) ?hr ?_; (case hd => rfl); (case hg => rfl); (case hr => first | (go_simp; done) | (go_simp; rfl))
          intro gb584 hg w52 hbox hb
          have HS1_ := (hb.cell (World.block_lt_of_cell? _ _ (hHeld.2.1))).trans (hHeld.2.1)
          have HS2_ := (hb.cell (World.block_lt_of_cell? _ _ (hHeld.2.2.1))).trans (hHeld.2.2.1)
          have HS3_ := (hb.cell (World.block_lt_of_cell? _ _ (hHeld.2.2.2))).trans (hHeld.2.2.2)
          have BK584 := Aside0.mk hbox
          have GW584 := ge_ HB hg
          have GE584 := ge_ HB hg
          have NB563_584 := nl_ BK563 hg
          have NB584_563 := ng_ BK563 hg
          have NB569_584 := nl_ BK569 hg
          have NB584_569 := ng_ BK569 hg
          replace HO_564000 := rb_ HO_564000 hb
          replace HO_570000 := rb_ HO_570000 hb
          replace HO582 := rb_ HO582 hb
          replace HB := at_ HB hb
          replace BK563 := ab_ BK563 hb
          replace BK569 := ab_ BK569 hb
          clear hb hbox hg
          refine hK.out _ _ ⟨bq5_ BK569 0, HS1_, HS2_, HS3_⟩ (fun hHeld => ?_)
          clear hK K
          refine nz_ 7 ?_
          exact norm_ (by simp only [putAll, Act.put, List.setIfInBounds_toArray, List.set_cons_zero, List.set_cons_succ]) (hCont (v581, gb584) _ ⟨hHeld, (by (with_reducible repeat (first | apply Kd.R_alloc | apply Kd.R_drewN | apply Kd.R_drew)); exact Kd.R_mono HO582.out (fun _ hk => by first | exact ⟨hk.1.2, hk.2⟩ | grind)), (by (with_reducible repeat (first | apply Kd.R_alloc | apply Kd.R_drewN | apply Kd.R_drew)); exact Kd.R_mono HO_564000.out (fun _ hk => by first | exact ⟨hk.2, hk.1⟩ | grind)), (by (with_reducible repeat (first | apply Kd.R_alloc | apply Kd.R_drewN | apply Kd.R_drew)); exact Kd.R_mono HO_570000.out (fun _ hk => by first | exact ⟨hk.2, hk.1⟩ | grind)), (bx_ BK563), (bx_ BK569), (bx_ BK584), GW584.out, GE584.out, NB563_584.out, NB584_563.out, NB569_584.out, NB584_569.out, (bw112_)⟩)
         ·skip
          refine box_step ?hg (N := 7) ?hd (cs := #[.slice none 0 0]) (t := 26) ?hr ?_; (case hd => rfl); (case hg => rfl); (case hr => first | (go_simp; done) | (go_simp; rfl))
          intro gb584 hg w51 hbox hb
          have HS1_ := (hb.cell (World.block_lt_of_cell? _ _ (hHeld.2.1))).trans (hHeld.2.1)
          have HS2_ := (hb.cell (World.block_lt_of_cell? _ _ (hHeld.2.2.1))).trans (hHeld.2.2.1)
          have HS3_ := (hb.cell (World.block_lt_of_cell? _ _ (hHeld.2.2.2))).trans (hHeld.2.2.2)
          have BK584 := Aside0.mk hbox
          have GW584 := ge_ HB hg
          have GE584 := ge_ HB hg
          have NB563_584 := nl_ BK563 hg
          have NB584_563 := ng_ BK563 hg
          have NB569_584 := nl_ BK569 hg
          have NB584_569 := ng_ BK569 hg
          replace HO_564000 := rb_ HO_564000 hb
          replace HO_570000 := rb_ HO_570000 hb
          replace HB := at_ HB hb
          replace BK563 := ab_ BK563 hb
          replace BK569 := ab_ BK569 hb
          clear hb hbox hg
          refine hK.out _ _ ⟨bq5_ BK569 0, HS1_, HS2_, HS3_⟩ (fun hHeld => ?_)
          clear hK K
          refine nz_ 7 ?_
          refine on_ 7 (some 56) ba27_14 HT_ (fun K hK => ?_)
          refine gz_ Try.func12 #[.agg #[.slice (some ad579) t565.length co23], .agg #[.int .i64 ((rd_T30 t565 x6_3).f0.f0), .int .i64 ((rd_T30 t565 x6_3).f0.f1)]] ?_
          with_reducible refine (impl_DropRoute.calls k3 _ _ t565 ((rd_T30 t565 x6_3).f0.f0) ((rd_T30 t565 x6_3).f0.f1) t580 true _ ?side1 ?side2 A44.out).mono ?_
          (case side1 => exact rc_ HO_570000)
          (case side2 => exact (Kd.R_reads' HO_570000.out).2.1)
          rintro e w52 ⟨v581, rfl, ho0, hb⟩
          have HS1_ := (hb.cell (World.block_lt_of_cell? _ _ (hHeld.2.1))).trans (hHeld.2.1)
          have HS2_ := (hb.cell (World.block_lt_of_cell? _ _ (hHeld.2.2.1))).trans (hHeld.2.2.1)
          have HS3_ := (hb.cell (World.block_lt_of_cell? _ _ (hHeld.2.2.2))).trans (hHeld.2.2.2)
          refine ⟨_, rfl, ?_⟩
          have HO582 := Aside0.mk (Kd.R_lower (Kd.R_new' (Kd.R_new' ho0 (Kd.R_lt (hd_ HO_564000))) (Kd.R_lt (hd_ HO_570000))) (bz_ HB))
          replace HO_564000 := Aside0.mk (Kd.R_elder' (hd_ HO_564000) (Kd.R_base ho0) hb)
          replace HO_570000 := Aside0.mk (Kd.R_elder' (hd_ HO_570000) (Kd.R_base ho0) hb)
          replace BK563 := ab_ BK563 hb
          replace BK569 := ab_ BK569 hb
          replace BK584 := ab_ BK584 hb
          replace HB := at_ HB hb
          clear hb ho0
          refine hK.out _ _ ⟨bq5_ BK569 0, HS1_, HS2_, HS3_⟩ (fun hHeld => ?_)
          clear hK K
          refine nz_ 56 ?_
          refine pz_ 8 48 ba27_15 HT_ ?_
          refine pz_ 9 57 ba27_16 HT_ ?_
          refine pz_ 10 58 ba27_8 HT_ ?_
          exact norm_ (by simp only [putAll, Act.put, List.setIfInBounds_toArray, List.set_cons_zero, List.set_cons_succ]) (hCont (v581, gb584) _ ⟨hHeld, (by (with_reducible repeat (first | apply Kd.R_alloc | apply Kd.R_drewN | apply Kd.R_drew)); exact Kd.R_mono HO582.out (fun _ hk => by first | exact ⟨hk.1.2, hk.2⟩ | grind)), (by (with_reducible repeat (first | apply Kd.R_alloc | apply Kd.R_drewN | apply Kd.R_drew)); exact Kd.R_mono HO_564000.out (fun _ hk => by first | exact ⟨hk.2, hk.1⟩ | grind)), (by (with_reducible repeat (first | apply Kd.R_alloc | apply Kd.R_drewN | apply Kd.R_drew)); exact Kd.R_mono HO_570000.out (fun _ hk => by first | exact ⟨hk.2, hk.1⟩ | grind)), (bx_ BK563), (bx_ BK569), (bx_ BK584), GW584.out, GE584.out, NB563_584.out, NB584_563.out, NB569_584.out, NB584_569.out, (bw112_)⟩)
        rintro ⟨v581, gb584⟩ w53 ⟨hS_, h0_, h1_, h2_, h3_, h4_, h5_, h6_, h7_, h8_, h9_, h10_, h11_, h12_⟩
        have HO582 : Aside0 (Kd.R k30 30 w53 w.heap.size (fun k_ => some k_ ≠ (.slice Ao8 t560.length co8 : Value).ownBlock ∧ some k_ ≠ (.slice (some ad579) t565.length co23 : Value).ownBlock) v581 t580) := ⟨h0_⟩
        have BK584 : Aside0 (w53.heap[gb584]? = some (.cells #[.slice none 0 0] 26 (0, 0))) := ⟨h5_⟩
        have GW584 : Aside0 (w.heap.size ≤ gb584) := ⟨h6_⟩
        have GE584 : Aside0 (w.heap.size ≤ gb584) := ⟨h7_⟩
        have NB563_584 : Aside0 (gb563 ≠ gb584) := ⟨h8_⟩
        have NB584_563 : Aside0 (gb584 ≠ gb563) := ⟨h9_⟩
        have NB569_584 : Aside0 (gb569 ≠ gb584) := ⟨h10_⟩
        have NB584_569 : Aside0 (gb584 ≠ gb569) := ⟨h11_⟩
        replace HO_564000 : Aside0 (Kd.R k30 30 w53 w.heap.size (fun k_ => some k_ ≠ (v581 : Value).ownBlock ∧ some k_ ≠ (.slice (some ad579) t565.length co23 : Value).ownBlock) (.slice Ao8 t560.length co8) t560) := ⟨h1_⟩
        replace HO_570000 : Aside0 (Kd.R k30 30 w53 w.heap.size (fun k_ => some k_ ≠ (v581 : Value).ownBlock ∧ some k_ ≠ (.slice Ao8 t560.length co8 : Value).ownBlock) (.slice (some ad579) t565.length co23) t565) := ⟨h2_⟩
        replace BK563 : Aside0 (w53.heap[gb563]? = some (.cells #[.slice Ao8 t560.length co8] 26 (0, 0))) := ⟨h3_⟩
        replace BK569 : Aside0 (w53.heap[gb569]? = some (.cells #[.slice (some ad579) t565.length co23] 26 (0, 0))) := ⟨h4_⟩
        replace HB : Aside0 (Below w.heap.size w w53) := ⟨h12_⟩
        clear h0_ h1_ h2_ h3_ h4_ h5_ h6_ h7_ h8_ h9_ h10_ h11_ h12_
        have hHeld : w53.cell? ⟨gb569, 0, none⟩ = some (.slice (some ad579) t565.length co23) ∧ w53.cell? (ad579.add ((x6_3).toNat * 3)) = some (.int .i64 ((rd_T30 t565 x6_3).f0.f0)) ∧ w53.cell? ⟨(ad579.add ((x6_3).toNat * 3)).block, (ad579.add ((x6_3).toNat * 3)).off + 1, none⟩ = some (.int .i64 ((rd_T30 t565 x6_3).f0.f1)) ∧ w53.cell? ⟨(ad579.add ((x6_3).toNat * 3)).block, (ad579.add ((x6_3).toNat * 3)).off + 2, none⟩ = some (.int .i64 ((rd_T30 t565 x6_3).f1)) := hS_
        obtain ⟨Ao54, co54, eo54⟩ := Kd.R_slice HO582.out
        subst eo54
        refine norm_ (a' := ?_) ?_ ?_
        rotate_left; · simp only [putAll, Act.put, List.setIfInBounds_toArray, List.set_cons_zero, List.set_cons_succ]; rfl
        refine on_ 12 none ba27_17 HT_ (fun K hK => ?_)
        have hs55 : w53.cell? ⟨gb584, 0, none⟩ = some (.slice none 0 0) := bq5_ BK584 0
        have hfs55 := fz_ BK584 0
        have hns55_0 := NB563_584.out
        have hns55_1 := NB569_584.out
        have hms55_0 := NB584_563.out
        have hms55_1 := NB584_569.out
        refine skip_ (w1 := ?_) (by rfl) rfl ?_ ?_
        rotate_left; · go_simp; rfl
        refine hK.out _ _ ⟨((cell_far (p := ⟨gb584, _, none⟩) NB569_584.out _).trans (hHeld.1)), ((cell_far (p := ⟨gb584, _, none⟩) (by first | exact Kd.own_blk (Kd.R_ne HO_570000.out BK584.out (by decide)) | (rw [add_block]; exact Kd.own_blk (Kd.R_ne HO_570000.out BK584.out (by decide))) | (show (Addr.add _ _).block ≠ _; rw [add_block]; exact Kd.own_blk (Kd.R_ne HO_570000.out BK584.out (by decide))) | (dsimp only; exact Kd.own_blk (Kd.R_ne HO_570000.out BK584.out (by decide)))) _).trans (hHeld.2.1)), ((cell_far (p := ⟨gb584, _, none⟩) (by first | exact Kd.own_blk (Kd.R_ne HO_570000.out BK584.out (by decide)) | (rw [add_block]; exact Kd.own_blk (Kd.R_ne HO_570000.out BK584.out (by decide))) | (show (Addr.add _ _).block ≠ _; rw [add_block]; exact Kd.own_blk (Kd.R_ne HO_570000.out BK584.out (by decide))) | (dsimp only; exact Kd.own_blk (Kd.R_ne HO_570000.out BK584.out (by decide)))) _).trans (hHeld.2.2.1)), ((cell_far (p := ⟨gb584, _, none⟩) (by first | exact Kd.own_blk (Kd.R_ne HO_570000.out BK584.out (by decide)) | (rw [add_block]; exact Kd.own_blk (Kd.R_ne HO_570000.out BK584.out (by decide))) | (show (Addr.add _ _).block ≠ _; rw [add_block]; exact Kd.own_blk (Kd.R_ne HO_570000.out BK584.out (by decide))) | (dsimp only; exact Kd.own_blk (Kd.R_ne HO_570000.out BK584.out (by decide)))) _).trans (hHeld.2.2.2))⟩ (fun hHeld => ?_)
        clear hK K
        refine pz_ 13 8 ba27_18 HT_ ?_
        refine done_ (done_of HT_.out (by kernel_rfl)) ?_
        have hnb56 := NB584_563.out
        have hnc56 := NB563_584.out
        have hnb57 := NB584_569.out
        have hnc57 := NB569_584.out
        have hcz58_0 := cz_ BK584 0 (.slice none 0 0)
        have hfz58_0 := fz_ BK584 0
        have hcz59_0 := cz_ BK569 0 (.slice (some ad579) t565.length co23)
        have hfz59_0 := fz_ BK569 0
        try go_wp2_with (first | (go_at_call 22; (with_reducible refine (spec_SameTable.calls k3 _ _ t580 _ _ t565 true _ ?side1 ?side2 ?side3 ?side4 A46.out).mono ?_); (case side1 => refine (Kd.R_reads' (e := 30) (base := w.heap.size) (ok := fun k_ => (some k_ ≠ (.slice Ao8 t560.length co8 : Value).ownBlock ∧ some k_ ≠ (.slice (some ad579) t565.length co23 : Value).ownBlock)) (n := t580.length) (c := co54) ?_).2.2; exact (hs_ HO582 BK584)); (case side2 => exact (Kd.R_reads' HO582.out).2.1); (case side3 => refine (Kd.R_reads' (e := 30) (base := w.heap.size) (ok := fun k_ => (some k_ ≠ (.slice Ao54 t580.length co54 : Value).ownBlock ∧ some k_ ≠ (.slice Ao8 t560.length co8 : Value).ownBlock)) (n := t565.length) (c := co23) ?_).2.2; exact (hs_ HO_570000 BK584)); (case side4 => exact (Kd.R_reads' HO_570000.out).2.1); rintro e w60 ⟨rfl, hb⟩; replace HO_564000 := rs_ HO_564000 BK584 hb; replace HO_570000 := rs_ HO_570000 BK584 hb; replace HO582 := rs_ HO582 BK584 hb; replace BK563 := bf_ BK563 NB563_584 hb; replace BK569 := bf_ BK569 NB569_584 hb; replace BK584 := Aside0.mk (blk_below (g := gb584) (o := .cells #[.slice Ao54 t580.length co54] 26 (0, 0)) (by refine bd_ ?_; refine blk_put (cs := #[.slice none 0 0]) ?_ 0 _ rfl; refine bd_ ?_; exact BK584.out) hb); replace HB := at_ HB hb; clear hb))
        go_ret
        exact ⟨by first | rfl | (simp [errW_none, errW_some] <;> rfl) | (simp [*, errW_none, errW_some] <;> rfl), bw112_⟩
       replace c47 := Bool.eq_false_iff.mpr c47
       subst c47
       rw [if_neg (show ¬ (false = true) by decide)] at H
       have H' := Aside0.mk H
       clear H
       have hnb61 := NB569_563.out
       have hnc61 := NB563_569.out
       have hcz62_0 := cz_ BK569 0 (.slice Ao23 t565.length co23)
       have hfz62_0 := fz_ BK569 0
       go_wp2
       replace HO_564000 := Aside0.mk (Kd.R_drew HO_564000.out)
       replace HO_570000 := Aside0.mk (Kd.R_drew HO_570000.out)
       replace BK563 := ad_ BK563
       replace BK569 := ad_ BK569
       replace HB := Aside0.mk (below_drew1 HB.out)
       have p579 : 0 ≤ (x6_3 : Int) := oa_
       have q579 : x6_3 < (t565.length : Int) := oa_
       obtain ⟨ad579, e579, hx579_0, hx579_1, hx579_2⟩ := at_T30 (Kd.R_reads' HO_570000.out).2.2 x6_3 p579 q579
       cases e579
       obtain ⟨p579, q579⟩ := et_ p579 q579
       refine start_ (n := 14) (S := fun w' => w'.cell? ⟨gb569, 0, none⟩ = some (.slice (some ad579) t565.length co23) ∧ w'.cell? (ad579.add ((x6_3).toNat * 3)) = some (.int .i64 ((rd_T30 t565 x6_3).f0.f0)) ∧ w'.cell? ⟨(ad579.add ((x6_3).toNat * 3)).block, (ad579.add ((x6_3).toNat * 3)).off + 1, none⟩ = some (.int .i64 ((rd_T30 t565 x6_3).f0.f1)) ∧ w'.cell? ⟨(ad579.add ((x6_3).toNat * 3)).block, (ad579.add ((x6_3).toNat * 3)).off + 2, none⟩ = some (.int .i64 ((rd_T30 t565 x6_3).f1))) (ds := []) ba27_0 (by kernel_rfl) rfl rfl ⟨bq5_ BK569 0, hx579_0, hx579_1, hx579_2⟩ (fun hHeld => ?_); refine with_tabW laws_FnSqueezed.tab12 laws_FnSqueezed.bits12 (fun HT_ HW_ => ?_)
       generalize wr.drew = w63 at HO_564000 HO_570000 BK563 BK569 HB hx579_0 hx579_1 hx579_2 hHeld ⊢
       refine pz_ 1 50 ba27_1 HT_ ?_
       refine pz_ 3 52 ba27_2 HT_ ?_
       refine pt_ 0 49 ba27_3 HT_ HW_ hHeld ?_
       refine pt_ 2 51 ba27_4 HT_ HW_ hHeld ?_
       refine pz_ 4 53 ba27_5 HT_ ?_
       refine pz_ 5 54 ba27_6 HT_ ?_
       refine pt_ 6 55 ba27_7 HT_ HW_ hHeld ?_
       refine join_ (σ := Value × Nat) 2 ba27_8 (fun s_ => [(56, .tuple #[.agg #[s_.1], .bool true]), (7, .pointer (some ⟨s_.2, 0, none⟩)), (48, .tuple #[.agg #[s_.1], .bool true]), (57, .agg #[s_.1]), (58, .bool true)]) (fun s_ w' => (w'.cell? ⟨gb569, 0, none⟩ = some (.slice (some ad579) t565.length co23) ∧ w'.cell? (ad579.add ((x6_3).toNat * 3)) = some (.int .i64 ((rd_T30 t565 x6_3).f0.f0)) ∧ w'.cell? ⟨(ad579.add ((x6_3).toNat * 3)).block, (ad579.add ((x6_3).toNat * 3)).off + 1, none⟩ = some (.int .i64 ((rd_T30 t565 x6_3).f0.f1)) ∧ w'.cell? ⟨(ad579.add ((x6_3).toNat * 3)).block, (ad579.add ((x6_3).toNat * 3)).off + 2, none⟩ = some (.int .i64 ((rd_T30 t565 x6_3).f1))) ∧ (Kd.R k30 30 w' w.heap.size (fun k_ => some k_ ≠ (.slice Ao8 t560.length co8 : Value).ownBlock ∧ some k_ ≠ (.slice (some ad579) t565.length co23 : Value).ownBlock) s_.1 t580) ∧ (Kd.R k30 30 w' w.heap.size (fun k_ => some k_ ≠ (s_.1 : Value).ownBlock ∧ some k_ ≠ (.slice (some ad579) t565.length co23 : Value).ownBlock) (.slice Ao8 t560.length co8) t560) ∧ (Kd.R k30 30 w' w.heap.size (fun k_ => some k_ ≠ (s_.1 : Value).ownBlock ∧ some k_ ≠ (.slice Ao8 t560.length co8 : Value).ownBlock) (.slice (some ad579) t565.length co23) t565) ∧ (w'.heap[gb563]? = some (.cells #[.slice Ao8 t560.length co8] 26 (0, 0))) ∧ (w'.heap[gb569]? = some (.cells #[.slice (some ad579) t565.length co23] 26 (0, 0))) ∧ (w'.heap[s_.2]? = some (.cells #[.slice none 0 0] 26 (0, 0))) ∧ (w.heap.size ≤ s_.2) ∧ (w.heap.size ≤ s_.2) ∧ (gb563 ≠ s_.2) ∧ (s_.2 ≠ gb563) ∧ (gb569 ≠ s_.2) ∧ (s_.2 ≠ gb569) ∧ (Below w.heap.size w w')) ?_ ?_
       rotate_left
       ·intro hCont
        refine two_ (i := 7) (j := 11) (Ni := some 56) (Nj := some 7) ba27_9 ba27_10 rfl rfl rfl rfl (two_of HT_.out (by kernel_rfl)) (by decide) (by decide) (fun K hK => ?_) (fun K hK => ?_)
        ·skip
         refine gz_ Try.func12 #[.agg #[.slice (some ad579) t565.length co23], .agg #[.int .i64 ((rd_T30 t565 x6_3).f0.f0), .int .i64 ((rd_T30 t565 x6_3).f0.f1)]] ?_
         with_reducible refine (impl_DropRoute.calls k3 _ _ t565 ((rd_T30 t565 x6_3).f0.f0) ((rd_T30 t565 x6_3).f0.f1) t580 true _ ?side1 ?side2 A44.out).mono ?_
         (case side1 => exact rc_ HO_570000)
         (case side2 => exact (Kd.R_reads' HO_570000.out).2.1)
         rintro e w64 ⟨v581, rfl, ho0, hb⟩
         have HS1_ := (hb.cell (World.block_lt_of_cell? _ _ (hHeld.2.1))).trans (hHeld.2.1)
         have HS2_ := (hb.cell (World.block_lt_of_cell? _ _ (hHeld.2.2.1))).trans (hHeld.2.2.1)
         have HS3_ := (hb.cell (World.block_lt_of_cell? _ _ (hHeld.2.2.2))).trans (hHeld.2.2.2)
         refine ⟨_, rfl, ?_⟩
         have HO582 := Aside0.mk (Kd.R_lower (Kd.R_new' (Kd.R_new' ho0 (Kd.R_lt (hd_ HO_564000))) (Kd.R_lt (hd_ HO_570000))) (bz_ HB))
         replace HO_564000 := Aside0.mk (Kd.R_elder' (hd_ HO_564000) (Kd.R_base ho0) hb)
         replace HO_570000 := Aside0.mk (Kd.R_elder' (hd_ HO_570000) (Kd.R_base ho0) hb)
         replace BK563 := ab_ BK563 hb
         replace BK569 := ab_ BK569 hb
         replace HB := at_ HB hb
         clear hb ho0
         refine hK.out _ _ ⟨bq5_ BK569 0, HS1_, HS2_, HS3_⟩ (fun hHeld => ?_)
         clear hK K
         refine nz_ 56 ?_
         refine pz_ 8 48 ba27_11 HT_ ?_
         refine pz_ 9 57 ba27_12 HT_ ?_
         refine pz_ 10 58 ba27_13 HT_ ?_
         refine on_ 11 (some 7) ba27_8 HT_ (fun K hK => ?_)
         refine box_step ?hg (N := 7) ?hd (cs := #[.slice none 0 0]) (t := 26) ?hr ?_; (case hd => rfl); (case hg => rfl); (case hr => first | (go_simp; done) | (go_simp; rfl))
         intro gb584 hg w65 hbox hb
         have HS1_ := (hb.cell (World.block_lt_of_cell? _ _ (hHeld.2.1))).trans (hHeld.2.1)
         have HS2_ := (hb.cell (World.block_lt_of_cell? _ _ (hHeld.2.2.1))).trans (hHeld.2.2.1)
         have HS3_ := (hb.cell (World.block_lt_of_cell? _ _ (hHeld.2.2.2))).trans (hHeld.2.2.2)
         have BK584 := Aside0.mk hbox
         have GW584 := ge_ HB hg
         have GE584 := ge_ HB hg
         have NB563_584 := nl_ BK563 hg
         have NB584_563 := ng_ BK563 hg
         have NB569_584 := nl_ BK569 hg
         have NB584_569 := ng_ BK569 hg
         replace HO_564000 := rb_ HO_564000 hb
         replace HO_570000 := rb_ HO_570000 hb
         replace HO582 := rb_ HO582 hb
         replace HB := at_ HB hb
         replace BK563 := ab_ BK563 hb
         replace BK569 := ab_ BK569 hb
         clear hb hbox hg
         refine hK.out _ _ ⟨bq5_ BK569 0, HS1_, HS2_, HS3_⟩ (fun hHeld => ?_)
         clear hK K
         refine nz_ 7 ?_
         exact norm_ (by simp only [putAll, Act.put, List.setIfInBounds_toArray, List.set_cons_zero, List.set_cons_succ]) (hCont (v581, gb584) _ ⟨hHeld, (by (with_reducible repeat (first | apply Kd.R_alloc | apply Kd.R_drewN | apply Kd.R_drew)); exact Kd.R_mono HO582.out (fun _ hk => by first | exact ⟨hk.1.2, hk.2⟩ | grind)), (by (with_reducible repeat (first | apply Kd.R_alloc | apply Kd.R_drewN | apply Kd.R_drew)); exact Kd.R_mono HO_564000.out (fun _ hk => by first | exact ⟨hk.2, hk.1⟩ | grind)), (by (with_reducible repeat (first | apply Kd.R_alloc | apply Kd.R_drewN | apply Kd.R_drew)); exact Kd.R_mono HO_570000.out (fun _ hk => by first | exact ⟨hk.2, hk.1⟩ | grind)), (bx_ BK563), (bx_ BK569), (bx_ BK584), GW584.out, GE584.out, NB563_584.out, NB584_563.out, NB569_584.out, NB584_569.out, (bw112_)⟩)
        ·skip
         refine box_step ?hg (N := 7) ?hd (cs := #[.slice none 0 0]) (t := 26) ?hr ?_; (case hd => rfl); (case hg => rfl); (case hr => first | (go_simp; done) | (go_simp; rfl))
         intro gb584 hg w64 hbox hb
         have HS1_ := (hb.cell (World.block_lt_of_cell? _ _ (hHeld.2.1))).trans (hHeld.2.1)
         have HS2_ := (hb.cell (World.block_lt_of_cell? _ _ (hHeld.2.2.1))).trans (hHeld.2.2.1)
         have HS3_ := (hb.cell (World.block_lt_of_cell? _ _ (hHeld.2.2.2))).trans (hHeld.2.2.2)
         have BK584 := Aside0.mk hbox
         have GW584 := ge_ HB hg
         have GE584 := ge_ HB hg
         have NB563_584 := nl_ BK563 hg
         have NB584_563 := ng_ BK563 hg
         have NB569_584 := nl_ BK569 hg
         have NB584_569 := ng_ BK569 hg
         replace HO_564000 := rb_ HO_564000 hb
         replace HO_570000 := rb_ HO_570000 hb
         replace HB := at_ HB hb
         replace BK563 := ab_ BK563 hb
         replace BK569 := ab_ BK569 hb
         clear hb hbox hg
         refine hK.out _ _ ⟨bq5_ BK569 0, HS1_, HS2_, HS3_⟩ (fun hHeld => ?_)
         clear hK K
         refine nz_ 7 ?_
         refine on_ 7 (some 56) ba27_14 HT_ (fun K hK => ?_)
         refine gz_ Try.func12 #[.agg #[.slice (some ad579) t565.length co23], .agg #[.int .i64 ((rd_T30 t565 x6_3).f0.f0), .int .i64 ((rd_T30 t565 x6_3).f0.f1)]] ?_
         with_reducible refine (impl_DropRoute.calls k3 _ _ t565 ((rd_T30 t565 x6_3).f0.f0) ((rd_T30 t565 x6_3).f0.f1) t580 true _ ?side1 ?side2 A44.out).mono ?_
         (case side1 => exact rc_ HO_570000)
         (case side2 => exact (Kd.R_reads' HO_570000.out).2.1)
         rintro e w65 ⟨v581, rfl, ho0, hb⟩
         have HS1_ := (hb.cell (World.block_lt_of_cell? _ _ (hHeld.2.1))).trans (hHeld.2.1)
         have HS2_ := (hb.cell (World.block_lt_of_cell? _ _ (hHeld.2.2.1))).trans (hHeld.2.2.1)
         have HS3_ := (hb.cell (World.block_lt_of_cell? _ _ (hHeld.2.2.2))).trans (hHeld.2.2.2)
         refine ⟨_, rfl, ?_⟩
         have HO582 := Aside0.mk (Kd.R_lower (Kd.R_new' (Kd.R_new' ho0 (Kd.R_lt (hd_ HO_564000))) (Kd.R_lt (hd_ HO_570000))) (bz_ HB))
         replace HO_564000 := Aside0.mk (Kd.R_elder' (hd_ HO_564000) (Kd.R_base ho0) hb)
         replace HO_570000 := Aside0.mk (Kd.R_elder' (hd_ HO_570000) (Kd.R_base ho0) hb)
         replace BK563 := ab_ BK563 hb
         replace BK569 := ab_ BK569 hb
         replace BK584 := ab_ BK584 hb
         replace HB := at_ HB hb
         clear hb ho0
         refine hK.out _ _ ⟨bq5_ BK569 0, HS1_, HS2_, HS3_⟩ (fun hHeld => ?_)
         clear hK K
         refine nz_ 56 ?_
         refine pz_ 8 48 ba27_15 HT_ ?_
         refine pz_ 9 57 ba27_16 HT_ ?_
         refine pz_ 10 58 ba27_8 HT_ ?_
         exact norm_ (by simp only [putAll, Act.put, List.setIfInBounds_toArray, List.set_cons_zero, List.set_cons_succ]) (hCont (v581, gb584) _ ⟨hHeld, (by (with_reducible repeat (first | apply Kd.R_alloc | apply Kd.R_drewN | apply Kd.R_drew)); exact Kd.R_mono HO582.out (fun _ hk => by first | exact ⟨hk.1.2, hk.2⟩ | grind)), (by (with_reducible repeat (first | apply Kd.R_alloc | apply Kd.R_drewN | apply Kd.R_drew)); exact Kd.R_mono HO_564000.out (fun _ hk => by first | exact ⟨hk.2, hk.1⟩ | grind)), (by (with_reducible repeat (first | apply Kd.R_alloc | apply Kd.R_drewN | apply Kd.R_drew)); exact Kd.R_mono HO_570000.out (fun _ hk => by first | exact ⟨hk.2, hk.1⟩ | grind)), (bx_ BK563), (bx_ BK569), (bx_ BK584), GW584.out, GE584.out, NB563_584.out, NB584_563.out, NB569_584.out, NB584_569.out, (bw112_)⟩)
       rintro ⟨v581, gb584⟩ w66 ⟨hS_, h0_, h1_, h2_, h3_, h4_, h5_, h6_, h7_, h8_, h9_, h10_, h11_, h12_⟩
       have HO582 : Aside0 (Kd.R k30 30 w66 w.heap.size (fun k_ => some k_ ≠ (.slice Ao8 t560.length co8 : Value).ownBlock ∧ some k_ ≠ (.slice (some ad579) t565.length co23 : Value).ownBlock) v581 t580) := ⟨h0_⟩
       have BK584 : Aside0 (w66.heap[gb584]? = some (.cells #[.slice none 0 0] 26 (0, 0))) := ⟨h5_⟩
       have GW584 : Aside0 (w.heap.size ≤ gb584) := ⟨h6_⟩
       have GE584 : Aside0 (w.heap.size ≤ gb584) := ⟨h7_⟩
       have NB563_584 : Aside0 (gb563 ≠ gb584) := ⟨h8_⟩
       have NB584_563 : Aside0 (gb584 ≠ gb563) := ⟨h9_⟩
       have NB569_584 : Aside0 (gb569 ≠ gb584) := ⟨h10_⟩
       have NB584_569 : Aside0 (gb584 ≠ gb569) := ⟨h11_⟩
       replace HO_564000 : Aside0 (Kd.R k30 30 w66 w.heap.size (fun k_ => some k_ ≠ (v581 : Value).ownBlock ∧ some k_ ≠ (.slice (some ad579) t565.length co23 : Value).ownBlock) (.slice Ao8 t560.length co8) t560) := ⟨h1_⟩
       replace HO_570000 : Aside0 (Kd.R k30 30 w66 w.heap.size (fun k_ => some k_ ≠ (v581 : Value).ownBlock ∧ some k_ ≠ (.slice Ao8 t560.length co8 : Value).ownBlock) (.slice (some ad579) t565.length co23) t565) := ⟨h2_⟩
       replace BK563 : Aside0 (w66.heap[gb563]? = some (.cells #[.slice Ao8 t560.length co8] 26 (0, 0))) := ⟨h3_⟩
       replace BK569 : Aside0 (w66.heap[gb569]? = some (.cells #[.slice (some ad579) t565.length co23] 26 (0, 0))) := ⟨h4_⟩
       replace HB : Aside0 (Below w.heap.size w w66) := ⟨h12_⟩
       clear h0_ h1_ h2_ h3_ h4_ h5_ h6_ h7_ h8_ h9_ h10_ h11_ h12_
       have hHeld : w66.cell? ⟨gb569, 0, none⟩ = some (.slice (some ad579) t565.length co23) ∧ w66.cell? (ad579.add ((x6_3).toNat * 3)) = some (.int .i64 ((rd_T30 t565 x6_3).f0.f0)) ∧ w66.cell? ⟨(ad579.add ((x6_3).toNat * 3)).block, (ad579.add ((x6_3).toNat * 3)).off + 1, none⟩ = some (.int .i64 ((rd_T30 t565 x6_3).f0.f1)) ∧ w66.cell? ⟨(ad579.add ((x6_3).toNat * 3)).block, (ad579.add ((x6_3).toNat * 3)).off + 2, none⟩ = some (.int .i64 ((rd_T30 t565 x6_3).f1)) := hS_
       obtain ⟨Ao67, co67, eo67⟩ := Kd.R_slice HO582.out
       subst eo67
       refine norm_ (a' := ?_) ?_ ?_
       rotate_left; · simp only [putAll, Act.put, List.setIfInBounds_toArray, List.set_cons_zero, List.set_cons_succ]; rfl
       refine on_ 12 none ba27_17 HT_ (fun K hK => ?_)
       have hs68 : w66.cell? ⟨gb584, 0, none⟩ = some (.slice none 0 0) := bq5_ BK584 0
       have hfs68 := fz_ BK584 0
       have hns68_0 := NB563_584.out
       have hns68_1 := NB569_584.out
       have hms68_0 := NB584_563.out
       have hms68_1 := NB584_569.out
       refine skip_ (w1 := ?_) (by rfl) rfl ?_ ?_
       rotate_left; · go_simp; rfl
       refine hK.out _ _ ⟨((cell_far (p := ⟨gb584, _, none⟩) NB569_584.out _).trans (hHeld.1)), ((cell_far (p := ⟨gb584, _, none⟩) (by first | exact Kd.own_blk (Kd.R_ne HO_570000.out BK584.out (by decide)) | (rw [add_block]; exact Kd.own_blk (Kd.R_ne HO_570000.out BK584.out (by decide))) | (show (Addr.add _ _).block ≠ _; rw [add_block]; exact Kd.own_blk (Kd.R_ne HO_570000.out BK584.out (by decide))) | (dsimp only; exact Kd.own_blk (Kd.R_ne HO_570000.out BK584.out (by decide)))) _).trans (hHeld.2.1)), ((cell_far (p := ⟨gb584, _, none⟩) (by first | exact Kd.own_blk (Kd.R_ne HO_570000.out BK584.out (by decide)) | (rw [add_block]; exact Kd.own_blk (Kd.R_ne HO_570000.out BK584.out (by decide))) | (show (Addr.add _ _).block ≠ _; rw [add_block]; exact Kd.own_blk (Kd.R_ne HO_570000.out BK584.out (by decide))) | (dsimp only; exact Kd.own_blk (Kd.R_ne HO_570000.out BK584.out (by decide)))) _).trans (hHeld.2.2.1)), ((cell_far (p := ⟨gb584, _, none⟩) (by first | exact Kd.own_blk (Kd.R_ne HO_570000.out BK584.out (by decide)) | (rw [add_block]; exact Kd.own_blk (Kd.R_ne HO_570000.out BK584.out (by decide))) | (show (Addr.add _ _).block ≠ _; rw [add_block]; exact Kd.own_blk (Kd.R_ne HO_570000.out BK584.out (by decide))) | (dsimp only; exact Kd.own_blk (Kd.R_ne HO_570000.out BK584.out (by decide)))) _).trans (hHeld.2.2.2))⟩ (fun hHeld => ?_)
       clear hK K
       refine pz_ 13 8 ba27_18 HT_ ?_
       refine done_ (done_of HT_.out (by kernel_rfl)) ?_
       have hnb69 := NB584_563.out
       have hnc69 := NB563_584.out
       have hnb70 := NB584_569.out
       have hnc70 := NB569_584.out
       have hcz71_0 := cz_ BK584 0 (.slice none 0 0)
       have hfz71_0 := fz_ BK584 0
       have hcz72_0 := cz_ BK569 0 (.slice (some ad579) t565.length co23)
       have hfz72_0 := fz_ BK569 0
       try go_wp2_with (first | (go_at_call 22; (with_reducible refine (spec_SameTable.calls k3 _ _ t580 _ _ t565 false _ ?side1 ?side2 ?side3 ?side4 A46.out).mono ?_); (case side1 => refine (Kd.R_reads' (e := 30) (base := w.heap.size) (ok := fun k_ => (some k_ ≠ (.slice Ao8 t560.length co8 : Value).ownBlock ∧ some k_ ≠ (.slice (some ad579) t565.length co23 : Value).ownBlock)) (n := t580.length) (c := co67) ?_).2.2; exact (hs_ HO582 BK584)); (case side2 => exact (Kd.R_reads' HO582.out).2.1); (case side3 => refine (Kd.R_reads' (e := 30) (base := w.heap.size) (ok := fun k_ => (some k_ ≠ (.slice Ao67 t580.length co67 : Value).ownBlock ∧ some k_ ≠ (.slice Ao8 t560.length co8 : Value).ownBlock)) (n := t565.length) (c := co23) ?_).2.2; exact (hs_ HO_570000 BK584)); (case side4 => exact (Kd.R_reads' HO_570000.out).2.1); rintro e w73 ⟨rfl, hb⟩; replace HO_564000 := rs_ HO_564000 BK584 hb; replace HO_570000 := rs_ HO_570000 BK584 hb; replace HO582 := rs_ HO582 BK584 hb; replace BK563 := bf_ BK563 NB563_584 hb; replace BK569 := bf_ BK569 NB569_584 hb; replace BK584 := Aside0.mk (blk_below (g := gb584) (o := .cells #[.slice Ao67 t580.length co67] 26 (0, 0)) (by refine bd_ ?_; refine blk_put (cs := #[.slice none 0 0]) ?_ 0 _ rfl; refine bd_ ?_; exact BK584.out) hb); replace HB := at_ HB hb; clear hb))
       go_roundg k3
       case measure => have := HJ4.out; have := HJ18.out; have := HK3.out; omega
       case rel => exact ⟨(wrap64 (x6_3 + 1)), er_, H', ⟨by have := HJ4.out; have := HJ18.out; have := HK3.out; omega⟩, ⟨by (with_reducible repeat (first | apply Kd.R_alloc | apply Kd.R_drewN | apply Kd.R_drew)); exact Kd.R_mono HO_564000.out (fun _ hk => hk.2)⟩, ⟨by (with_reducible repeat (first | apply Kd.R_alloc | apply Kd.R_drewN | apply Kd.R_drew)); exact Kd.R_mono HO_570000.out (fun _ hk => hk.2)⟩, ⟨bx_ BK563⟩, ⟨bx_ BK569⟩, ⟨bw112_⟩⟩

end Go.Proofs.Ytjepmdngbafonaa.QFnSqueezed
