/- Contracts of functions that the law reaches: what each call returns and what it leaves in memory. Made by this session over the print of the kit. -/
import Derived.Test.YtiikcfaodkiakaaQFnExactNewerx0
import Derived.Test.YtiikcfaodkiakaaQFnExactNewerx1
import Derived.Test.YtiikcfaodkiakaaQFnExactNewerx3
import Derived.Test.YtiikcfaodkiakaaQFnExactNewerx8
import Derived.Test.YtiikcfaodkiakaaQFnExactNewerx17
namespace Go.Proofs.Ytiikcfaodkiakaa.QFnExactNewer
open Go.RowKit Go.Proofs.YtiikcfaodkiakaaY.PrintWords Go.Proofs.YtiikcfaodkiakaaY.PrintLast Go.Proofs.YtiikcfaodkiakaaY.PrintMore
attribute [local go_sem] max2_int min2_int max_two min_two max_three min_three max_four min_four   -- for this text's walks alone
set_option linter.unusedVariables false
set_option linter.unusedSimpArgs false
def ba18_0 : Array Bool := #[false, false, false, false, false, false]
def ba18_1 : Array Bool := #[true, false, false, false, false, false]
def ba18_2 : Array Bool := #[true, false, true, false, false, false]
def ba18_3 : Array Bool := #[true, true, true, false, false, false]
def ba18_4 : Array Bool := #[true, true, true, true, false, false]
def ba18_5 : Array Bool := #[true, true, true, true, true, false]
def ba18_6 : Array Bool := #[true, true, true, true, true, true]
def ba18_7 : Array Bool := #[false, false, false, false, false]
def ba18_8 : Array Bool := #[true, false, false, false, false]
def ba18_9 : Array Bool := #[true, true, false, false, false]
def ba18_10 : Array Bool := #[true, true, true, false, false]
def ba18_11 : Array Bool := #[true, true, true, true, false]
def ba18_12 : Array Bool := #[true, true, true, true, true]

/-! ### laws_FnExactNewer: function 11 -/
def laws_FnExactNewer.f (k : Nat) (a0_0 : Int) (a0_1 : Int) (a0_2 : Int) (l0_3 : List (S85)) (l0_4 : List (S89)) (a1_0 : Int) (a1_1 : Int) (a1_2 : Int) (l1_3 : List (S85)) (l1_4 : List (S89)) : Option (Bool) := (laws_szLsa.f a0_0 a0_1 a0_2 l0_3 l0_4 1048576).bind fun t363 => (if t363 < 0 then (some true) else ((laws_szLsa.f a1_0 a1_1 a1_2 l1_3 l1_4 t363).bind fun t364 => (if t364 < 0 then (some true) else ((laws_toLsa.f k a0_0 a0_1 a0_2 l0_3 l0_4).bind fun bt365 => ((laws_toLsa.f k a1_0 a1_1 a1_2 l1_3 l1_4).bind fun bt374 => ((spec_Newer.f k bt365.1 bt365.2.1 bt365.2.2.1 bt365.2.2.2.1 bt365.2.2.2.2 bt374.1 bt374.2.1 bt374.2.2.1 bt374.2.2.2.1 bt374.2.2.2.2).bind fun t383 => ((laws_toLsa.f k a0_0 a0_1 a0_2 l0_3 l0_4).bind fun bt384 => ((laws_toLsa.f k a1_0 a1_1 a1_2 l1_3 l1_4).bind fun bt394 => ((impl_Newer.f k bt384.1 bt384.2.1 bt384.2.2.1 bt384.2.2.2.1 bt384.2.2.2.2 bt394.1 bt394.2.1 bt394.2.2.1 bt394.2.2.2.1 bt394.2.2.2.2).bind fun t404 => (if t404 = t383 then ((laws_toLsa.f k a0_0 a0_1 a0_2 l0_3 l0_4).bind fun bt405 => ((laws_eqLsa.f k bt384.1 bt384.2.1 bt384.2.2.1 bt384.2.2.2.1 bt384.2.2.2.2 bt405.1 bt405.2.1 bt405.2.2.1 bt405.2.2.2.1 bt405.2.2.2.2).bind fun t414 => (if t414 = true then ((laws_toLsa.f k a1_0 a1_1 a1_2 l1_3 l1_4).bind fun bt415 => ((laws_eqLsa.f k bt394.1 bt394.2.1 bt394.2.2.1 bt394.2.2.2.1 bt394.2.2.2.2 bt415.1 bt415.2.1 bt415.2.2.1 bt415.2.2.2.1 bt415.2.2.2.2).bind fun t424 => (if t424 = true then (some true) else (some false)))) else (some false)))) else (some false)))))))))))
theorem laws_FnExactNewer.mono : ∀ a0 a1 a2 a3 a4 a5 a6 a7 a8 a9 k, LeO (laws_FnExactNewer.f k a0 a1 a2 a3 a4 a5 a6 a7 a8 a9) (laws_FnExactNewer.f (k + 1) a0 a1 a2 a3 a4 a5 a6 a7 a8 a9) := by
 intro a0 a1 a2 a3 a4 a5 a6 a7 a8 a9 k
 unfold laws_FnExactNewer.f
 repeat' first
   | (with_reducible exact impl_Newer.mono _ _ _ _ _ _ _ _ _ _ _)
   | (with_reducible exact laws_eqLsa.mono _ _ _ _ _ _ _ _ _ _ _)
   | (with_reducible exact laws_toLsa.mono _ _ _ _ _ _)
   | (with_reducible exact spec_Newer.mono _ _ _ _ _ _ _ _ _ _ _)
   | (with_reducible exact LeO.refl _)
   | (with_reducible exact LeO.none _)
   | (with_reducible refine LeO.ite ?_ ?_)
   | (with_reducible refine LeO.bind ?_ (fun _ => ?_))
   | exact impl_Newer.mono _ _ _ _ _ _ _ _ _ _ _
   | exact laws_eqLsa.mono _ _ _ _ _ _ _ _ _ _ _
   | exact laws_toLsa.mono _ _ _ _ _ _
   | exact spec_Newer.mono _ _ _ _ _ _ _ _ _ _ _
   | exact LeO.none _
   | refine LeO.ite ?_ ?_
   | refine LeO.bind ?_ (fun _ => ?_)
set_option maxHeartbeats 8000000 in
set_option maxRecDepth 100000 in
theorem laws_FnExactNewer.calls (k : Nat) (a0_0 : Int) (a0_1 : Int) (a0_2 : Int) (A0_3 : Option Addr) (c0_3 : Nat) (l0_3 : List (S85)) (A0_4 : Option Addr) (c0_4 : Nat) (l0_4 : List (S89)) (a1_0 : Int) (a1_1 : Int) (a1_2 : Int) (A1_3 : Option Addr) (c1_3 : Nat) (l1_3 : List (S85)) (A1_4 : Option Addr) (c1_4 : Nat) (l1_4 : List (S89)) (r : Bool) (w : World) (hr0_3 : Kd.C k85 w A0_3 l0_3.length l0_3) (hc0_3 : l0_3.length ≤ c0_3) (hr0_4 : Kd.C k89 w A0_4 l0_4.length l0_4) (hc0_4 : l0_4.length ≤ c0_4) (hr1_3 : Kd.C k85 w A1_3 l1_3.length l1_3) (hc1_3 : l1_3.length ≤ c1_3) (hr1_4 : Kd.C k89 w A1_4 l1_4.length l1_4) (hc1_4 : l1_4.length ≤ c1_4) (h : laws_FnExactNewer.f k a0_0 a0_1 a0_2 l0_3 l0_4 a1_0 a1_1 a1_2 l1_3 l1_4 = some r) :
  Calls Try.prog 11 #[.agg #[.int .i64 a0_0, .int .i64 a0_1, .int .i64 a0_2, .slice A0_3 l0_3.length c0_3, .slice A0_4 l0_4.length c0_4], .agg #[.int .i64 a1_0, .int .i64 a1_1, .int .i64 a1_2, .slice A1_3 l1_3.length c1_3, .slice A1_4 l1_4.length c1_4]] w fun e w' => e = .returned (.bool r) ∧ Below w.heap.size w w' := by
 have hu25 := Try.underlying25
 have hu31 := Try.underlying31
 have HR0_3 := Aside0.mk hr0_3
 have HC0_3 := Aside0.mk hc0_3
 clear hr0_3 hc0_3
 have HR0_4 := Aside0.mk hr0_4
 have HC0_4 := Aside0.mk hc0_4
 clear hr0_4 hc0_4
 have HR1_3 := Aside0.mk hr1_3
 have HC1_3 := Aside0.mk hc1_3
 clear hr1_3 hc1_3
 have HR1_4 := Aside0.mk hr1_4
 have HC1_4 := Aside0.mk hc1_4
 clear hr1_4 hc1_4
 have HB := Aside0.mk (Below.refl w.heap.size w)
 have H : ((laws_szLsa.f a0_0 a0_1 a0_2 l0_3 l0_4 1048576).bind fun t363 => (if t363 < 0 then (some true) else ((laws_szLsa.f a1_0 a1_1 a1_2 l1_3 l1_4 t363).bind fun t364 => (if t364 < 0 then (some true) else ((laws_toLsa.f k a0_0 a0_1 a0_2 l0_3 l0_4).bind fun bt365 => ((laws_toLsa.f k a1_0 a1_1 a1_2 l1_3 l1_4).bind fun bt374 => ((spec_Newer.f k bt365.1 bt365.2.1 bt365.2.2.1 bt365.2.2.2.1 bt365.2.2.2.2 bt374.1 bt374.2.1 bt374.2.2.1 bt374.2.2.2.1 bt374.2.2.2.2).bind fun t383 => ((laws_toLsa.f k a0_0 a0_1 a0_2 l0_3 l0_4).bind fun bt384 => ((laws_toLsa.f k a1_0 a1_1 a1_2 l1_3 l1_4).bind fun bt394 => ((impl_Newer.f k bt384.1 bt384.2.1 bt384.2.2.1 bt384.2.2.2.1 bt384.2.2.2.2 bt394.1 bt394.2.1 bt394.2.2.1 bt394.2.2.2.1 bt394.2.2.2.2).bind fun t404 => (if t404 = t383 then ((laws_toLsa.f k a0_0 a0_1 a0_2 l0_3 l0_4).bind fun bt405 => ((laws_eqLsa.f k bt384.1 bt384.2.1 bt384.2.2.1 bt384.2.2.2.1 bt384.2.2.2.2 bt405.1 bt405.2.1 bt405.2.2.1 bt405.2.2.2.1 bt405.2.2.2.2).bind fun t414 => (if t414 = true then ((laws_toLsa.f k a1_0 a1_1 a1_2 l1_3 l1_4).bind fun bt415 => ((laws_eqLsa.f k bt394.1 bt394.2.1 bt394.2.2.1 bt394.2.2.2.1 bt394.2.2.2.2 bt415.1 bt415.2.1 bt415.2.2.1 bt415.2.2.2.1 bt415.2.2.2.2).bind fun t424 => (if t424 = true then (some true) else (some false)))) else (some false)))) else (some false)))))))))))) = some r := h
 clear h
 replace H := Option.bind_eq_some_iff.mp H
 obtain ⟨t363, A30, H⟩ := H
 have A3 := Aside0.mk A30
 clear A30
 by_cases c4 : t363 < 0
 ·rw [if_pos c4] at H
  have c4b0 : decide (t363 < 0) = true := decide_eq_true c4
  clear c4
  obtain rfl := Option.some.inj H
  go_enter Try.func11, Try.ntmps11
  go_wp2_with (first | ((with_reducible refine gate_dst (N := 2) rfl ?_); refine box_event ?hg (N := 2) ?hd (cs := #[.int .i64 a0_0, .int .i64 a0_1, .int .i64 a0_2, .slice A0_3 l0_3.length c0_3, .slice A0_4 l0_4.length c0_4]) (t := 25) ?hr ?_; (case hd => rfl); (case hg => rfl); (case hr => first | (go_simp; done) | (go_simp; rfl)); intro gb361 hg w5 hbox hb; have BK361 := Aside0.mk hbox; have GW361 := ge_ HB hg; have GE361 := ge_ HB hg; replace HB := Aside0.mk (bt_ HB hb); clear hb hbox hg) | ((with_reducible refine gate_dst (N := 3) rfl ?_); refine box_event ?hg (N := 3) ?hd (cs := #[.int .i64 a1_0, .int .i64 a1_1, .int .i64 a1_2, .slice A1_3 l1_3.length c1_3, .slice A1_4 l1_4.length c1_4]) (t := 25) ?hr ?_; (case hd => rfl); (case hg => rfl); (case hr => first | (go_simp; done) | (go_simp; rfl)); intro gb362 hg w6 hbox hb; have BK362 := Aside0.mk hbox; have GW362 := ge_ HB hg; have GE362 := ge_ HB hg; have NB361_362 := nl_ BK361 hg; have NB362_361 := ng_ BK361 hg; replace HB := Aside0.mk (bt_ HB hb); replace BK361 := Aside0.mk (bb_ BK361 hb); clear hb hbox hg; have hnb7 := NB361_362.out; have hnc7 := NB362_361.out; have hcz8_0 := cz_ BK361 0 (.int .i64 a0_0); have hcz8_1 := cz_ BK361 1 (.int .i64 a0_1); have hcz8_2 := cz_ BK361 2 (.int .i64 a0_2); have hcz8_3 := cz_ BK361 3 (.slice A0_3 l0_3.length c0_3); have hcz8_4 := cz_ BK361 4 (.slice A0_4 l0_4.length c0_4); have hfz8_0 := blk_frozen BK361.out 0; have hfz8_1 := blk_frozen BK361.out 1; have hfz8_2 := blk_frozen BK361.out 2; have hfz8_3 := blk_frozen BK361.out 3; have hfz8_4 := blk_frozen BK361.out 4) | ((with_reducible refine gate_callee (f := 13) rfl ?_); refine gl_ (some 12) Try.func13 #[.agg #[.int .i64 a0_0, .int .i64 a0_1, .int .i64 a0_2, .slice A0_3 l0_3.length c0_3, .slice A0_4 l0_4.length c0_4], .int .i64 1048576] ?_; (with_reducible refine (laws_szLsa.calls a0_0 a0_1 a0_2 _ _ l0_3 _ _ l0_4 1048576 t363 _ ?side1 ?side2 ?side3 ?side4 A3.out).mono ?_); (case side1 => exact cb_ HR0_3 HB); (case side2 => exact HC0_3.out); (case side3 => exact cb_ HR0_4 HB); (case side4 => exact HC0_4.out); rintro e w9 ⟨rfl, hb⟩; refine ⟨_, rfl, ?_⟩; replace BK361 := Aside0.mk (bb_ BK361 hb); replace BK362 := Aside0.mk (bb_ BK362 hb); replace HB := Aside0.mk (bt_ HB hb); (try clear hb); (try clear hb2); (try clear hk); (try clear hi)))
  go_ret
  exact ⟨by first | rfl | (simp [errW_none, errW_some] <;> rfl) | (simp [*, errW_none, errW_some] <;> rfl), by repeat (first | (with_reducible first | exact HB.out | apply below_alloc | apply pw_below_drewN | apply below_drew1 | refine below_set ?_ GE361.out | refine below_set ?_ GE362.out) | exact HB.out)⟩
 ·rw [if_neg c4] at H
  have c4b0 : decide (t363 < 0) = false := decide_eq_false c4
  clear c4
  replace H := Option.bind_eq_some_iff.mp H
  obtain ⟨t364, A100, H⟩ := H
  have A10 := Aside0.mk A100
  clear A100
  by_cases c11 : t364 < 0
  ·rw [if_pos c11] at H
   have c11b0 : decide (t364 < 0) = true := decide_eq_true c11
   clear c11
   obtain rfl := Option.some.inj H
   go_enter Try.func11, Try.ntmps11
   go_wp2_with (first | ((with_reducible refine gate_dst (N := 2) rfl ?_); refine box_event ?hg (N := 2) ?hd (cs := #[.int .i64 a0_0, .int .i64 a0_1, .int .i64 a0_2, .slice A0_3 l0_3.length c0_3, .slice A0_4 l0_4.length c0_4]) (t := 25) ?hr ?_; (case hd => rfl); (case hg => rfl); (case hr => first | (go_simp; done) | (go_simp; rfl)); intro gb361 hg w12 hbox hb; have BK361 := Aside0.mk hbox; have GW361 := ge_ HB hg; have GE361 := ge_ HB hg; replace HB := Aside0.mk (bt_ HB hb); clear hb hbox hg) | ((with_reducible refine gate_dst (N := 3) rfl ?_); refine box_event ?hg (N := 3) ?hd (cs := #[.int .i64 a1_0, .int .i64 a1_1, .int .i64 a1_2, .slice A1_3 l1_3.length c1_3, .slice A1_4 l1_4.length c1_4]) (t := 25) ?hr ?_; (case hd => rfl); (case hg => rfl); (case hr => first | (go_simp; done) | (go_simp; rfl)); intro gb362 hg w13 hbox hb; have BK362 := Aside0.mk hbox; have GW362 := ge_ HB hg; have GE362 := ge_ HB hg; have NB361_362 := nl_ BK361 hg; have NB362_361 := ng_ BK361 hg; replace HB := Aside0.mk (bt_ HB hb); replace BK361 := Aside0.mk (bb_ BK361 hb); clear hb hbox hg; have hnb14 := NB361_362.out; have hnc14 := NB362_361.out; have hcz15_0 := cz_ BK361 0 (.int .i64 a0_0); have hcz15_1 := cz_ BK361 1 (.int .i64 a0_1); have hcz15_2 := cz_ BK361 2 (.int .i64 a0_2); have hcz15_3 := cz_ BK361 3 (.slice A0_3 l0_3.length c0_3); have hcz15_4 := cz_ BK361 4 (.slice A0_4 l0_4.length c0_4); have hfz15_0 := blk_frozen BK361.out 0; have hfz15_1 := blk_frozen BK361.out 1; have hfz15_2 := blk_frozen BK361.out 2; have hfz15_3 := blk_frozen BK361.out 3; have hfz15_4 := blk_frozen BK361.out 4) | ((with_reducible refine gate_callee (f := 13) rfl ?_); refine gl_ (some 12) Try.func13 #[.agg #[.int .i64 a0_0, .int .i64 a0_1, .int .i64 a0_2, .slice A0_3 l0_3.length c0_3, .slice A0_4 l0_4.length c0_4], .int .i64 1048576] ?_; (with_reducible refine (laws_szLsa.calls a0_0 a0_1 a0_2 _ _ l0_3 _ _ l0_4 1048576 t363 _ ?side1 ?side2 ?side3 ?side4 A3.out).mono ?_); (case side1 => exact cb_ HR0_3 HB); (case side2 => exact HC0_3.out); (case side3 => exact cb_ HR0_4 HB); (case side4 => exact HC0_4.out); rintro e w16 ⟨rfl, hb⟩; refine ⟨_, rfl, ?_⟩; replace BK361 := Aside0.mk (bb_ BK361 hb); replace BK362 := Aside0.mk (bb_ BK362 hb); replace HB := Aside0.mk (bt_ HB hb); (try clear hb); (try clear hb2); (try clear hk); (try clear hi); have hcz17_0 := cz_ BK362 0 (.int .i64 a1_0); have hcz17_1 := cz_ BK362 1 (.int .i64 a1_1); have hcz17_2 := cz_ BK362 2 (.int .i64 a1_2); have hcz17_3 := cz_ BK362 3 (.slice A1_3 l1_3.length c1_3); have hcz17_4 := cz_ BK362 4 (.slice A1_4 l1_4.length c1_4); have hfz17_0 := blk_frozen BK362.out 0; have hfz17_1 := blk_frozen BK362.out 1; have hfz17_2 := blk_frozen BK362.out 2; have hfz17_3 := blk_frozen BK362.out 3; have hfz17_4 := blk_frozen BK362.out 4) | ((with_reducible refine gate_callee (f := 13) rfl ?_); refine gl_ (some 17) Try.func13 #[.agg #[.int .i64 a1_0, .int .i64 a1_1, .int .i64 a1_2, .slice A1_3 l1_3.length c1_3, .slice A1_4 l1_4.length c1_4], .int .i64 t363] ?_; (with_reducible refine (laws_szLsa.calls a1_0 a1_1 a1_2 _ _ l1_3 _ _ l1_4 t363 t364 _ ?side1 ?side2 ?side3 ?side4 A10.out).mono ?_); (case side1 => exact cb_ HR1_3 HB); (case side2 => exact HC1_3.out); (case side3 => exact cb_ HR1_4 HB); (case side4 => exact HC1_4.out); rintro e w18 ⟨rfl, hb⟩; refine ⟨_, rfl, ?_⟩; replace BK361 := Aside0.mk (bb_ BK361 hb); replace BK362 := Aside0.mk (bb_ BK362 hb); replace HB := Aside0.mk (bt_ HB hb); (try clear hb); (try clear hb2); (try clear hk); (try clear hi)))
   go_ret
   exact ⟨by first | rfl | (simp [errW_none, errW_some] <;> rfl) | (simp [*, errW_none, errW_some] <;> rfl), by repeat (first | (with_reducible first | exact HB.out | apply below_alloc | apply pw_below_drewN | apply below_drew1 | refine below_set ?_ GE361.out | refine below_set ?_ GE362.out) | exact HB.out)⟩
  ·rw [if_neg c11] at H
   have c11b0 : decide (t364 < 0) = false := decide_eq_false c11
   clear c11
   replace H := Option.bind_eq_some_iff.mp H
   obtain ⟨⟨t365, t366, t367, t368, t371⟩, A190, H⟩ := H
   have A19 := Aside0.mk A190
   clear A190
   replace H := Option.bind_eq_some_iff.mp H
   obtain ⟨⟨t374, t375, t376, t377, t380⟩, A200, H⟩ := H
   have A20 := Aside0.mk A200
   clear A200
   replace H := Option.bind_eq_some_iff.mp H
   obtain ⟨t383, A210, H⟩ := H
   have A21 := Aside0.mk A210
   clear A210
   replace H := Option.bind_eq_some_iff.mp H
   obtain ⟨⟨t384, t385, t386, t387, t390⟩, A220, H⟩ := H
   have A22 := Aside0.mk A220
   clear A220
   replace H := Option.bind_eq_some_iff.mp H
   obtain ⟨⟨t394, t395, t396, t397, t400⟩, A230, H⟩ := H
   have A23 := Aside0.mk A230
   clear A230
   replace H := Option.bind_eq_some_iff.mp H
   obtain ⟨t404, A240, H⟩ := H
   have A24 := Aside0.mk A240
   clear A240
   by_cases c25 : t404 = t383
   ·rw [if_pos c25] at H
    have c25b0 : (t404 == t383) = true := beq_iff_eq.mpr c25
    have c25b1 : (t404 != t383) = false := bne_eq_false_iff_eq.mpr c25
    clear c25
    replace H := Option.bind_eq_some_iff.mp H
    obtain ⟨⟨t405, t406, t407, t408, t411⟩, A260, H⟩ := H
    have A26 := Aside0.mk A260
    clear A260
    replace H := Option.bind_eq_some_iff.mp H
    obtain ⟨t414, A270, H⟩ := H
    have A27 := Aside0.mk A270
    clear A270
    by_cases c28 : t414 = true
    ·subst c28
     rw [if_pos rfl] at H
     replace H := Option.bind_eq_some_iff.mp H
     obtain ⟨⟨t415, t416, t417, t418, t421⟩, A290, H⟩ := H
     have A29 := Aside0.mk A290
     clear A290
     replace H := Option.bind_eq_some_iff.mp H
     obtain ⟨t424, A300, H⟩ := H
     have A30 := Aside0.mk A300
     clear A300
     by_cases c31 : t424 = true
     ·subst c31
      rw [if_pos rfl] at H
      obtain rfl := Option.some.inj H
      go_enter Try.func11, Try.ntmps11
      try go_wp2_with (first | ((with_reducible refine gate_dst (N := 2) rfl ?_); refine box_event ?hg (N := 2) ?hd (cs := #[.int .i64 a0_0, .int .i64 a0_1, .int .i64 a0_2, .slice A0_3 l0_3.length c0_3, .slice A0_4 l0_4.length c0_4]) (t := 25) ?hr ?_; (case hd => rfl); (case hg => rfl); (case hr => first | (go_simp; done) | (go_simp; rfl)); intro gb361 hg w32 hbox hb; have BK361 := Aside0.mk hbox; have GW361 := ge_ HB hg; have GE361 := ge_ HB hg; replace HB := Aside0.mk (bt_ HB hb); clear hb hbox hg) | ((with_reducible refine gate_dst (N := 3) rfl ?_); refine box_event ?hg (N := 3) ?hd (cs := #[.int .i64 a1_0, .int .i64 a1_1, .int .i64 a1_2, .slice A1_3 l1_3.length c1_3, .slice A1_4 l1_4.length c1_4]) (t := 25) ?hr ?_; (case hd => rfl); (case hg => rfl); (case hr => first | (go_simp; done) | (go_simp; rfl)); intro gb362 hg w33 hbox hb; have BK362 := Aside0.mk hbox; have GW362 := ge_ HB hg; have GE362 := ge_ HB hg; have NB361_362 := nl_ BK361 hg; have NB362_361 := ng_ BK361 hg; replace HB := Aside0.mk (bt_ HB hb); replace BK361 := Aside0.mk (bb_ BK361 hb); clear hb hbox hg; have hnb34 := NB361_362.out; have hnc34 := NB362_361.out; have hcz35_0 := cz_ BK361 0 (.int .i64 a0_0); have hcz35_1 := cz_ BK361 1 (.int .i64 a0_1); have hcz35_2 := cz_ BK361 2 (.int .i64 a0_2); have hcz35_3 := cz_ BK361 3 (.slice A0_3 l0_3.length c0_3); have hcz35_4 := cz_ BK361 4 (.slice A0_4 l0_4.length c0_4); have hfz35_0 := blk_frozen BK361.out 0; have hfz35_1 := blk_frozen BK361.out 1; have hfz35_2 := blk_frozen BK361.out 2; have hfz35_3 := blk_frozen BK361.out 3; have hfz35_4 := blk_frozen BK361.out 4) | ((with_reducible refine gate_callee (f := 13) rfl ?_); refine gl_ (some 12) Try.func13 #[.agg #[.int .i64 a0_0, .int .i64 a0_1, .int .i64 a0_2, .slice A0_3 l0_3.length c0_3, .slice A0_4 l0_4.length c0_4], .int .i64 1048576] ?_; (with_reducible refine (laws_szLsa.calls a0_0 a0_1 a0_2 _ _ l0_3 _ _ l0_4 1048576 t363 _ ?side1 ?side2 ?side3 ?side4 A3.out).mono ?_); (case side1 => exact cb_ HR0_3 HB); (case side2 => exact HC0_3.out); (case side3 => exact cb_ HR0_4 HB); (case side4 => exact HC0_4.out); rintro e w36 ⟨rfl, hb⟩; refine ⟨_, rfl, ?_⟩; replace BK361 := Aside0.mk (bb_ BK361 hb); replace BK362 := Aside0.mk (bb_ BK362 hb); replace HB := Aside0.mk (bt_ HB hb); (try clear hb); (try clear hb2); (try clear hk); (try clear hi); have hcz37_0 := cz_ BK362 0 (.int .i64 a1_0); have hcz37_1 := cz_ BK362 1 (.int .i64 a1_1); have hcz37_2 := cz_ BK362 2 (.int .i64 a1_2); have hcz37_3 := cz_ BK362 3 (.slice A1_3 l1_3.length c1_3); have hcz37_4 := cz_ BK362 4 (.slice A1_4 l1_4.length c1_4); have hfz37_0 := blk_frozen BK362.out 0; have hfz37_1 := blk_frozen BK362.out 1; have hfz37_2 := blk_frozen BK362.out 2; have hfz37_3 := blk_frozen BK362.out 3; have hfz37_4 := blk_frozen BK362.out 4) | ((with_reducible refine gate_callee (f := 13) rfl ?_); refine gl_ (some 17) Try.func13 #[.agg #[.int .i64 a1_0, .int .i64 a1_1, .int .i64 a1_2, .slice A1_3 l1_3.length c1_3, .slice A1_4 l1_4.length c1_4], .int .i64 t363] ?_; (with_reducible refine (laws_szLsa.calls a1_0 a1_1 a1_2 _ _ l1_3 _ _ l1_4 t363 t364 _ ?side1 ?side2 ?side3 ?side4 A10.out).mono ?_); (case side1 => exact cb_ HR1_3 HB); (case side2 => exact HC1_3.out); (case side3 => exact cb_ HR1_4 HB); (case side4 => exact HC1_4.out); rintro e w38 ⟨rfl, hb⟩; refine ⟨_, rfl, ?_⟩; replace BK361 := Aside0.mk (bb_ BK361 hb); replace BK362 := Aside0.mk (bb_ BK362 hb); replace HB := Aside0.mk (bt_ HB hb); (try clear hb); (try clear hb2); (try clear hk); (try clear hi)))
      replace BK361 := Aside0.mk (blk_drew BK361.out)
      replace BK362 := Aside0.mk (blk_drew BK362.out)
      replace HB := Aside0.mk (below_drew1 HB.out)
      refine start_ (n := 6) (S := fun w' => w'.cell? ⟨gb361, 0, none⟩ = some (.int .i64 a0_0) ∧ w'.cell? ⟨gb361, 1, none⟩ = some (.int .i64 a0_1) ∧ w'.cell? ⟨gb361, 2, none⟩ = some (.int .i64 a0_2) ∧ w'.cell? ⟨gb361, 3, none⟩ = some (.slice A0_3 l0_3.length c0_3) ∧ w'.cell? ⟨gb361, 4, none⟩ = some (.slice A0_4 l0_4.length c0_4) ∧ w'.cell? ⟨gb362, 0, none⟩ = some (.int .i64 a1_0) ∧ w'.cell? ⟨gb362, 1, none⟩ = some (.int .i64 a1_1) ∧ w'.cell? ⟨gb362, 2, none⟩ = some (.int .i64 a1_2) ∧ w'.cell? ⟨gb362, 3, none⟩ = some (.slice A1_3 l1_3.length c1_3) ∧ w'.cell? ⟨gb362, 4, none⟩ = some (.slice A1_4 l1_4.length c1_4)) (ds := []) ba18_0 (by kernel_rfl) rfl rfl ⟨(blk_cell BK361.out 0).trans rfl, (blk_cell BK361.out 1).trans rfl, (blk_cell BK361.out 2).trans rfl, (blk_cell BK361.out 3).trans rfl, (blk_cell BK361.out 4).trans rfl, (blk_cell BK362.out 0).trans rfl, (blk_cell BK362.out 1).trans rfl, (blk_cell BK362.out 2).trans rfl, (blk_cell BK362.out 3).trans rfl, (blk_cell BK362.out 4).trans rfl⟩ (fun hHeld => ?_)
      generalize w38.drew = w39 at BK361 BK362 HB hHeld ⊢
      refine take_ (i := 0) (N := some 20) (v := ?_) (a' := ?_) ba18_1 rfl rfl (by kernel_rfl) (fun _ _ _ h => h) (Or.inl ⟨by rfl, ?_⟩) hHeld ?_ ?_
      rotate_left; · rintro w' ⟨s0, s1, s2, s3, s4, s5, s6, s7, s8, s9⟩; go_simp; with_reducible rfl
      rotate_left; · simp only [Act.put, List.setIfInBounds_toArray, List.set_cons_zero, List.set_cons_succ, i64_w, i32_w]; rfl
      refine take_ (i := 2) (N := some 22) (v := ?_) (a' := ?_) ba18_2 rfl rfl (by kernel_rfl) (fun _ _ _ h => h) (Or.inl ⟨by rfl, ?_⟩) hHeld ?_ ?_
      rotate_left; · rintro w' ⟨s0, s1, s2, s3, s4, s5, s6, s7, s8, s9⟩; go_simp; with_reducible rfl
      rotate_left; · simp only [Act.put, List.setIfInBounds_toArray, List.set_cons_zero, List.set_cons_succ, i64_w, i32_w]; rfl
      refine one_ (i := 1) (N := some 21) ba18_3 rfl rfl (by kernel_rfl) (by decide) (fun K hK => ?_)
      refine gz_ Try.func15 #[.agg #[.int .i64 a0_0, .int .i64 a0_1, .int .i64 a0_2, .slice A0_3 l0_3.length c0_3, .slice A0_4 l0_4.length c0_4]] ?_
      with_reducible refine (laws_toLsa.calls k a0_0 a0_1 a0_2 _ _ l0_3 _ _ l0_4 t365 t366 t367 t368 t371 _ ?side1 ?side2 ?side3 ?side4 A19.out).mono ?_
      (case side1 => exact cb_ HR0_3 HB)
      (case side2 => exact HC0_3.out)
      (case side3 => exact cb_ HR0_4 HB)
      (case side4 => exact HC0_4.out)
      rintro e w40 ⟨v369, v372, rfl, ho0, ho1, hb⟩
      refine ⟨_, rfl, ?_⟩
      have HO370 := Aside0.mk (Kd.R_lower ho0 (bz_ HB))
      have HO373 := Aside0.mk (Kd.R_lower ho1 (bz_ HB))
      replace BK361 := Aside0.mk (bb_ BK361 hb)
      replace BK362 := Aside0.mk (bb_ BK362 hb)
      replace HB := Aside0.mk (bt_ HB hb)
      (try clear hb)
      (try clear hb2)
      (try clear hk)
      (try clear hi)
      (try clear ho0)
      (try clear ho1)
      refine hK.out _ _ ⟨(blk_cell BK361.out 0).trans rfl, (blk_cell BK361.out 1).trans rfl, (blk_cell BK361.out 2).trans rfl, (blk_cell BK361.out 3).trans rfl, (blk_cell BK361.out 4).trans rfl, (blk_cell BK362.out 0).trans rfl, (blk_cell BK362.out 1).trans rfl, (blk_cell BK362.out 2).trans rfl, (blk_cell BK362.out 3).trans rfl, (blk_cell BK362.out 4).trans rfl⟩ (fun hHeld => ?_)
      clear hK K
      refine nz_ 21 ?_
      refine one_ (i := 3) (N := some 23) ba18_4 rfl rfl (by kernel_rfl) (by decide) (fun K hK => ?_)
      refine gz_ Try.func15 #[.agg #[.int .i64 a1_0, .int .i64 a1_1, .int .i64 a1_2, .slice A1_3 l1_3.length c1_3, .slice A1_4 l1_4.length c1_4]] ?_
      with_reducible refine (laws_toLsa.calls k a1_0 a1_1 a1_2 _ _ l1_3 _ _ l1_4 t374 t375 t376 t377 t380 _ ?side1 ?side2 ?side3 ?side4 A20.out).mono ?_
      (case side1 => exact cb_ HR1_3 HB)
      (case side2 => exact HC1_3.out)
      (case side3 => exact cb_ HR1_4 HB)
      (case side4 => exact HC1_4.out)
      rintro e w41 ⟨v378, v381, rfl, ho0, ho1, hb⟩
      refine ⟨_, rfl, ?_⟩
      have HO379 := Aside0.mk (Kd.R_lower (Kd.R_new' ho0 (Kd.R_lt (hd_ HO370))) (bz_ HB))
      have HO382 := Aside0.mk (Kd.R_lower (Kd.R_new' ho1 (Kd.R_lt (hd_ HO373))) (bz_ HB))
      replace HO370 := Aside0.mk (Kd.R_elder' (hd_ HO370) (Kd.R_base ho0) hb)
      replace HO373 := Aside0.mk (Kd.R_elder' (hd_ HO373) (Kd.R_base ho1) hb)
      replace BK361 := Aside0.mk (bb_ BK361 hb)
      replace BK362 := Aside0.mk (bb_ BK362 hb)
      replace HB := Aside0.mk (bt_ HB hb)
      (try clear hb)
      (try clear hb2)
      (try clear hk)
      (try clear hi)
      (try clear ho0)
      (try clear ho1)
      obtain ⟨Ao42, co42, eo42⟩ := Kd.R_slice HO370.out
      (first | subst eo42 | (injection eo42 with f1_ f2_ f3_; have f4_ := f1_.symm; have f5_ := f3_.symm; clear f1_ f2_ f3_; subst f4_; subst f5_))
      obtain ⟨Ao43, co43, eo43⟩ := Kd.R_slice HO373.out
      (first | subst eo43 | (injection eo43 with f1_ f2_ f3_; have f4_ := f1_.symm; have f5_ := f3_.symm; clear f1_ f2_ f3_; subst f4_; subst f5_))
      obtain ⟨Ao44, co44, eo44⟩ := Kd.R_slice HO379.out
      (first | subst eo44 | (injection eo44 with f1_ f2_ f3_; have f4_ := f1_.symm; have f5_ := f3_.symm; clear f1_ f2_ f3_; subst f4_; subst f5_))
      obtain ⟨Ao45, co45, eo45⟩ := Kd.R_slice HO382.out
      (first | subst eo45 | (injection eo45 with f1_ f2_ f3_; have f4_ := f1_.symm; have f5_ := f3_.symm; clear f1_ f2_ f3_; subst f4_; subst f5_))
      refine hK.out _ _ ⟨(blk_cell BK361.out 0).trans rfl, (blk_cell BK361.out 1).trans rfl, (blk_cell BK361.out 2).trans rfl, (blk_cell BK361.out 3).trans rfl, (blk_cell BK361.out 4).trans rfl, (blk_cell BK362.out 0).trans rfl, (blk_cell BK362.out 1).trans rfl, (blk_cell BK362.out 2).trans rfl, (blk_cell BK362.out 3).trans rfl, (blk_cell BK362.out 4).trans rfl⟩ (fun hHeld => ?_)
      clear hK K
      refine nz_ 23 ?_
      refine one_ (i := 4) (N := some 24) ba18_5 rfl rfl (by kernel_rfl) (by decide) (fun K hK => ?_)
      refine gz_ Try.func48 #[.agg #[.int .i64 t365, .int .i64 t366, .int .i64 t367, .slice Ao42 t368.length co42, .slice Ao43 t371.length co43], .agg #[.int .i64 t374, .int .i64 t375, .int .i64 t376, .slice Ao44 t377.length co44, .slice Ao45 t380.length co45]] ?_
      with_reducible refine (spec_Newer.calls k t365 t366 t367 _ _ t368 _ _ t371 t374 t375 t376 _ _ t377 _ _ t380 t383 _ ?side1 ?side2 ?side3 ?side4 ?side5 ?side6 ?side7 ?side8 A21.out).mono ?_
      (case side1 => exact rc_ HO370)
      (case side2 => exact (Kd.R_reads' HO370.out).2.1)
      (case side3 => exact rc_ HO373)
      (case side4 => exact (Kd.R_reads' HO373.out).2.1)
      (case side5 => exact rc_ HO379)
      (case side6 => exact (Kd.R_reads' HO379.out).2.1)
      (case side7 => exact rc_ HO382)
      (case side8 => exact (Kd.R_reads' HO382.out).2.1)
      rintro e w46 ⟨rfl, hb⟩
      refine ⟨_, rfl, ?_⟩
      replace HO370 := rb_ HO370 hb
      replace HO373 := rb_ HO373 hb
      replace HO379 := rb_ HO379 hb
      replace HO382 := rb_ HO382 hb
      replace BK361 := Aside0.mk (bb_ BK361 hb)
      replace BK362 := Aside0.mk (bb_ BK362 hb)
      replace HB := Aside0.mk (bt_ HB hb)
      (try clear hb)
      (try clear hb2)
      (try clear hk)
      (try clear hi)
      refine hK.out _ _ ⟨(blk_cell BK361.out 0).trans rfl, (blk_cell BK361.out 1).trans rfl, (blk_cell BK361.out 2).trans rfl, (blk_cell BK361.out 3).trans rfl, (blk_cell BK361.out 4).trans rfl, (blk_cell BK362.out 0).trans rfl, (blk_cell BK362.out 1).trans rfl, (blk_cell BK362.out 2).trans rfl, (blk_cell BK362.out 3).trans rfl, (blk_cell BK362.out 4).trans rfl⟩ (fun hHeld => ?_)
      clear hK K
      refine nz_ 24 ?_
      refine pure_ (i := 5) (N := some 6) (v := ?_) (a' := ?_) ba18_6 rfl rfl (by kernel_rfl) (fun _ _ _ h => h) (Or.inl ⟨by rfl, ?_⟩) ?_ ?_
      rotate_left; · intro w'; go_simp; with_reducible rfl
      rotate_left; · simp only [Act.put, List.setIfInBounds_toArray, List.set_cons_zero, List.set_cons_succ, i64_w, i32_w]; rfl
      refine done_ (by kernel_rfl) ?_
      have hcz47_0 := cz_ BK361 0 (.int .i64 a0_0)
      have hcz47_1 := cz_ BK361 1 (.int .i64 a0_1)
      have hcz47_2 := cz_ BK361 2 (.int .i64 a0_2)
      have hcz47_3 := cz_ BK361 3 (.slice A0_3 l0_3.length c0_3)
      have hcz47_4 := cz_ BK361 4 (.slice A0_4 l0_4.length c0_4)
      have hfz47_0 := blk_frozen BK361.out 0
      have hfz47_1 := blk_frozen BK361.out 1
      have hfz47_2 := blk_frozen BK361.out 2
      have hfz47_3 := blk_frozen BK361.out 3
      have hfz47_4 := blk_frozen BK361.out 4
      try go_wp2_with (first | ((with_reducible refine gate_callee (f := 15) rfl ?_); refine gl_ (some 26) Try.func15 #[.agg #[.int .i64 a0_0, .int .i64 a0_1, .int .i64 a0_2, .slice A0_3 l0_3.length c0_3, .slice A0_4 l0_4.length c0_4]] ?_; (with_reducible refine (laws_toLsa.calls k a0_0 a0_1 a0_2 _ _ l0_3 _ _ l0_4 t384 t385 t386 t387 t390 _ ?side1 ?side2 ?side3 ?side4 A22.out).mono ?_); (case side1 => exact cb_ HR0_3 HB); (case side2 => exact HC0_3.out); (case side3 => exact cb_ HR0_4 HB); (case side4 => exact HC0_4.out); rintro e w48 ⟨v388, v391, rfl, ho0, ho1, hb⟩; refine ⟨_, rfl, ?_⟩; have HO389 := Aside0.mk (Kd.R_lower (Kd.R_new' (Kd.R_new' ho0 (Kd.R_lt (hd_ HO370))) (Kd.R_lt (hd_ HO379))) (bz_ HB)); have HO392 := Aside0.mk (Kd.R_lower (Kd.R_new' (Kd.R_new' ho1 (Kd.R_lt (hd_ HO373))) (Kd.R_lt (hd_ HO382))) (bz_ HB)); replace HO370 := Aside0.mk (Kd.R_elder' (hd_ HO370) (Kd.R_base ho0) hb); replace HO379 := Aside0.mk (Kd.R_elder' (hd_ HO379) (Kd.R_base ho0) hb); replace HO373 := Aside0.mk (Kd.R_elder' (hd_ HO373) (Kd.R_base ho1) hb); replace HO382 := Aside0.mk (Kd.R_elder' (hd_ HO382) (Kd.R_base ho1) hb); replace BK361 := Aside0.mk (bb_ BK361 hb); replace BK362 := Aside0.mk (bb_ BK362 hb); replace HB := Aside0.mk (bt_ HB hb); (try clear hb); (try clear hb2); (try clear hk); (try clear hi); (try clear ho0); (try clear ho1)) | ((with_reducible refine gate_dst (N := 7) rfl ?_); refine box_event ?hg (N := 7) ?hd (cs := #[.int .i64 0, .int .i64 0, .int .i64 0, .slice none 0 0, .slice none 0 0]) (t := 31) ?hr ?_; (case hd => rfl); (case hg => rfl); (case hr => first | (go_simp; done) | (go_simp; rfl)); intro gb393 hg w49 hbox hb; have BK393 := Aside0.mk hbox; have GW393 := ge_ HB hg; have GE393 := ge_ HB hg; have NB361_393 := nl_ BK361 hg; have NB393_361 := ng_ BK361 hg; have NB362_393 := nl_ BK362 hg; have NB393_362 := ng_ BK362 hg; replace HO370 := rb_ HO370 hb; replace HO373 := rb_ HO373 hb; replace HO379 := rb_ HO379 hb; replace HO382 := rb_ HO382 hb; replace HO389 := rb_ HO389 hb; replace HO392 := rb_ HO392 hb; replace HB := Aside0.mk (bt_ HB hb); replace BK361 := Aside0.mk (bb_ BK361 hb); replace BK362 := Aside0.mk (bb_ BK362 hb); clear hb hbox hg; have hnb50 := NB393_361.out; have hnc50 := NB361_393.out; have hnb51 := NB393_362.out; have hnc51 := NB362_393.out; have hcz52_0 := cz_ BK393 0 (.int .i64 0); have hcz52_1 := cz_ BK393 1 (.int .i64 0); have hcz52_2 := cz_ BK393 2 (.int .i64 0); have hcz52_3 := cz_ BK393 3 (.slice none 0 0); have hcz52_4 := cz_ BK393 4 (.slice none 0 0); have hfz52_0 := blk_frozen BK393.out 0; have hfz52_1 := blk_frozen BK393.out 1; have hfz52_2 := blk_frozen BK393.out 2; have hfz52_3 := blk_frozen BK393.out 3; have hfz52_4 := blk_frozen BK393.out 4; obtain ⟨Ao53, co53, eo53⟩ := Kd.R_slice HO389.out; subst eo53; obtain ⟨Ao54, co54, eo54⟩ := Kd.R_slice HO392.out; subst eo54; have hcz55_0 := cz_ BK362 0 (.int .i64 a1_0); have hcz55_1 := cz_ BK362 1 (.int .i64 a1_1); have hcz55_2 := cz_ BK362 2 (.int .i64 a1_2); have hcz55_3 := cz_ BK362 3 (.slice A1_3 l1_3.length c1_3); have hcz55_4 := cz_ BK362 4 (.slice A1_4 l1_4.length c1_4); have hfz55_0 := blk_frozen BK362.out 0; have hfz55_1 := blk_frozen BK362.out 1; have hfz55_2 := blk_frozen BK362.out 2; have hfz55_3 := blk_frozen BK362.out 3; have hfz55_4 := blk_frozen BK362.out 4) | ((with_reducible refine gate_callee (f := 15) rfl ?_); refine gl_ (some 28) Try.func15 #[.agg #[.int .i64 a1_0, .int .i64 a1_1, .int .i64 a1_2, .slice A1_3 l1_3.length c1_3, .slice A1_4 l1_4.length c1_4]] ?_; (with_reducible refine (laws_toLsa.calls k a1_0 a1_1 a1_2 _ _ l1_3 _ _ l1_4 t394 t395 t396 t397 t400 _ ?side1 ?side2 ?side3 ?side4 A23.out).mono ?_); (case side1 => exact Kd.C_below HR1_3.out (by repeat (first | (with_reducible first | exact HB.out | apply below_alloc | apply pw_below_drewN | apply below_drew1 | refine below_set ?_ GE361.out | refine below_set ?_ GE362.out | refine below_set ?_ GE393.out) | exact HB.out))); (case side2 => exact HC1_3.out); (case side3 => exact Kd.C_below HR1_4.out (by repeat (first | (with_reducible first | exact HB.out | apply below_alloc | apply pw_below_drewN | apply below_drew1 | refine below_set ?_ GE361.out | refine below_set ?_ GE362.out | refine below_set ?_ GE393.out) | exact HB.out))); (case side4 => exact HC1_4.out); rintro e w56 ⟨v398, v401, rfl, ho0, ho1, hb⟩; refine ⟨_, rfl, ?_⟩; have HO399 := Aside0.mk (Kd.R_lower (Kd.R_new' (Kd.R_new' (Kd.R_new' ho0 (Kd.R_lt (hs_ HO370 BK393))) (Kd.R_lt (hs_ HO379 BK393))) (Kd.R_lt (hs_ HO389 BK393))) (bz_ HB)); have HO402 := Aside0.mk (Kd.R_lower (Kd.R_new' (Kd.R_new' (Kd.R_new' ho1 (Kd.R_lt (hs_ HO373 BK393))) (Kd.R_lt (hs_ HO382 BK393))) (Kd.R_lt (hs_ HO392 BK393))) (bz_ HB)); replace HO370 := Aside0.mk (Kd.R_elder' (hs_ HO370 BK393) (Kd.R_base ho0) hb); replace HO379 := Aside0.mk (Kd.R_elder' (hs_ HO379 BK393) (Kd.R_base ho0) hb); replace HO389 := Aside0.mk (Kd.R_elder' (hs_ HO389 BK393) (Kd.R_base ho0) hb); replace HO373 := Aside0.mk (Kd.R_elder' (hs_ HO373 BK393) (Kd.R_base ho1) hb); replace HO382 := Aside0.mk (Kd.R_elder' (hs_ HO382 BK393) (Kd.R_base ho1) hb); replace HO392 := Aside0.mk (Kd.R_elder' (hs_ HO392 BK393) (Kd.R_base ho1) hb); replace BK361 := bf_ BK361 NB361_393 hb; replace BK362 := bf_ BK362 NB362_393 hb; replace BK393 := Aside0.mk (blk_below (g := gb393) (o := .cells #[.int .i64 t384, .int .i64 t385, .int .i64 t386, .slice Ao53 t387.length co53, .slice Ao54 t390.length co54] 31 (0, 0)) (by (with_reducible repeat (first | refine blk_drewN ?_ _ | refine blk_drew ?_ | refine blk_alloc ?_ _)); refine blk_put (cs := #[.int .i64 t384, .int .i64 t385, .int .i64 t386, .slice Ao53 t387.length co53, .slice none 0 0]) ?_ 4 _ rfl; (with_reducible repeat (first | refine blk_drewN ?_ _ | refine blk_drew ?_ | refine blk_alloc ?_ _)); refine blk_put (cs := #[.int .i64 t384, .int .i64 t385, .int .i64 t386, .slice none 0 0, .slice none 0 0]) ?_ 3 _ rfl; (with_reducible repeat (first | refine blk_drewN ?_ _ | refine blk_drew ?_ | refine blk_alloc ?_ _)); refine blk_put (cs := #[.int .i64 t384, .int .i64 t385, .int .i64 0, .slice none 0 0, .slice none 0 0]) ?_ 2 _ rfl; (with_reducible repeat (first | refine blk_drewN ?_ _ | refine blk_drew ?_ | refine blk_alloc ?_ _)); refine blk_put (cs := #[.int .i64 t384, .int .i64 0, .int .i64 0, .slice none 0 0, .slice none 0 0]) ?_ 1 _ rfl; (with_reducible repeat (first | refine blk_drewN ?_ _ | refine blk_drew ?_ | refine blk_alloc ?_ _)); refine blk_put (cs := #[.int .i64 0, .int .i64 0, .int .i64 0, .slice none 0 0, .slice none 0 0]) ?_ 0 _ rfl; (with_reducible repeat (first | refine blk_drewN ?_ _ | refine blk_drew ?_ | refine blk_alloc ?_ _)); exact BK393.out) hb); replace HB := Aside0.mk (bt_ HB hb); (try clear hb); (try clear hb2); (try clear hk); (try clear hi); (try clear ho0); (try clear ho1)) | ((with_reducible refine gate_dst (N := 8) rfl ?_); refine box_event ?hg (N := 8) ?hd (cs := #[.int .i64 0, .int .i64 0, .int .i64 0, .slice none 0 0, .slice none 0 0]) (t := 31) ?hr ?_; (case hd => rfl); (case hg => rfl); (case hr => first | (go_simp; done) | (go_simp; rfl)); intro gb403 hg w57 hbox hb; have BK403 := Aside0.mk hbox; have GW403 := ge_ HB hg; have GE403 := ge_ HB hg; have NB361_403 := nl_ BK361 hg; have NB403_361 := ng_ BK361 hg; have NB362_403 := nl_ BK362 hg; have NB403_362 := ng_ BK362 hg; have NB393_403 := nl_ BK393 hg; have NB403_393 := ng_ BK393 hg; replace HO370 := rb_ HO370 hb; replace HO373 := rb_ HO373 hb; replace HO379 := rb_ HO379 hb; replace HO382 := rb_ HO382 hb; replace HO389 := rb_ HO389 hb; replace HO392 := rb_ HO392 hb; replace HO399 := rb_ HO399 hb; replace HO402 := rb_ HO402 hb; replace HB := Aside0.mk (bt_ HB hb); replace BK361 := Aside0.mk (bb_ BK361 hb); replace BK362 := Aside0.mk (bb_ BK362 hb); replace BK393 := Aside0.mk (bb_ BK393 hb); clear hb hbox hg; have hnb58 := NB403_361.out; have hnc58 := NB361_403.out; have hnb59 := NB403_362.out; have hnc59 := NB362_403.out; have hnb60 := NB403_393.out; have hnc60 := NB393_403.out; have hcz61_0 := cz_ BK403 0 (.int .i64 0); have hcz61_1 := cz_ BK403 1 (.int .i64 0); have hcz61_2 := cz_ BK403 2 (.int .i64 0); have hcz61_3 := cz_ BK403 3 (.slice none 0 0); have hcz61_4 := cz_ BK403 4 (.slice none 0 0); have hfz61_0 := blk_frozen BK403.out 0; have hfz61_1 := blk_frozen BK403.out 1; have hfz61_2 := blk_frozen BK403.out 2; have hfz61_3 := blk_frozen BK403.out 3; have hfz61_4 := blk_frozen BK403.out 4; obtain ⟨Ao62, co62, eo62⟩ := Kd.R_slice HO399.out; subst eo62; obtain ⟨Ao63, co63, eo63⟩ := Kd.R_slice HO402.out; subst eo63; have hcz64_0 := cz_ BK393 0 (.int .i64 t384); have hcz64_1 := cz_ BK393 1 (.int .i64 t385); have hcz64_2 := cz_ BK393 2 (.int .i64 t386); have hcz64_3 := cz_ BK393 3 (.slice Ao53 t387.length co53); have hcz64_4 := cz_ BK393 4 (.slice Ao54 t390.length co54); have hfz64_0 := blk_frozen BK393.out 0; have hfz64_1 := blk_frozen BK393.out 1; have hfz64_2 := blk_frozen BK393.out 2; have hfz64_3 := blk_frozen BK393.out 3; have hfz64_4 := blk_frozen BK393.out 4) | ((with_reducible refine gate_callee (f := 49) rfl ?_); refine gl_ (some 31) Try.func49 #[.agg #[.int .i64 t384, .int .i64 t385, .int .i64 t386, .slice Ao53 t387.length co53, .slice Ao54 t390.length co54], .agg #[.int .i64 t394, .int .i64 t395, .int .i64 t396, .slice Ao62 t397.length co62, .slice Ao63 t400.length co63]] ?_; (with_reducible refine (impl_Newer.calls k t384 t385 t386 _ _ t387 _ _ t390 t394 t395 t396 _ _ t397 _ _ t400 t404 _ ?side1 ?side2 ?side3 ?side4 ?side5 ?side6 ?side7 ?side8 A24.out).mono ?_); (case side1 => refine (Kd.R_reads' (e := 70) (base := w.heap.size) (ok := fun k_ => (((True ∧ some k_ ≠ (.slice Ao42 t368.length co42 : Value).ownBlock) ∧ some k_ ≠ (.slice Ao44 t377.length co44 : Value).ownBlock) ∧ some k_ ≠ (.slice Ao62 t397.length co62 : Value).ownBlock)) (n := t387.length) (c := co53) ?_).2.2; exact (hs_ HO389 BK403)); (case side2 => exact (Kd.R_reads' HO389.out).2.1); (case side3 => refine (Kd.R_reads' (e := 74) (base := w.heap.size) (ok := fun k_ => (((True ∧ some k_ ≠ (.slice Ao43 t371.length co43 : Value).ownBlock) ∧ some k_ ≠ (.slice Ao45 t380.length co45 : Value).ownBlock) ∧ some k_ ≠ (.slice Ao63 t400.length co63 : Value).ownBlock)) (n := t390.length) (c := co54) ?_).2.2; exact (hs_ HO392 BK403)); (case side4 => exact (Kd.R_reads' HO392.out).2.1); (case side5 => refine (Kd.R_reads' (e := 70) (base := w.heap.size) (ok := fun k_ => (((True ∧ some k_ ≠ (.slice Ao42 t368.length co42 : Value).ownBlock) ∧ some k_ ≠ (.slice Ao44 t377.length co44 : Value).ownBlock) ∧ some k_ ≠ (.slice Ao53 t387.length co53 : Value).ownBlock)) (n := t397.length) (c := co62) ?_).2.2; exact (hs_ HO399 BK403)); (case side6 => exact (Kd.R_reads' HO399.out).2.1); (case side7 => refine (Kd.R_reads' (e := 74) (base := w.heap.size) (ok := fun k_ => (((True ∧ some k_ ≠ (.slice Ao43 t371.length co43 : Value).ownBlock) ∧ some k_ ≠ (.slice Ao45 t380.length co45 : Value).ownBlock) ∧ some k_ ≠ (.slice Ao54 t390.length co54 : Value).ownBlock)) (n := t400.length) (c := co63) ?_).2.2; exact (hs_ HO402 BK403)); (case side8 => exact (Kd.R_reads' HO402.out).2.1); rintro e w65 ⟨rfl, hb⟩; refine ⟨_, rfl, ?_⟩; replace HO370 := rs_ HO370 BK403 hb; replace HO373 := rs_ HO373 BK403 hb; replace HO379 := rs_ HO379 BK403 hb; replace HO382 := rs_ HO382 BK403 hb; replace HO389 := rs_ HO389 BK403 hb; replace HO392 := rs_ HO392 BK403 hb; replace HO399 := rs_ HO399 BK403 hb; replace HO402 := rs_ HO402 BK403 hb; replace BK361 := bf_ BK361 NB361_403 hb; replace BK362 := bf_ BK362 NB362_403 hb; replace BK393 := bf_ BK393 NB393_403 hb; replace BK403 := Aside0.mk (blk_below (g := gb403) (o := .cells #[.int .i64 t394, .int .i64 t395, .int .i64 t396, .slice Ao62 t397.length co62, .slice Ao63 t400.length co63] 31 (0, 0)) (by (with_reducible repeat (first | refine blk_drewN ?_ _ | refine blk_drew ?_ | refine blk_alloc ?_ _)); refine blk_put (cs := #[.int .i64 t394, .int .i64 t395, .int .i64 t396, .slice Ao62 t397.length co62, .slice none 0 0]) ?_ 4 _ rfl; (with_reducible repeat (first | refine blk_drewN ?_ _ | refine blk_drew ?_ | refine blk_alloc ?_ _)); refine blk_put (cs := #[.int .i64 t394, .int .i64 t395, .int .i64 t396, .slice none 0 0, .slice none 0 0]) ?_ 3 _ rfl; (with_reducible repeat (first | refine blk_drewN ?_ _ | refine blk_drew ?_ | refine blk_alloc ?_ _)); refine blk_put (cs := #[.int .i64 t394, .int .i64 t395, .int .i64 0, .slice none 0 0, .slice none 0 0]) ?_ 2 _ rfl; (with_reducible repeat (first | refine blk_drewN ?_ _ | refine blk_drew ?_ | refine blk_alloc ?_ _)); refine blk_put (cs := #[.int .i64 t394, .int .i64 0, .int .i64 0, .slice none 0 0, .slice none 0 0]) ?_ 1 _ rfl; (with_reducible repeat (first | refine blk_drewN ?_ _ | refine blk_drew ?_ | refine blk_alloc ?_ _)); refine blk_put (cs := #[.int .i64 0, .int .i64 0, .int .i64 0, .slice none 0 0, .slice none 0 0]) ?_ 0 _ rfl; (with_reducible repeat (first | refine blk_drewN ?_ _ | refine blk_drew ?_ | refine blk_alloc ?_ _)); exact BK403.out) hb); replace HB := Aside0.mk (bt_ HB hb); (try clear hb); (try clear hb2); (try clear hk); (try clear hi)))
      replace HO370 := Aside0.mk (Kd.R_drew HO370.out)
      replace HO373 := Aside0.mk (Kd.R_drew HO373.out)
      replace HO379 := Aside0.mk (Kd.R_drew HO379.out)
      replace HO382 := Aside0.mk (Kd.R_drew HO382.out)
      replace HO389 := Aside0.mk (Kd.R_drew HO389.out)
      replace HO392 := Aside0.mk (Kd.R_drew HO392.out)
      replace HO399 := Aside0.mk (Kd.R_drew HO399.out)
      replace HO402 := Aside0.mk (Kd.R_drew HO402.out)
      replace BK361 := Aside0.mk (blk_drew BK361.out)
      replace BK362 := Aside0.mk (blk_drew BK362.out)
      replace BK393 := Aside0.mk (blk_drew BK393.out)
      replace BK403 := Aside0.mk (blk_drew BK403.out)
      replace HB := Aside0.mk (below_drew1 HB.out)
      refine start_ (n := 5) (S := fun w' => w'.cell? ⟨gb393, 0, none⟩ = some (.int .i64 t384) ∧ w'.cell? ⟨gb393, 1, none⟩ = some (.int .i64 t385) ∧ w'.cell? ⟨gb393, 2, none⟩ = some (.int .i64 t386) ∧ w'.cell? ⟨gb393, 3, none⟩ = some (.slice Ao53 t387.length co53) ∧ w'.cell? ⟨gb393, 4, none⟩ = some (.slice Ao54 t390.length co54) ∧ w'.cell? ⟨gb361, 0, none⟩ = some (.int .i64 a0_0) ∧ w'.cell? ⟨gb361, 1, none⟩ = some (.int .i64 a0_1) ∧ w'.cell? ⟨gb361, 2, none⟩ = some (.int .i64 a0_2) ∧ w'.cell? ⟨gb361, 3, none⟩ = some (.slice A0_3 l0_3.length c0_3) ∧ w'.cell? ⟨gb361, 4, none⟩ = some (.slice A0_4 l0_4.length c0_4)) (ds := []) ba18_7 (by kernel_rfl) rfl rfl ⟨(blk_cell BK393.out 0).trans rfl, (blk_cell BK393.out 1).trans rfl, (blk_cell BK393.out 2).trans rfl, (blk_cell BK393.out 3).trans rfl, (blk_cell BK393.out 4).trans rfl, (blk_cell BK361.out 0).trans rfl, (blk_cell BK361.out 1).trans rfl, (blk_cell BK361.out 2).trans rfl, (blk_cell BK361.out 3).trans rfl, (blk_cell BK361.out 4).trans rfl⟩ (fun hHeld => ?_)
      generalize w65.drew = w66 at HO370 HO373 HO379 HO382 HO389 HO392 HO399 HO402 BK361 BK362 BK393 BK403 HB hHeld ⊢
      refine take_ (i := 0) (N := some 35) (v := ?_) (a' := ?_) ba18_8 rfl rfl (by kernel_rfl) (fun _ _ _ h => h) (Or.inl ⟨by rfl, ?_⟩) hHeld ?_ ?_
      rotate_left; · rintro w' ⟨s0, s1, s2, s3, s4, s5, s6, s7, s8, s9⟩; go_simp; with_reducible rfl
      rotate_left; · simp only [Act.put, List.setIfInBounds_toArray, List.set_cons_zero, List.set_cons_succ, i64_w, i32_w]; rfl
      refine take_ (i := 1) (N := some 36) (v := ?_) (a' := ?_) ba18_9 rfl rfl (by kernel_rfl) (fun _ _ _ h => h) (Or.inl ⟨by rfl, ?_⟩) hHeld ?_ ?_
      rotate_left; · rintro w' ⟨s0, s1, s2, s3, s4, s5, s6, s7, s8, s9⟩; go_simp; with_reducible rfl
      rotate_left; · simp only [Act.put, List.setIfInBounds_toArray, List.set_cons_zero, List.set_cons_succ, i64_w, i32_w]; rfl
      refine one_ (i := 2) (N := some 37) ba18_10 rfl rfl (by kernel_rfl) (by decide) (fun K hK => ?_)
      refine gz_ Try.func15 #[.agg #[.int .i64 a0_0, .int .i64 a0_1, .int .i64 a0_2, .slice A0_3 l0_3.length c0_3, .slice A0_4 l0_4.length c0_4]] ?_
      with_reducible refine (laws_toLsa.calls k a0_0 a0_1 a0_2 _ _ l0_3 _ _ l0_4 t405 t406 t407 t408 t411 _ ?side1 ?side2 ?side3 ?side4 A26.out).mono ?_
      (case side1 => exact cb_ HR0_3 HB)
      (case side2 => exact HC0_3.out)
      (case side3 => exact cb_ HR0_4 HB)
      (case side4 => exact HC0_4.out)
      rintro e w67 ⟨v409, v412, rfl, ho0, ho1, hb⟩
      refine ⟨_, rfl, ?_⟩
      have HO410 := Aside0.mk (Kd.R_lower (Kd.R_new' (Kd.R_new' (Kd.R_new' (Kd.R_new' ho0 (Kd.R_lt (hd_ HO370))) (Kd.R_lt (hd_ HO379))) (Kd.R_lt (hd_ HO389))) (Kd.R_lt (hd_ HO399))) (bz_ HB))
      have HO413 := Aside0.mk (Kd.R_lower (Kd.R_new' (Kd.R_new' (Kd.R_new' (Kd.R_new' ho1 (Kd.R_lt (hd_ HO373))) (Kd.R_lt (hd_ HO382))) (Kd.R_lt (hd_ HO392))) (Kd.R_lt (hd_ HO402))) (bz_ HB))
      replace HO370 := Aside0.mk (Kd.R_elder' (hd_ HO370) (Kd.R_base ho0) hb)
      replace HO379 := Aside0.mk (Kd.R_elder' (hd_ HO379) (Kd.R_base ho0) hb)
      replace HO389 := Aside0.mk (Kd.R_elder' (hd_ HO389) (Kd.R_base ho0) hb)
      replace HO399 := Aside0.mk (Kd.R_elder' (hd_ HO399) (Kd.R_base ho0) hb)
      replace HO373 := Aside0.mk (Kd.R_elder' (hd_ HO373) (Kd.R_base ho1) hb)
      replace HO382 := Aside0.mk (Kd.R_elder' (hd_ HO382) (Kd.R_base ho1) hb)
      replace HO392 := Aside0.mk (Kd.R_elder' (hd_ HO392) (Kd.R_base ho1) hb)
      replace HO402 := Aside0.mk (Kd.R_elder' (hd_ HO402) (Kd.R_base ho1) hb)
      replace BK361 := Aside0.mk (bb_ BK361 hb)
      replace BK362 := Aside0.mk (bb_ BK362 hb)
      replace BK393 := Aside0.mk (bb_ BK393 hb)
      replace BK403 := Aside0.mk (bb_ BK403 hb)
      replace HB := Aside0.mk (bt_ HB hb)
      (try clear hb)
      (try clear hb2)
      (try clear hk)
      (try clear hi)
      (try clear ho0)
      (try clear ho1)
      obtain ⟨Ao68, co68, eo68⟩ := Kd.R_slice HO410.out
      (first | subst eo68 | (injection eo68 with f1_ f2_ f3_; have f4_ := f1_.symm; have f5_ := f3_.symm; clear f1_ f2_ f3_; subst f4_; subst f5_))
      obtain ⟨Ao69, co69, eo69⟩ := Kd.R_slice HO413.out
      (first | subst eo69 | (injection eo69 with f1_ f2_ f3_; have f4_ := f1_.symm; have f5_ := f3_.symm; clear f1_ f2_ f3_; subst f4_; subst f5_))
      refine hK.out _ _ ⟨(blk_cell BK393.out 0).trans rfl, (blk_cell BK393.out 1).trans rfl, (blk_cell BK393.out 2).trans rfl, (blk_cell BK393.out 3).trans rfl, (blk_cell BK393.out 4).trans rfl, (blk_cell BK361.out 0).trans rfl, (blk_cell BK361.out 1).trans rfl, (blk_cell BK361.out 2).trans rfl, (blk_cell BK361.out 3).trans rfl, (blk_cell BK361.out 4).trans rfl⟩ (fun hHeld => ?_)
      clear hK K
      refine nz_ 37 ?_
      refine one_ (i := 3) (N := some 38) ba18_11 rfl rfl (by kernel_rfl) (by decide) (fun K hK => ?_)
      refine gz_ Try.func17 #[.agg #[.int .i64 t384, .int .i64 t385, .int .i64 t386, .slice Ao53 t387.length co53, .slice Ao54 t390.length co54], .agg #[.int .i64 t405, .int .i64 t406, .int .i64 t407, .slice Ao68 t408.length co68, .slice Ao69 t411.length co69]] ?_
      with_reducible refine (laws_eqLsa.calls k t384 t385 t386 _ _ t387 _ _ t390 t405 t406 t407 _ _ t408 _ _ t411 true _ ?side1 ?side2 ?side3 ?side4 ?side5 ?side6 ?side7 ?side8 A27.out).mono ?_
      (case side1 => exact rc_ HO389)
      (case side2 => exact (Kd.R_reads' HO389.out).2.1)
      (case side3 => exact rc_ HO392)
      (case side4 => exact (Kd.R_reads' HO392.out).2.1)
      (case side5 => exact rc_ HO410)
      (case side6 => exact (Kd.R_reads' HO410.out).2.1)
      (case side7 => exact rc_ HO413)
      (case side8 => exact (Kd.R_reads' HO413.out).2.1)
      rintro e w70 ⟨rfl, hb⟩
      refine ⟨_, rfl, ?_⟩
      replace HO370 := rb_ HO370 hb
      replace HO373 := rb_ HO373 hb
      replace HO379 := rb_ HO379 hb
      replace HO382 := rb_ HO382 hb
      replace HO389 := rb_ HO389 hb
      replace HO392 := rb_ HO392 hb
      replace HO399 := rb_ HO399 hb
      replace HO402 := rb_ HO402 hb
      replace HO410 := rb_ HO410 hb
      replace HO413 := rb_ HO413 hb
      replace BK361 := Aside0.mk (bb_ BK361 hb)
      replace BK362 := Aside0.mk (bb_ BK362 hb)
      replace BK393 := Aside0.mk (bb_ BK393 hb)
      replace BK403 := Aside0.mk (bb_ BK403 hb)
      replace HB := Aside0.mk (bt_ HB hb)
      (try clear hb)
      (try clear hb2)
      (try clear hk)
      (try clear hi)
      refine hK.out _ _ ⟨(blk_cell BK393.out 0).trans rfl, (blk_cell BK393.out 1).trans rfl, (blk_cell BK393.out 2).trans rfl, (blk_cell BK393.out 3).trans rfl, (blk_cell BK393.out 4).trans rfl, (blk_cell BK361.out 0).trans rfl, (blk_cell BK361.out 1).trans rfl, (blk_cell BK361.out 2).trans rfl, (blk_cell BK361.out 3).trans rfl, (blk_cell BK361.out 4).trans rfl⟩ (fun hHeld => ?_)
      clear hK K
      refine nz_ 38 ?_
      refine pure_ (i := 4) (N := some 39) (v := ?_) (a' := ?_) ba18_12 rfl rfl (by kernel_rfl) (fun _ _ _ h => h) (Or.inl ⟨by rfl, ?_⟩) ?_ ?_
      rotate_left; · intro w'; go_simp; with_reducible rfl
      rotate_left; · simp only [Act.put, List.setIfInBounds_toArray, List.set_cons_zero, List.set_cons_succ, i64_w, i32_w]; rfl
      refine done_ (by kernel_rfl) ?_
      try go_wp2
      replace HO370 := Aside0.mk (Kd.R_drew HO370.out)
      replace HO373 := Aside0.mk (Kd.R_drew HO373.out)
      replace HO379 := Aside0.mk (Kd.R_drew HO379.out)
      replace HO382 := Aside0.mk (Kd.R_drew HO382.out)
      replace HO389 := Aside0.mk (Kd.R_drew HO389.out)
      replace HO392 := Aside0.mk (Kd.R_drew HO392.out)
      replace HO399 := Aside0.mk (Kd.R_drew HO399.out)
      replace HO402 := Aside0.mk (Kd.R_drew HO402.out)
      replace HO410 := Aside0.mk (Kd.R_drew HO410.out)
      replace HO413 := Aside0.mk (Kd.R_drew HO413.out)
      replace BK361 := Aside0.mk (blk_drew BK361.out)
      replace BK362 := Aside0.mk (blk_drew BK362.out)
      replace BK393 := Aside0.mk (blk_drew BK393.out)
      replace BK403 := Aside0.mk (blk_drew BK403.out)
      replace HB := Aside0.mk (below_drew1 HB.out)
      refine start_ (n := 5) (S := fun w' => w'.cell? ⟨gb403, 0, none⟩ = some (.int .i64 t394) ∧ w'.cell? ⟨gb403, 1, none⟩ = some (.int .i64 t395) ∧ w'.cell? ⟨gb403, 2, none⟩ = some (.int .i64 t396) ∧ w'.cell? ⟨gb403, 3, none⟩ = some (.slice Ao62 t397.length co62) ∧ w'.cell? ⟨gb403, 4, none⟩ = some (.slice Ao63 t400.length co63) ∧ w'.cell? ⟨gb362, 0, none⟩ = some (.int .i64 a1_0) ∧ w'.cell? ⟨gb362, 1, none⟩ = some (.int .i64 a1_1) ∧ w'.cell? ⟨gb362, 2, none⟩ = some (.int .i64 a1_2) ∧ w'.cell? ⟨gb362, 3, none⟩ = some (.slice A1_3 l1_3.length c1_3) ∧ w'.cell? ⟨gb362, 4, none⟩ = some (.slice A1_4 l1_4.length c1_4)) (ds := []) ba18_7 (by kernel_rfl) rfl rfl ⟨(blk_cell BK403.out 0).trans rfl, (blk_cell BK403.out 1).trans rfl, (blk_cell BK403.out 2).trans rfl, (blk_cell BK403.out 3).trans rfl, (blk_cell BK403.out 4).trans rfl, (blk_cell BK362.out 0).trans rfl, (blk_cell BK362.out 1).trans rfl, (blk_cell BK362.out 2).trans rfl, (blk_cell BK362.out 3).trans rfl, (blk_cell BK362.out 4).trans rfl⟩ (fun hHeld => ?_)
      generalize w70.drew = w71 at HO370 HO373 HO379 HO382 HO389 HO392 HO399 HO402 HO410 HO413 BK361 BK362 BK393 BK403 HB hHeld ⊢
      refine take_ (i := 0) (N := some 40) (v := ?_) (a' := ?_) ba18_8 rfl rfl (by kernel_rfl) (fun _ _ _ h => h) (Or.inl ⟨by rfl, ?_⟩) hHeld ?_ ?_
      rotate_left; · rintro w' ⟨s0, s1, s2, s3, s4, s5, s6, s7, s8, s9⟩; go_simp; with_reducible rfl
      rotate_left; · simp only [Act.put, List.setIfInBounds_toArray, List.set_cons_zero, List.set_cons_succ, i64_w, i32_w]; rfl
      refine take_ (i := 1) (N := some 41) (v := ?_) (a' := ?_) ba18_9 rfl rfl (by kernel_rfl) (fun _ _ _ h => h) (Or.inl ⟨by rfl, ?_⟩) hHeld ?_ ?_
      rotate_left; · rintro w' ⟨s0, s1, s2, s3, s4, s5, s6, s7, s8, s9⟩; go_simp; with_reducible rfl
      rotate_left; · simp only [Act.put, List.setIfInBounds_toArray, List.set_cons_zero, List.set_cons_succ, i64_w, i32_w]; rfl
      refine one_ (i := 2) (N := some 42) ba18_10 rfl rfl (by kernel_rfl) (by decide) (fun K hK => ?_)
      refine gz_ Try.func15 #[.agg #[.int .i64 a1_0, .int .i64 a1_1, .int .i64 a1_2, .slice A1_3 l1_3.length c1_3, .slice A1_4 l1_4.length c1_4]] ?_
      with_reducible refine (laws_toLsa.calls k a1_0 a1_1 a1_2 _ _ l1_3 _ _ l1_4 t415 t416 t417 t418 t421 _ ?side1 ?side2 ?side3 ?side4 A29.out).mono ?_
      (case side1 => exact cb_ HR1_3 HB)
      (case side2 => exact HC1_3.out)
      (case side3 => exact cb_ HR1_4 HB)
      (case side4 => exact HC1_4.out)
      rintro e w72 ⟨v419, v422, rfl, ho0, ho1, hb⟩
      refine ⟨_, rfl, ?_⟩
      have HO420 := Aside0.mk (Kd.R_lower (Kd.R_new' (Kd.R_new' (Kd.R_new' (Kd.R_new' (Kd.R_new' ho0 (Kd.R_lt (hd_ HO370))) (Kd.R_lt (hd_ HO379))) (Kd.R_lt (hd_ HO389))) (Kd.R_lt (hd_ HO399))) (Kd.R_lt (hd_ HO410))) (bz_ HB))
      have HO423 := Aside0.mk (Kd.R_lower (Kd.R_new' (Kd.R_new' (Kd.R_new' (Kd.R_new' (Kd.R_new' ho1 (Kd.R_lt (hd_ HO373))) (Kd.R_lt (hd_ HO382))) (Kd.R_lt (hd_ HO392))) (Kd.R_lt (hd_ HO402))) (Kd.R_lt (hd_ HO413))) (bz_ HB))
      replace HO370 := Aside0.mk (Kd.R_elder' (hd_ HO370) (Kd.R_base ho0) hb)
      replace HO379 := Aside0.mk (Kd.R_elder' (hd_ HO379) (Kd.R_base ho0) hb)
      replace HO389 := Aside0.mk (Kd.R_elder' (hd_ HO389) (Kd.R_base ho0) hb)
      replace HO399 := Aside0.mk (Kd.R_elder' (hd_ HO399) (Kd.R_base ho0) hb)
      replace HO410 := Aside0.mk (Kd.R_elder' (hd_ HO410) (Kd.R_base ho0) hb)
      replace HO373 := Aside0.mk (Kd.R_elder' (hd_ HO373) (Kd.R_base ho1) hb)
      replace HO382 := Aside0.mk (Kd.R_elder' (hd_ HO382) (Kd.R_base ho1) hb)
      replace HO392 := Aside0.mk (Kd.R_elder' (hd_ HO392) (Kd.R_base ho1) hb)
      replace HO402 := Aside0.mk (Kd.R_elder' (hd_ HO402) (Kd.R_base ho1) hb)
      replace HO413 := Aside0.mk (Kd.R_elder' (hd_ HO413) (Kd.R_base ho1) hb)
      replace BK361 := Aside0.mk (bb_ BK361 hb)
      replace BK362 := Aside0.mk (bb_ BK362 hb)
      replace BK393 := Aside0.mk (bb_ BK393 hb)
      replace BK403 := Aside0.mk (bb_ BK403 hb)
      replace HB := Aside0.mk (bt_ HB hb)
      (try clear hb)
      (try clear hb2)
      (try clear hk)
      (try clear hi)
      (try clear ho0)
      (try clear ho1)
      obtain ⟨Ao73, co73, eo73⟩ := Kd.R_slice HO420.out
      (first | subst eo73 | (injection eo73 with f1_ f2_ f3_; have f4_ := f1_.symm; have f5_ := f3_.symm; clear f1_ f2_ f3_; subst f4_; subst f5_))
      obtain ⟨Ao74, co74, eo74⟩ := Kd.R_slice HO423.out
      (first | subst eo74 | (injection eo74 with f1_ f2_ f3_; have f4_ := f1_.symm; have f5_ := f3_.symm; clear f1_ f2_ f3_; subst f4_; subst f5_))
      refine hK.out _ _ ⟨(blk_cell BK403.out 0).trans rfl, (blk_cell BK403.out 1).trans rfl, (blk_cell BK403.out 2).trans rfl, (blk_cell BK403.out 3).trans rfl, (blk_cell BK403.out 4).trans rfl, (blk_cell BK362.out 0).trans rfl, (blk_cell BK362.out 1).trans rfl, (blk_cell BK362.out 2).trans rfl, (blk_cell BK362.out 3).trans rfl, (blk_cell BK362.out 4).trans rfl⟩ (fun hHeld => ?_)
      clear hK K
      refine nz_ 42 ?_
      refine one_ (i := 3) (N := some 43) ba18_11 rfl rfl (by kernel_rfl) (by decide) (fun K hK => ?_)
      refine gz_ Try.func17 #[.agg #[.int .i64 t394, .int .i64 t395, .int .i64 t396, .slice Ao62 t397.length co62, .slice Ao63 t400.length co63], .agg #[.int .i64 t415, .int .i64 t416, .int .i64 t417, .slice Ao73 t418.length co73, .slice Ao74 t421.length co74]] ?_
      with_reducible refine (laws_eqLsa.calls k t394 t395 t396 _ _ t397 _ _ t400 t415 t416 t417 _ _ t418 _ _ t421 true _ ?side1 ?side2 ?side3 ?side4 ?side5 ?side6 ?side7 ?side8 A30.out).mono ?_
      (case side1 => exact rc_ HO399)
      (case side2 => exact (Kd.R_reads' HO399.out).2.1)
      (case side3 => exact rc_ HO402)
      (case side4 => exact (Kd.R_reads' HO402.out).2.1)
      (case side5 => exact rc_ HO420)
      (case side6 => exact (Kd.R_reads' HO420.out).2.1)
      (case side7 => exact rc_ HO423)
      (case side8 => exact (Kd.R_reads' HO423.out).2.1)
      rintro e w75 ⟨rfl, hb⟩
      refine ⟨_, rfl, ?_⟩
      replace HO370 := rb_ HO370 hb
      replace HO373 := rb_ HO373 hb
      replace HO379 := rb_ HO379 hb
      replace HO382 := rb_ HO382 hb
      replace HO389 := rb_ HO389 hb
      replace HO392 := rb_ HO392 hb
      replace HO399 := rb_ HO399 hb
      replace HO402 := rb_ HO402 hb
      replace HO410 := rb_ HO410 hb
      replace HO413 := rb_ HO413 hb
      replace HO420 := rb_ HO420 hb
      replace HO423 := rb_ HO423 hb
      replace BK361 := Aside0.mk (bb_ BK361 hb)
      replace BK362 := Aside0.mk (bb_ BK362 hb)
      replace BK393 := Aside0.mk (bb_ BK393 hb)
      replace BK403 := Aside0.mk (bb_ BK403 hb)
      replace HB := Aside0.mk (bt_ HB hb)
      (try clear hb)
      (try clear hb2)
      (try clear hk)
      (try clear hi)
      refine hK.out _ _ ⟨(blk_cell BK403.out 0).trans rfl, (blk_cell BK403.out 1).trans rfl, (blk_cell BK403.out 2).trans rfl, (blk_cell BK403.out 3).trans rfl, (blk_cell BK403.out 4).trans rfl, (blk_cell BK362.out 0).trans rfl, (blk_cell BK362.out 1).trans rfl, (blk_cell BK362.out 2).trans rfl, (blk_cell BK362.out 3).trans rfl, (blk_cell BK362.out 4).trans rfl⟩ (fun hHeld => ?_)
      clear hK K
      refine nz_ 43 ?_
      refine pure_ (i := 4) (N := some 44) (v := ?_) (a' := ?_) ba18_12 rfl rfl (by kernel_rfl) (fun _ _ _ h => h) (Or.inl ⟨by rfl, ?_⟩) ?_ ?_
      rotate_left; · intro w'; go_simp; with_reducible rfl
      rotate_left; · simp only [Act.put, List.setIfInBounds_toArray, List.set_cons_zero, List.set_cons_succ, i64_w, i32_w]; rfl
      refine done_ (by kernel_rfl) ?_
      try go_wp2
      go_ret
      exact ⟨by first | rfl | (simp [errW_none, errW_some] <;> rfl) | (simp [*, errW_none, errW_some] <;> rfl), by repeat (first | (with_reducible first | exact HB.out | apply below_alloc | apply pw_below_drewN | apply below_drew1 | refine below_set ?_ GE361.out | refine below_set ?_ GE362.out | refine below_set ?_ GE393.out | refine below_set ?_ GE403.out) | exact HB.out)⟩
     ·replace c31 := Bool.eq_false_iff.mpr c31
      subst c31
      rw [if_neg (show ¬ (false = true) by decide)] at H
      obtain rfl := Option.some.inj H
      go_enter Try.func11, Try.ntmps11
      try go_wp2_with (first | ((with_reducible refine gate_dst (N := 2) rfl ?_); refine box_event ?hg (N := 2) ?hd (cs := #[.int .i64 a0_0, .int .i64 a0_1, .int .i64 a0_2, .slice A0_3 l0_3.length c0_3, .slice A0_4 l0_4.length c0_4]) (t := 25) ?hr ?_; (case hd => rfl); (case hg => rfl); (case hr => first | (go_simp; done) | (go_simp; rfl)); intro gb361 hg w76 hbox hb; have BK361 := Aside0.mk hbox; have GW361 := ge_ HB hg; have GE361 := ge_ HB hg; replace HB := Aside0.mk (bt_ HB hb); clear hb hbox hg) | ((with_reducible refine gate_dst (N := 3) rfl ?_); refine box_event ?hg (N := 3) ?hd (cs := #[.int .i64 a1_0, .int .i64 a1_1, .int .i64 a1_2, .slice A1_3 l1_3.length c1_3, .slice A1_4 l1_4.length c1_4]) (t := 25) ?hr ?_; (case hd => rfl); (case hg => rfl); (case hr => first | (go_simp; done) | (go_simp; rfl)); intro gb362 hg w77 hbox hb; have BK362 := Aside0.mk hbox; have GW362 := ge_ HB hg; have GE362 := ge_ HB hg; have NB361_362 := nl_ BK361 hg; have NB362_361 := ng_ BK361 hg; replace HB := Aside0.mk (bt_ HB hb); replace BK361 := Aside0.mk (bb_ BK361 hb); clear hb hbox hg; have hnb78 := NB361_362.out; have hnc78 := NB362_361.out; have hcz79_0 := cz_ BK361 0 (.int .i64 a0_0); have hcz79_1 := cz_ BK361 1 (.int .i64 a0_1); have hcz79_2 := cz_ BK361 2 (.int .i64 a0_2); have hcz79_3 := cz_ BK361 3 (.slice A0_3 l0_3.length c0_3); have hcz79_4 := cz_ BK361 4 (.slice A0_4 l0_4.length c0_4); have hfz79_0 := blk_frozen BK361.out 0; have hfz79_1 := blk_frozen BK361.out 1; have hfz79_2 := blk_frozen BK361.out 2; have hfz79_3 := blk_frozen BK361.out 3; have hfz79_4 := blk_frozen BK361.out 4) | ((with_reducible refine gate_callee (f := 13) rfl ?_); refine gl_ (some 12) Try.func13 #[.agg #[.int .i64 a0_0, .int .i64 a0_1, .int .i64 a0_2, .slice A0_3 l0_3.length c0_3, .slice A0_4 l0_4.length c0_4], .int .i64 1048576] ?_; (with_reducible refine (laws_szLsa.calls a0_0 a0_1 a0_2 _ _ l0_3 _ _ l0_4 1048576 t363 _ ?side1 ?side2 ?side3 ?side4 A3.out).mono ?_); (case side1 => exact cb_ HR0_3 HB); (case side2 => exact HC0_3.out); (case side3 => exact cb_ HR0_4 HB); (case side4 => exact HC0_4.out); rintro e w80 ⟨rfl, hb⟩; refine ⟨_, rfl, ?_⟩; replace BK361 := Aside0.mk (bb_ BK361 hb); replace BK362 := Aside0.mk (bb_ BK362 hb); replace HB := Aside0.mk (bt_ HB hb); (try clear hb); (try clear hb2); (try clear hk); (try clear hi); have hcz81_0 := cz_ BK362 0 (.int .i64 a1_0); have hcz81_1 := cz_ BK362 1 (.int .i64 a1_1); have hcz81_2 := cz_ BK362 2 (.int .i64 a1_2); have hcz81_3 := cz_ BK362 3 (.slice A1_3 l1_3.length c1_3); have hcz81_4 := cz_ BK362 4 (.slice A1_4 l1_4.length c1_4); have hfz81_0 := blk_frozen BK362.out 0; have hfz81_1 := blk_frozen BK362.out 1; have hfz81_2 := blk_frozen BK362.out 2; have hfz81_3 := blk_frozen BK362.out 3; have hfz81_4 := blk_frozen BK362.out 4) | ((with_reducible refine gate_callee (f := 13) rfl ?_); refine gl_ (some 17) Try.func13 #[.agg #[.int .i64 a1_0, .int .i64 a1_1, .int .i64 a1_2, .slice A1_3 l1_3.length c1_3, .slice A1_4 l1_4.length c1_4], .int .i64 t363] ?_; (with_reducible refine (laws_szLsa.calls a1_0 a1_1 a1_2 _ _ l1_3 _ _ l1_4 t363 t364 _ ?side1 ?side2 ?side3 ?side4 A10.out).mono ?_); (case side1 => exact cb_ HR1_3 HB); (case side2 => exact HC1_3.out); (case side3 => exact cb_ HR1_4 HB); (case side4 => exact HC1_4.out); rintro e w82 ⟨rfl, hb⟩; refine ⟨_, rfl, ?_⟩; replace BK361 := Aside0.mk (bb_ BK361 hb); replace BK362 := Aside0.mk (bb_ BK362 hb); replace HB := Aside0.mk (bt_ HB hb); (try clear hb); (try clear hb2); (try clear hk); (try clear hi)))
      replace BK361 := Aside0.mk (blk_drew BK361.out)
      replace BK362 := Aside0.mk (blk_drew BK362.out)
      replace HB := Aside0.mk (below_drew1 HB.out)
      refine start_ (n := 6) (S := fun w' => w'.cell? ⟨gb361, 0, none⟩ = some (.int .i64 a0_0) ∧ w'.cell? ⟨gb361, 1, none⟩ = some (.int .i64 a0_1) ∧ w'.cell? ⟨gb361, 2, none⟩ = some (.int .i64 a0_2) ∧ w'.cell? ⟨gb361, 3, none⟩ = some (.slice A0_3 l0_3.length c0_3) ∧ w'.cell? ⟨gb361, 4, none⟩ = some (.slice A0_4 l0_4.length c0_4) ∧ w'.cell? ⟨gb362, 0, none⟩ = some (.int .i64 a1_0) ∧ w'.cell? ⟨gb362, 1, none⟩ = some (.int .i64 a1_1) ∧ w'.cell? ⟨gb362, 2, none⟩ = some (.int .i64 a1_2) ∧ w'.cell? ⟨gb362, 3, none⟩ = some (.slice A1_3 l1_3.length c1_3) ∧ w'.cell? ⟨gb362, 4, none⟩ = some (.slice A1_4 l1_4.length c1_4)) (ds := []) ba18_0 (by kernel_rfl) rfl rfl ⟨(blk_cell BK361.out 0).trans rfl, (blk_cell BK361.out 1).trans rfl, (blk_cell BK361.out 2).trans rfl, (blk_cell BK361.out 3).trans rfl, (blk_cell BK361.out 4).trans rfl, (blk_cell BK362.out 0).trans rfl, (blk_cell BK362.out 1).trans rfl, (blk_cell BK362.out 2).trans rfl, (blk_cell BK362.out 3).trans rfl, (blk_cell BK362.out 4).trans rfl⟩ (fun hHeld => ?_)
      generalize w82.drew = w83 at BK361 BK362 HB hHeld ⊢
      refine take_ (i := 0) (N := some 20) (v := ?_) (a' := ?_) ba18_1 rfl rfl (by kernel_rfl) (fun _ _ _ h => h) (Or.inl ⟨by rfl, ?_⟩) hHeld ?_ ?_
      rotate_left; · rintro w' ⟨s0, s1, s2, s3, s4, s5, s6, s7, s8, s9⟩; go_simp; with_reducible rfl
      rotate_left; · simp only [Act.put, List.setIfInBounds_toArray, List.set_cons_zero, List.set_cons_succ, i64_w, i32_w]; rfl
      refine take_ (i := 2) (N := some 22) (v := ?_) (a' := ?_) ba18_2 rfl rfl (by kernel_rfl) (fun _ _ _ h => h) (Or.inl ⟨by rfl, ?_⟩) hHeld ?_ ?_
      rotate_left; · rintro w' ⟨s0, s1, s2, s3, s4, s5, s6, s7, s8, s9⟩; go_simp; with_reducible rfl
      rotate_left; · simp only [Act.put, List.setIfInBounds_toArray, List.set_cons_zero, List.set_cons_succ, i64_w, i32_w]; rfl
      refine one_ (i := 1) (N := some 21) ba18_3 rfl rfl (by kernel_rfl) (by decide) (fun K hK => ?_)
      refine gz_ Try.func15 #[.agg #[.int .i64 a0_0, .int .i64 a0_1, .int .i64 a0_2, .slice A0_3 l0_3.length c0_3, .slice A0_4 l0_4.length c0_4]] ?_
      with_reducible refine (laws_toLsa.calls k a0_0 a0_1 a0_2 _ _ l0_3 _ _ l0_4 t365 t366 t367 t368 t371 _ ?side1 ?side2 ?side3 ?side4 A19.out).mono ?_
      (case side1 => exact cb_ HR0_3 HB)
      (case side2 => exact HC0_3.out)
      (case side3 => exact cb_ HR0_4 HB)
      (case side4 => exact HC0_4.out)
      rintro e w84 ⟨v369, v372, rfl, ho0, ho1, hb⟩
      refine ⟨_, rfl, ?_⟩
      have HO370 := Aside0.mk (Kd.R_lower ho0 (bz_ HB))
      have HO373 := Aside0.mk (Kd.R_lower ho1 (bz_ HB))
      replace BK361 := Aside0.mk (bb_ BK361 hb)
      replace BK362 := Aside0.mk (bb_ BK362 hb)
      replace HB := Aside0.mk (bt_ HB hb)
      (try clear hb)
      (try clear hb2)
      (try clear hk)
      (try clear hi)
      (try clear ho0)
      (try clear ho1)
      refine hK.out _ _ ⟨(blk_cell BK361.out 0).trans rfl, (blk_cell BK361.out 1).trans rfl, (blk_cell BK361.out 2).trans rfl, (blk_cell BK361.out 3).trans rfl, (blk_cell BK361.out 4).trans rfl, (blk_cell BK362.out 0).trans rfl, (blk_cell BK362.out 1).trans rfl, (blk_cell BK362.out 2).trans rfl, (blk_cell BK362.out 3).trans rfl, (blk_cell BK362.out 4).trans rfl⟩ (fun hHeld => ?_)
      clear hK K
      refine nz_ 21 ?_
      refine one_ (i := 3) (N := some 23) ba18_4 rfl rfl (by kernel_rfl) (by decide) (fun K hK => ?_)
      refine gz_ Try.func15 #[.agg #[.int .i64 a1_0, .int .i64 a1_1, .int .i64 a1_2, .slice A1_3 l1_3.length c1_3, .slice A1_4 l1_4.length c1_4]] ?_
      with_reducible refine (laws_toLsa.calls k a1_0 a1_1 a1_2 _ _ l1_3 _ _ l1_4 t374 t375 t376 t377 t380 _ ?side1 ?side2 ?side3 ?side4 A20.out).mono ?_
      (case side1 => exact cb_ HR1_3 HB)
      (case side2 => exact HC1_3.out)
      (case side3 => exact cb_ HR1_4 HB)
      (case side4 => exact HC1_4.out)
      rintro e w85 ⟨v378, v381, rfl, ho0, ho1, hb⟩
      refine ⟨_, rfl, ?_⟩
      have HO379 := Aside0.mk (Kd.R_lower (Kd.R_new' ho0 (Kd.R_lt (hd_ HO370))) (bz_ HB))
      have HO382 := Aside0.mk (Kd.R_lower (Kd.R_new' ho1 (Kd.R_lt (hd_ HO373))) (bz_ HB))
      replace HO370 := Aside0.mk (Kd.R_elder' (hd_ HO370) (Kd.R_base ho0) hb)
      replace HO373 := Aside0.mk (Kd.R_elder' (hd_ HO373) (Kd.R_base ho1) hb)
      replace BK361 := Aside0.mk (bb_ BK361 hb)
      replace BK362 := Aside0.mk (bb_ BK362 hb)
      replace HB := Aside0.mk (bt_ HB hb)
      (try clear hb)
      (try clear hb2)
      (try clear hk)
      (try clear hi)
      (try clear ho0)
      (try clear ho1)
      obtain ⟨Ao86, co86, eo86⟩ := Kd.R_slice HO370.out
      (first | subst eo86 | (injection eo86 with f1_ f2_ f3_; have f4_ := f1_.symm; have f5_ := f3_.symm; clear f1_ f2_ f3_; subst f4_; subst f5_))
      obtain ⟨Ao87, co87, eo87⟩ := Kd.R_slice HO373.out
      (first | subst eo87 | (injection eo87 with f1_ f2_ f3_; have f4_ := f1_.symm; have f5_ := f3_.symm; clear f1_ f2_ f3_; subst f4_; subst f5_))
      obtain ⟨Ao88, co88, eo88⟩ := Kd.R_slice HO379.out
      (first | subst eo88 | (injection eo88 with f1_ f2_ f3_; have f4_ := f1_.symm; have f5_ := f3_.symm; clear f1_ f2_ f3_; subst f4_; subst f5_))
      obtain ⟨Ao89, co89, eo89⟩ := Kd.R_slice HO382.out
      (first | subst eo89 | (injection eo89 with f1_ f2_ f3_; have f4_ := f1_.symm; have f5_ := f3_.symm; clear f1_ f2_ f3_; subst f4_; subst f5_))
      refine hK.out _ _ ⟨(blk_cell BK361.out 0).trans rfl, (blk_cell BK361.out 1).trans rfl, (blk_cell BK361.out 2).trans rfl, (blk_cell BK361.out 3).trans rfl, (blk_cell BK361.out 4).trans rfl, (blk_cell BK362.out 0).trans rfl, (blk_cell BK362.out 1).trans rfl, (blk_cell BK362.out 2).trans rfl, (blk_cell BK362.out 3).trans rfl, (blk_cell BK362.out 4).trans rfl⟩ (fun hHeld => ?_)
      clear hK K
      refine nz_ 23 ?_
      refine one_ (i := 4) (N := some 24) ba18_5 rfl rfl (by kernel_rfl) (by decide) (fun K hK => ?_)
      refine gz_ Try.func48 #[.agg #[.int .i64 t365, .int .i64 t366, .int .i64 t367, .slice Ao86 t368.length co86, .slice Ao87 t371.length co87], .agg #[.int .i64 t374, .int .i64 t375, .int .i64 t376, .slice Ao88 t377.length co88, .slice Ao89 t380.length co89]] ?_
      with_reducible refine (spec_Newer.calls k t365 t366 t367 _ _ t368 _ _ t371 t374 t375 t376 _ _ t377 _ _ t380 t383 _ ?side1 ?side2 ?side3 ?side4 ?side5 ?side6 ?side7 ?side8 A21.out).mono ?_
      (case side1 => exact rc_ HO370)
      (case side2 => exact (Kd.R_reads' HO370.out).2.1)
      (case side3 => exact rc_ HO373)
      (case side4 => exact (Kd.R_reads' HO373.out).2.1)
      (case side5 => exact rc_ HO379)
      (case side6 => exact (Kd.R_reads' HO379.out).2.1)
      (case side7 => exact rc_ HO382)
      (case side8 => exact (Kd.R_reads' HO382.out).2.1)
      rintro e w90 ⟨rfl, hb⟩
      refine ⟨_, rfl, ?_⟩
      replace HO370 := rb_ HO370 hb
      replace HO373 := rb_ HO373 hb
      replace HO379 := rb_ HO379 hb
      replace HO382 := rb_ HO382 hb
      replace BK361 := Aside0.mk (bb_ BK361 hb)
      replace BK362 := Aside0.mk (bb_ BK362 hb)
      replace HB := Aside0.mk (bt_ HB hb)
      (try clear hb)
      (try clear hb2)
      (try clear hk)
      (try clear hi)
      refine hK.out _ _ ⟨(blk_cell BK361.out 0).trans rfl, (blk_cell BK361.out 1).trans rfl, (blk_cell BK361.out 2).trans rfl, (blk_cell BK361.out 3).trans rfl, (blk_cell BK361.out 4).trans rfl, (blk_cell BK362.out 0).trans rfl, (blk_cell BK362.out 1).trans rfl, (blk_cell BK362.out 2).trans rfl, (blk_cell BK362.out 3).trans rfl, (blk_cell BK362.out 4).trans rfl⟩ (fun hHeld => ?_)
      clear hK K
      refine nz_ 24 ?_
      refine pure_ (i := 5) (N := some 6) (v := ?_) (a' := ?_) ba18_6 rfl rfl (by kernel_rfl) (fun _ _ _ h => h) (Or.inl ⟨by rfl, ?_⟩) ?_ ?_
      rotate_left; · intro w'; go_simp; with_reducible rfl
      rotate_left; · simp only [Act.put, List.setIfInBounds_toArray, List.set_cons_zero, List.set_cons_succ, i64_w, i32_w]; rfl
      refine done_ (by kernel_rfl) ?_
      have hcz91_0 := cz_ BK361 0 (.int .i64 a0_0)
      have hcz91_1 := cz_ BK361 1 (.int .i64 a0_1)
      have hcz91_2 := cz_ BK361 2 (.int .i64 a0_2)
      have hcz91_3 := cz_ BK361 3 (.slice A0_3 l0_3.length c0_3)
      have hcz91_4 := cz_ BK361 4 (.slice A0_4 l0_4.length c0_4)
      have hfz91_0 := blk_frozen BK361.out 0
      have hfz91_1 := blk_frozen BK361.out 1
      have hfz91_2 := blk_frozen BK361.out 2
      have hfz91_3 := blk_frozen BK361.out 3
      have hfz91_4 := blk_frozen BK361.out 4
      try go_wp2_with (first | ((with_reducible refine gate_callee (f := 15) rfl ?_); refine gl_ (some 26) Try.func15 #[.agg #[.int .i64 a0_0, .int .i64 a0_1, .int .i64 a0_2, .slice A0_3 l0_3.length c0_3, .slice A0_4 l0_4.length c0_4]] ?_; (with_reducible refine (laws_toLsa.calls k a0_0 a0_1 a0_2 _ _ l0_3 _ _ l0_4 t384 t385 t386 t387 t390 _ ?side1 ?side2 ?side3 ?side4 A22.out).mono ?_); (case side1 => exact cb_ HR0_3 HB); (case side2 => exact HC0_3.out); (case side3 => exact cb_ HR0_4 HB); (case side4 => exact HC0_4.out); rintro e w92 ⟨v388, v391, rfl, ho0, ho1, hb⟩; refine ⟨_, rfl, ?_⟩; have HO389 := Aside0.mk (Kd.R_lower (Kd.R_new' (Kd.R_new' ho0 (Kd.R_lt (hd_ HO370))) (Kd.R_lt (hd_ HO379))) (bz_ HB)); have HO392 := Aside0.mk (Kd.R_lower (Kd.R_new' (Kd.R_new' ho1 (Kd.R_lt (hd_ HO373))) (Kd.R_lt (hd_ HO382))) (bz_ HB)); replace HO370 := Aside0.mk (Kd.R_elder' (hd_ HO370) (Kd.R_base ho0) hb); replace HO379 := Aside0.mk (Kd.R_elder' (hd_ HO379) (Kd.R_base ho0) hb); replace HO373 := Aside0.mk (Kd.R_elder' (hd_ HO373) (Kd.R_base ho1) hb); replace HO382 := Aside0.mk (Kd.R_elder' (hd_ HO382) (Kd.R_base ho1) hb); replace BK361 := Aside0.mk (bb_ BK361 hb); replace BK362 := Aside0.mk (bb_ BK362 hb); replace HB := Aside0.mk (bt_ HB hb); (try clear hb); (try clear hb2); (try clear hk); (try clear hi); (try clear ho0); (try clear ho1)) | ((with_reducible refine gate_dst (N := 7) rfl ?_); refine box_event ?hg (N := 7) ?hd (cs := #[.int .i64 0, .int .i64 0, .int .i64 0, .slice none 0 0, .slice none 0 0]) (t := 31) ?hr ?_; (case hd => rfl); (case hg => rfl); (case hr => first | (go_simp; done) | (go_simp; rfl)); intro gb393 hg w93 hbox hb; have BK393 := Aside0.mk hbox; have GW393 := ge_ HB hg; have GE393 := ge_ HB hg; have NB361_393 := nl_ BK361 hg; have NB393_361 := ng_ BK361 hg; have NB362_393 := nl_ BK362 hg; have NB393_362 := ng_ BK362 hg; replace HO370 := rb_ HO370 hb; replace HO373 := rb_ HO373 hb; replace HO379 := rb_ HO379 hb; replace HO382 := rb_ HO382 hb; replace HO389 := rb_ HO389 hb; replace HO392 := rb_ HO392 hb; replace HB := Aside0.mk (bt_ HB hb); replace BK361 := Aside0.mk (bb_ BK361 hb); replace BK362 := Aside0.mk (bb_ BK362 hb); clear hb hbox hg; have hnb94 := NB393_361.out; have hnc94 := NB361_393.out; have hnb95 := NB393_362.out; have hnc95 := NB362_393.out; have hcz96_0 := cz_ BK393 0 (.int .i64 0); have hcz96_1 := cz_ BK393 1 (.int .i64 0); have hcz96_2 := cz_ BK393 2 (.int .i64 0); have hcz96_3 := cz_ BK393 3 (.slice none 0 0); have hcz96_4 := cz_ BK393 4 (.slice none 0 0); have hfz96_0 := blk_frozen BK393.out 0; have hfz96_1 := blk_frozen BK393.out 1; have hfz96_2 := blk_frozen BK393.out 2; have hfz96_3 := blk_frozen BK393.out 3; have hfz96_4 := blk_frozen BK393.out 4; obtain ⟨Ao97, co97, eo97⟩ := Kd.R_slice HO389.out; subst eo97; obtain ⟨Ao98, co98, eo98⟩ := Kd.R_slice HO392.out; subst eo98; have hcz99_0 := cz_ BK362 0 (.int .i64 a1_0); have hcz99_1 := cz_ BK362 1 (.int .i64 a1_1); have hcz99_2 := cz_ BK362 2 (.int .i64 a1_2); have hcz99_3 := cz_ BK362 3 (.slice A1_3 l1_3.length c1_3); have hcz99_4 := cz_ BK362 4 (.slice A1_4 l1_4.length c1_4); have hfz99_0 := blk_frozen BK362.out 0; have hfz99_1 := blk_frozen BK362.out 1; have hfz99_2 := blk_frozen BK362.out 2; have hfz99_3 := blk_frozen BK362.out 3; have hfz99_4 := blk_frozen BK362.out 4) | ((with_reducible refine gate_callee (f := 15) rfl ?_); refine gl_ (some 28) Try.func15 #[.agg #[.int .i64 a1_0, .int .i64 a1_1, .int .i64 a1_2, .slice A1_3 l1_3.length c1_3, .slice A1_4 l1_4.length c1_4]] ?_; (with_reducible refine (laws_toLsa.calls k a1_0 a1_1 a1_2 _ _ l1_3 _ _ l1_4 t394 t395 t396 t397 t400 _ ?side1 ?side2 ?side3 ?side4 A23.out).mono ?_); (case side1 => exact Kd.C_below HR1_3.out (by repeat (first | (with_reducible first | exact HB.out | apply below_alloc | apply pw_below_drewN | apply below_drew1 | refine below_set ?_ GE361.out | refine below_set ?_ GE362.out | refine below_set ?_ GE393.out) | exact HB.out))); (case side2 => exact HC1_3.out); (case side3 => exact Kd.C_below HR1_4.out (by repeat (first | (with_reducible first | exact HB.out | apply below_alloc | apply pw_below_drewN | apply below_drew1 | refine below_set ?_ GE361.out | refine below_set ?_ GE362.out | refine below_set ?_ GE393.out) | exact HB.out))); (case side4 => exact HC1_4.out); rintro e w100 ⟨v398, v401, rfl, ho0, ho1, hb⟩; refine ⟨_, rfl, ?_⟩; have HO399 := Aside0.mk (Kd.R_lower (Kd.R_new' (Kd.R_new' (Kd.R_new' ho0 (Kd.R_lt (hs_ HO370 BK393))) (Kd.R_lt (hs_ HO379 BK393))) (Kd.R_lt (hs_ HO389 BK393))) (bz_ HB)); have HO402 := Aside0.mk (Kd.R_lower (Kd.R_new' (Kd.R_new' (Kd.R_new' ho1 (Kd.R_lt (hs_ HO373 BK393))) (Kd.R_lt (hs_ HO382 BK393))) (Kd.R_lt (hs_ HO392 BK393))) (bz_ HB)); replace HO370 := Aside0.mk (Kd.R_elder' (hs_ HO370 BK393) (Kd.R_base ho0) hb); replace HO379 := Aside0.mk (Kd.R_elder' (hs_ HO379 BK393) (Kd.R_base ho0) hb); replace HO389 := Aside0.mk (Kd.R_elder' (hs_ HO389 BK393) (Kd.R_base ho0) hb); replace HO373 := Aside0.mk (Kd.R_elder' (hs_ HO373 BK393) (Kd.R_base ho1) hb); replace HO382 := Aside0.mk (Kd.R_elder' (hs_ HO382 BK393) (Kd.R_base ho1) hb); replace HO392 := Aside0.mk (Kd.R_elder' (hs_ HO392 BK393) (Kd.R_base ho1) hb); replace BK361 := bf_ BK361 NB361_393 hb; replace BK362 := bf_ BK362 NB362_393 hb; replace BK393 := Aside0.mk (blk_below (g := gb393) (o := .cells #[.int .i64 t384, .int .i64 t385, .int .i64 t386, .slice Ao97 t387.length co97, .slice Ao98 t390.length co98] 31 (0, 0)) (by (with_reducible repeat (first | refine blk_drewN ?_ _ | refine blk_drew ?_ | refine blk_alloc ?_ _)); refine blk_put (cs := #[.int .i64 t384, .int .i64 t385, .int .i64 t386, .slice Ao97 t387.length co97, .slice none 0 0]) ?_ 4 _ rfl; (with_reducible repeat (first | refine blk_drewN ?_ _ | refine blk_drew ?_ | refine blk_alloc ?_ _)); refine blk_put (cs := #[.int .i64 t384, .int .i64 t385, .int .i64 t386, .slice none 0 0, .slice none 0 0]) ?_ 3 _ rfl; (with_reducible repeat (first | refine blk_drewN ?_ _ | refine blk_drew ?_ | refine blk_alloc ?_ _)); refine blk_put (cs := #[.int .i64 t384, .int .i64 t385, .int .i64 0, .slice none 0 0, .slice none 0 0]) ?_ 2 _ rfl; (with_reducible repeat (first | refine blk_drewN ?_ _ | refine blk_drew ?_ | refine blk_alloc ?_ _)); refine blk_put (cs := #[.int .i64 t384, .int .i64 0, .int .i64 0, .slice none 0 0, .slice none 0 0]) ?_ 1 _ rfl; (with_reducible repeat (first | refine blk_drewN ?_ _ | refine blk_drew ?_ | refine blk_alloc ?_ _)); refine blk_put (cs := #[.int .i64 0, .int .i64 0, .int .i64 0, .slice none 0 0, .slice none 0 0]) ?_ 0 _ rfl; (with_reducible repeat (first | refine blk_drewN ?_ _ | refine blk_drew ?_ | refine blk_alloc ?_ _)); exact BK393.out) hb); replace HB := Aside0.mk (bt_ HB hb); (try clear hb); (try clear hb2); (try clear hk); (try clear hi); (try clear ho0); (try clear ho1)) | ((with_reducible refine gate_dst (N := 8) rfl ?_); refine box_event ?hg (N := 8) ?hd (cs := #[.int .i64 0, .int .i64 0, .int .i64 0, .slice none 0 0, .slice none 0 0]) (t := 31) ?hr ?_; (case hd => rfl); (case hg => rfl); (case hr => first | (go_simp; done) | (go_simp; rfl)); intro gb403 hg w101 hbox hb; have BK403 := Aside0.mk hbox; have GW403 := ge_ HB hg; have GE403 := ge_ HB hg; have NB361_403 := nl_ BK361 hg; have NB403_361 := ng_ BK361 hg; have NB362_403 := nl_ BK362 hg; have NB403_362 := ng_ BK362 hg; have NB393_403 := nl_ BK393 hg; have NB403_393 := ng_ BK393 hg; replace HO370 := rb_ HO370 hb; replace HO373 := rb_ HO373 hb; replace HO379 := rb_ HO379 hb; replace HO382 := rb_ HO382 hb; replace HO389 := rb_ HO389 hb; replace HO392 := rb_ HO392 hb; replace HO399 := rb_ HO399 hb; replace HO402 := rb_ HO402 hb; replace HB := Aside0.mk (bt_ HB hb); replace BK361 := Aside0.mk (bb_ BK361 hb); replace BK362 := Aside0.mk (bb_ BK362 hb); replace BK393 := Aside0.mk (bb_ BK393 hb); clear hb hbox hg; have hnb102 := NB403_361.out; have hnc102 := NB361_403.out; have hnb103 := NB403_362.out; have hnc103 := NB362_403.out; have hnb104 := NB403_393.out; have hnc104 := NB393_403.out; have hcz105_0 := cz_ BK403 0 (.int .i64 0); have hcz105_1 := cz_ BK403 1 (.int .i64 0); have hcz105_2 := cz_ BK403 2 (.int .i64 0); have hcz105_3 := cz_ BK403 3 (.slice none 0 0); have hcz105_4 := cz_ BK403 4 (.slice none 0 0); have hfz105_0 := blk_frozen BK403.out 0; have hfz105_1 := blk_frozen BK403.out 1; have hfz105_2 := blk_frozen BK403.out 2; have hfz105_3 := blk_frozen BK403.out 3; have hfz105_4 := blk_frozen BK403.out 4; obtain ⟨Ao106, co106, eo106⟩ := Kd.R_slice HO399.out; subst eo106; obtain ⟨Ao107, co107, eo107⟩ := Kd.R_slice HO402.out; subst eo107; have hcz108_0 := cz_ BK393 0 (.int .i64 t384); have hcz108_1 := cz_ BK393 1 (.int .i64 t385); have hcz108_2 := cz_ BK393 2 (.int .i64 t386); have hcz108_3 := cz_ BK393 3 (.slice Ao97 t387.length co97); have hcz108_4 := cz_ BK393 4 (.slice Ao98 t390.length co98); have hfz108_0 := blk_frozen BK393.out 0; have hfz108_1 := blk_frozen BK393.out 1; have hfz108_2 := blk_frozen BK393.out 2; have hfz108_3 := blk_frozen BK393.out 3; have hfz108_4 := blk_frozen BK393.out 4) | ((with_reducible refine gate_callee (f := 49) rfl ?_); refine gl_ (some 31) Try.func49 #[.agg #[.int .i64 t384, .int .i64 t385, .int .i64 t386, .slice Ao97 t387.length co97, .slice Ao98 t390.length co98], .agg #[.int .i64 t394, .int .i64 t395, .int .i64 t396, .slice Ao106 t397.length co106, .slice Ao107 t400.length co107]] ?_; (with_reducible refine (impl_Newer.calls k t384 t385 t386 _ _ t387 _ _ t390 t394 t395 t396 _ _ t397 _ _ t400 t404 _ ?side1 ?side2 ?side3 ?side4 ?side5 ?side6 ?side7 ?side8 A24.out).mono ?_); (case side1 => refine (Kd.R_reads' (e := 70) (base := w.heap.size) (ok := fun k_ => (((True ∧ some k_ ≠ (.slice Ao86 t368.length co86 : Value).ownBlock) ∧ some k_ ≠ (.slice Ao88 t377.length co88 : Value).ownBlock) ∧ some k_ ≠ (.slice Ao106 t397.length co106 : Value).ownBlock)) (n := t387.length) (c := co97) ?_).2.2; exact (hs_ HO389 BK403)); (case side2 => exact (Kd.R_reads' HO389.out).2.1); (case side3 => refine (Kd.R_reads' (e := 74) (base := w.heap.size) (ok := fun k_ => (((True ∧ some k_ ≠ (.slice Ao87 t371.length co87 : Value).ownBlock) ∧ some k_ ≠ (.slice Ao89 t380.length co89 : Value).ownBlock) ∧ some k_ ≠ (.slice Ao107 t400.length co107 : Value).ownBlock)) (n := t390.length) (c := co98) ?_).2.2; exact (hs_ HO392 BK403)); (case side4 => exact (Kd.R_reads' HO392.out).2.1); (case side5 => refine (Kd.R_reads' (e := 70) (base := w.heap.size) (ok := fun k_ => (((True ∧ some k_ ≠ (.slice Ao86 t368.length co86 : Value).ownBlock) ∧ some k_ ≠ (.slice Ao88 t377.length co88 : Value).ownBlock) ∧ some k_ ≠ (.slice Ao97 t387.length co97 : Value).ownBlock)) (n := t397.length) (c := co106) ?_).2.2; exact (hs_ HO399 BK403)); (case side6 => exact (Kd.R_reads' HO399.out).2.1); (case side7 => refine (Kd.R_reads' (e := 74) (base := w.heap.size) (ok := fun k_ => (((True ∧ some k_ ≠ (.slice Ao87 t371.length co87 : Value).ownBlock) ∧ some k_ ≠ (.slice Ao89 t380.length co89 : Value).ownBlock) ∧ some k_ ≠ (.slice Ao98 t390.length co98 : Value).ownBlock)) (n := t400.length) (c := co107) ?_).2.2; exact (hs_ HO402 BK403)); (case side8 => exact (Kd.R_reads' HO402.out).2.1); rintro e w109 ⟨rfl, hb⟩; refine ⟨_, rfl, ?_⟩; replace HO370 := rs_ HO370 BK403 hb; replace HO373 := rs_ HO373 BK403 hb; replace HO379 := rs_ HO379 BK403 hb; replace HO382 := rs_ HO382 BK403 hb; replace HO389 := rs_ HO389 BK403 hb; replace HO392 := rs_ HO392 BK403 hb; replace HO399 := rs_ HO399 BK403 hb; replace HO402 := rs_ HO402 BK403 hb; replace BK361 := bf_ BK361 NB361_403 hb; replace BK362 := bf_ BK362 NB362_403 hb; replace BK393 := bf_ BK393 NB393_403 hb; replace BK403 := Aside0.mk (blk_below (g := gb403) (o := .cells #[.int .i64 t394, .int .i64 t395, .int .i64 t396, .slice Ao106 t397.length co106, .slice Ao107 t400.length co107] 31 (0, 0)) (by (with_reducible repeat (first | refine blk_drewN ?_ _ | refine blk_drew ?_ | refine blk_alloc ?_ _)); refine blk_put (cs := #[.int .i64 t394, .int .i64 t395, .int .i64 t396, .slice Ao106 t397.length co106, .slice none 0 0]) ?_ 4 _ rfl; (with_reducible repeat (first | refine blk_drewN ?_ _ | refine blk_drew ?_ | refine blk_alloc ?_ _)); refine blk_put (cs := #[.int .i64 t394, .int .i64 t395, .int .i64 t396, .slice none 0 0, .slice none 0 0]) ?_ 3 _ rfl; (with_reducible repeat (first | refine blk_drewN ?_ _ | refine blk_drew ?_ | refine blk_alloc ?_ _)); refine blk_put (cs := #[.int .i64 t394, .int .i64 t395, .int .i64 0, .slice none 0 0, .slice none 0 0]) ?_ 2 _ rfl; (with_reducible repeat (first | refine blk_drewN ?_ _ | refine blk_drew ?_ | refine blk_alloc ?_ _)); refine blk_put (cs := #[.int .i64 t394, .int .i64 0, .int .i64 0, .slice none 0 0, .slice none 0 0]) ?_ 1 _ rfl; (with_reducible repeat (first | refine blk_drewN ?_ _ | refine blk_drew ?_ | refine blk_alloc ?_ _)); refine blk_put (cs := #[.int .i64 0, .int .i64 0, .int .i64 0, .slice none 0 0, .slice none 0 0]) ?_ 0 _ rfl; (with_reducible repeat (first | refine blk_drewN ?_ _ | refine blk_drew ?_ | refine blk_alloc ?_ _)); exact BK403.out) hb); replace HB := Aside0.mk (bt_ HB hb); (try clear hb); (try clear hb2); (try clear hk); (try clear hi)))
      replace HO370 := Aside0.mk (Kd.R_drew HO370.out)
      replace HO373 := Aside0.mk (Kd.R_drew HO373.out)
      replace HO379 := Aside0.mk (Kd.R_drew HO379.out)
      replace HO382 := Aside0.mk (Kd.R_drew HO382.out)
      replace HO389 := Aside0.mk (Kd.R_drew HO389.out)
      replace HO392 := Aside0.mk (Kd.R_drew HO392.out)
      replace HO399 := Aside0.mk (Kd.R_drew HO399.out)
      replace HO402 := Aside0.mk (Kd.R_drew HO402.out)
      replace BK361 := Aside0.mk (blk_drew BK361.out)
      replace BK362 := Aside0.mk (blk_drew BK362.out)
      replace BK393 := Aside0.mk (blk_drew BK393.out)
      replace BK403 := Aside0.mk (blk_drew BK403.out)
      replace HB := Aside0.mk (below_drew1 HB.out)
      refine start_ (n := 5) (S := fun w' => w'.cell? ⟨gb393, 0, none⟩ = some (.int .i64 t384) ∧ w'.cell? ⟨gb393, 1, none⟩ = some (.int .i64 t385) ∧ w'.cell? ⟨gb393, 2, none⟩ = some (.int .i64 t386) ∧ w'.cell? ⟨gb393, 3, none⟩ = some (.slice Ao97 t387.length co97) ∧ w'.cell? ⟨gb393, 4, none⟩ = some (.slice Ao98 t390.length co98) ∧ w'.cell? ⟨gb361, 0, none⟩ = some (.int .i64 a0_0) ∧ w'.cell? ⟨gb361, 1, none⟩ = some (.int .i64 a0_1) ∧ w'.cell? ⟨gb361, 2, none⟩ = some (.int .i64 a0_2) ∧ w'.cell? ⟨gb361, 3, none⟩ = some (.slice A0_3 l0_3.length c0_3) ∧ w'.cell? ⟨gb361, 4, none⟩ = some (.slice A0_4 l0_4.length c0_4)) (ds := []) ba18_7 (by kernel_rfl) rfl rfl ⟨(blk_cell BK393.out 0).trans rfl, (blk_cell BK393.out 1).trans rfl, (blk_cell BK393.out 2).trans rfl, (blk_cell BK393.out 3).trans rfl, (blk_cell BK393.out 4).trans rfl, (blk_cell BK361.out 0).trans rfl, (blk_cell BK361.out 1).trans rfl, (blk_cell BK361.out 2).trans rfl, (blk_cell BK361.out 3).trans rfl, (blk_cell BK361.out 4).trans rfl⟩ (fun hHeld => ?_)
      generalize w109.drew = w110 at HO370 HO373 HO379 HO382 HO389 HO392 HO399 HO402 BK361 BK362 BK393 BK403 HB hHeld ⊢
      refine take_ (i := 0) (N := some 35) (v := ?_) (a' := ?_) ba18_8 rfl rfl (by kernel_rfl) (fun _ _ _ h => h) (Or.inl ⟨by rfl, ?_⟩) hHeld ?_ ?_
      rotate_left; · rintro w' ⟨s0, s1, s2, s3, s4, s5, s6, s7, s8, s9⟩; go_simp; with_reducible rfl
      rotate_left; · simp only [Act.put, List.setIfInBounds_toArray, List.set_cons_zero, List.set_cons_succ, i64_w, i32_w]; rfl
      refine take_ (i := 1) (N := some 36) (v := ?_) (a' := ?_) ba18_9 rfl rfl (by kernel_rfl) (fun _ _ _ h => h) (Or.inl ⟨by rfl, ?_⟩) hHeld ?_ ?_
      rotate_left; · rintro w' ⟨s0, s1, s2, s3, s4, s5, s6, s7, s8, s9⟩; go_simp; with_reducible rfl
      rotate_left; · simp only [Act.put, List.setIfInBounds_toArray, List.set_cons_zero, List.set_cons_succ, i64_w, i32_w]; rfl
      refine one_ (i := 2) (N := some 37) ba18_10 rfl rfl (by kernel_rfl) (by decide) (fun K hK => ?_)
      refine gz_ Try.func15 #[.agg #[.int .i64 a0_0, .int .i64 a0_1, .int .i64 a0_2, .slice A0_3 l0_3.length c0_3, .slice A0_4 l0_4.length c0_4]] ?_
      with_reducible refine (laws_toLsa.calls k a0_0 a0_1 a0_2 _ _ l0_3 _ _ l0_4 t405 t406 t407 t408 t411 _ ?side1 ?side2 ?side3 ?side4 A26.out).mono ?_
      (case side1 => exact cb_ HR0_3 HB)
      (case side2 => exact HC0_3.out)
      (case side3 => exact cb_ HR0_4 HB)
      (case side4 => exact HC0_4.out)
      rintro e w111 ⟨v409, v412, rfl, ho0, ho1, hb⟩
      refine ⟨_, rfl, ?_⟩
      have HO410 := Aside0.mk (Kd.R_lower (Kd.R_new' (Kd.R_new' (Kd.R_new' (Kd.R_new' ho0 (Kd.R_lt (hd_ HO370))) (Kd.R_lt (hd_ HO379))) (Kd.R_lt (hd_ HO389))) (Kd.R_lt (hd_ HO399))) (bz_ HB))
      have HO413 := Aside0.mk (Kd.R_lower (Kd.R_new' (Kd.R_new' (Kd.R_new' (Kd.R_new' ho1 (Kd.R_lt (hd_ HO373))) (Kd.R_lt (hd_ HO382))) (Kd.R_lt (hd_ HO392))) (Kd.R_lt (hd_ HO402))) (bz_ HB))
      replace HO370 := Aside0.mk (Kd.R_elder' (hd_ HO370) (Kd.R_base ho0) hb)
      replace HO379 := Aside0.mk (Kd.R_elder' (hd_ HO379) (Kd.R_base ho0) hb)
      replace HO389 := Aside0.mk (Kd.R_elder' (hd_ HO389) (Kd.R_base ho0) hb)
      replace HO399 := Aside0.mk (Kd.R_elder' (hd_ HO399) (Kd.R_base ho0) hb)
      replace HO373 := Aside0.mk (Kd.R_elder' (hd_ HO373) (Kd.R_base ho1) hb)
      replace HO382 := Aside0.mk (Kd.R_elder' (hd_ HO382) (Kd.R_base ho1) hb)
      replace HO392 := Aside0.mk (Kd.R_elder' (hd_ HO392) (Kd.R_base ho1) hb)
      replace HO402 := Aside0.mk (Kd.R_elder' (hd_ HO402) (Kd.R_base ho1) hb)
      replace BK361 := Aside0.mk (bb_ BK361 hb)
      replace BK362 := Aside0.mk (bb_ BK362 hb)
      replace BK393 := Aside0.mk (bb_ BK393 hb)
      replace BK403 := Aside0.mk (bb_ BK403 hb)
      replace HB := Aside0.mk (bt_ HB hb)
      (try clear hb)
      (try clear hb2)
      (try clear hk)
      (try clear hi)
      (try clear ho0)
      (try clear ho1)
      obtain ⟨Ao112, co112, eo112⟩ := Kd.R_slice HO410.out
      (first | subst eo112 | (injection eo112 with f1_ f2_ f3_; have f4_ := f1_.symm; have f5_ := f3_.symm; clear f1_ f2_ f3_; subst f4_; subst f5_))
      obtain ⟨Ao113, co113, eo113⟩ := Kd.R_slice HO413.out
      (first | subst eo113 | (injection eo113 with f1_ f2_ f3_; have f4_ := f1_.symm; have f5_ := f3_.symm; clear f1_ f2_ f3_; subst f4_; subst f5_))
      refine hK.out _ _ ⟨(blk_cell BK393.out 0).trans rfl, (blk_cell BK393.out 1).trans rfl, (blk_cell BK393.out 2).trans rfl, (blk_cell BK393.out 3).trans rfl, (blk_cell BK393.out 4).trans rfl, (blk_cell BK361.out 0).trans rfl, (blk_cell BK361.out 1).trans rfl, (blk_cell BK361.out 2).trans rfl, (blk_cell BK361.out 3).trans rfl, (blk_cell BK361.out 4).trans rfl⟩ (fun hHeld => ?_)
      clear hK K
      refine nz_ 37 ?_
      refine one_ (i := 3) (N := some 38) ba18_11 rfl rfl (by kernel_rfl) (by decide) (fun K hK => ?_)
      refine gz_ Try.func17 #[.agg #[.int .i64 t384, .int .i64 t385, .int .i64 t386, .slice Ao97 t387.length co97, .slice Ao98 t390.length co98], .agg #[.int .i64 t405, .int .i64 t406, .int .i64 t407, .slice Ao112 t408.length co112, .slice Ao113 t411.length co113]] ?_
      with_reducible refine (laws_eqLsa.calls k t384 t385 t386 _ _ t387 _ _ t390 t405 t406 t407 _ _ t408 _ _ t411 true _ ?side1 ?side2 ?side3 ?side4 ?side5 ?side6 ?side7 ?side8 A27.out).mono ?_
      (case side1 => exact rc_ HO389)
      (case side2 => exact (Kd.R_reads' HO389.out).2.1)
      (case side3 => exact rc_ HO392)
      (case side4 => exact (Kd.R_reads' HO392.out).2.1)
      (case side5 => exact rc_ HO410)
      (case side6 => exact (Kd.R_reads' HO410.out).2.1)
      (case side7 => exact rc_ HO413)
      (case side8 => exact (Kd.R_reads' HO413.out).2.1)
      rintro e w114 ⟨rfl, hb⟩
      refine ⟨_, rfl, ?_⟩
      replace HO370 := rb_ HO370 hb
      replace HO373 := rb_ HO373 hb
      replace HO379 := rb_ HO379 hb
      replace HO382 := rb_ HO382 hb
      replace HO389 := rb_ HO389 hb
      replace HO392 := rb_ HO392 hb
      replace HO399 := rb_ HO399 hb
      replace HO402 := rb_ HO402 hb
      replace HO410 := rb_ HO410 hb
      replace HO413 := rb_ HO413 hb
      replace BK361 := Aside0.mk (bb_ BK361 hb)
      replace BK362 := Aside0.mk (bb_ BK362 hb)
      replace BK393 := Aside0.mk (bb_ BK393 hb)
      replace BK403 := Aside0.mk (bb_ BK403 hb)
      replace HB := Aside0.mk (bt_ HB hb)
      (try clear hb)
      (try clear hb2)
      (try clear hk)
      (try clear hi)
      refine hK.out _ _ ⟨(blk_cell BK393.out 0).trans rfl, (blk_cell BK393.out 1).trans rfl, (blk_cell BK393.out 2).trans rfl, (blk_cell BK393.out 3).trans rfl, (blk_cell BK393.out 4).trans rfl, (blk_cell BK361.out 0).trans rfl, (blk_cell BK361.out 1).trans rfl, (blk_cell BK361.out 2).trans rfl, (blk_cell BK361.out 3).trans rfl, (blk_cell BK361.out 4).trans rfl⟩ (fun hHeld => ?_)
      clear hK K
      refine nz_ 38 ?_
      refine pure_ (i := 4) (N := some 39) (v := ?_) (a' := ?_) ba18_12 rfl rfl (by kernel_rfl) (fun _ _ _ h => h) (Or.inl ⟨by rfl, ?_⟩) ?_ ?_
      rotate_left; · intro w'; go_simp; with_reducible rfl
      rotate_left; · simp only [Act.put, List.setIfInBounds_toArray, List.set_cons_zero, List.set_cons_succ, i64_w, i32_w]; rfl
      refine done_ (by kernel_rfl) ?_
      try go_wp2
      replace HO370 := Aside0.mk (Kd.R_drew HO370.out)
      replace HO373 := Aside0.mk (Kd.R_drew HO373.out)
      replace HO379 := Aside0.mk (Kd.R_drew HO379.out)
      replace HO382 := Aside0.mk (Kd.R_drew HO382.out)
      replace HO389 := Aside0.mk (Kd.R_drew HO389.out)
      replace HO392 := Aside0.mk (Kd.R_drew HO392.out)
      replace HO399 := Aside0.mk (Kd.R_drew HO399.out)
      replace HO402 := Aside0.mk (Kd.R_drew HO402.out)
      replace HO410 := Aside0.mk (Kd.R_drew HO410.out)
      replace HO413 := Aside0.mk (Kd.R_drew HO413.out)
      replace BK361 := Aside0.mk (blk_drew BK361.out)
      replace BK362 := Aside0.mk (blk_drew BK362.out)
      replace BK393 := Aside0.mk (blk_drew BK393.out)
      replace BK403 := Aside0.mk (blk_drew BK403.out)
      replace HB := Aside0.mk (below_drew1 HB.out)
      refine start_ (n := 5) (S := fun w' => w'.cell? ⟨gb403, 0, none⟩ = some (.int .i64 t394) ∧ w'.cell? ⟨gb403, 1, none⟩ = some (.int .i64 t395) ∧ w'.cell? ⟨gb403, 2, none⟩ = some (.int .i64 t396) ∧ w'.cell? ⟨gb403, 3, none⟩ = some (.slice Ao106 t397.length co106) ∧ w'.cell? ⟨gb403, 4, none⟩ = some (.slice Ao107 t400.length co107) ∧ w'.cell? ⟨gb362, 0, none⟩ = some (.int .i64 a1_0) ∧ w'.cell? ⟨gb362, 1, none⟩ = some (.int .i64 a1_1) ∧ w'.cell? ⟨gb362, 2, none⟩ = some (.int .i64 a1_2) ∧ w'.cell? ⟨gb362, 3, none⟩ = some (.slice A1_3 l1_3.length c1_3) ∧ w'.cell? ⟨gb362, 4, none⟩ = some (.slice A1_4 l1_4.length c1_4)) (ds := []) ba18_7 (by kernel_rfl) rfl rfl ⟨(blk_cell BK403.out 0).trans rfl, (blk_cell BK403.out 1).trans rfl, (blk_cell BK403.out 2).trans rfl, (blk_cell BK403.out 3).trans rfl, (blk_cell BK403.out 4).trans rfl, (blk_cell BK362.out 0).trans rfl, (blk_cell BK362.out 1).trans rfl, (blk_cell BK362.out 2).trans rfl, (blk_cell BK362.out 3).trans rfl, (blk_cell BK362.out 4).trans rfl⟩ (fun hHeld => ?_)
      generalize w114.drew = w115 at HO370 HO373 HO379 HO382 HO389 HO392 HO399 HO402 HO410 HO413 BK361 BK362 BK393 BK403 HB hHeld ⊢
      refine take_ (i := 0) (N := some 40) (v := ?_) (a' := ?_) ba18_8 rfl rfl (by kernel_rfl) (fun _ _ _ h => h) (Or.inl ⟨by rfl, ?_⟩) hHeld ?_ ?_
      rotate_left; · rintro w' ⟨s0, s1, s2, s3, s4, s5, s6, s7, s8, s9⟩; go_simp; with_reducible rfl
      rotate_left; · simp only [Act.put, List.setIfInBounds_toArray, List.set_cons_zero, List.set_cons_succ, i64_w, i32_w]; rfl
      refine take_ (i := 1) (N := some 41) (v := ?_) (a' := ?_) ba18_9 rfl rfl (by kernel_rfl) (fun _ _ _ h => h) (Or.inl ⟨by rfl, ?_⟩) hHeld ?_ ?_
      rotate_left; · rintro w' ⟨s0, s1, s2, s3, s4, s5, s6, s7, s8, s9⟩; go_simp; with_reducible rfl
      rotate_left; · simp only [Act.put, List.setIfInBounds_toArray, List.set_cons_zero, List.set_cons_succ, i64_w, i32_w]; rfl
      refine one_ (i := 2) (N := some 42) ba18_10 rfl rfl (by kernel_rfl) (by decide) (fun K hK => ?_)
      refine gz_ Try.func15 #[.agg #[.int .i64 a1_0, .int .i64 a1_1, .int .i64 a1_2, .slice A1_3 l1_3.length c1_3, .slice A1_4 l1_4.length c1_4]] ?_
      with_reducible refine (laws_toLsa.calls k a1_0 a1_1 a1_2 _ _ l1_3 _ _ l1_4 t415 t416 t417 t418 t421 _ ?side1 ?side2 ?side3 ?side4 A29.out).mono ?_
      (case side1 => exact cb_ HR1_3 HB)
      (case side2 => exact HC1_3.out)
      (case side3 => exact cb_ HR1_4 HB)
      (case side4 => exact HC1_4.out)
      rintro e w116 ⟨v419, v422, rfl, ho0, ho1, hb⟩
      refine ⟨_, rfl, ?_⟩
      have HO420 := Aside0.mk (Kd.R_lower (Kd.R_new' (Kd.R_new' (Kd.R_new' (Kd.R_new' (Kd.R_new' ho0 (Kd.R_lt (hd_ HO370))) (Kd.R_lt (hd_ HO379))) (Kd.R_lt (hd_ HO389))) (Kd.R_lt (hd_ HO399))) (Kd.R_lt (hd_ HO410))) (bz_ HB))
      have HO423 := Aside0.mk (Kd.R_lower (Kd.R_new' (Kd.R_new' (Kd.R_new' (Kd.R_new' (Kd.R_new' ho1 (Kd.R_lt (hd_ HO373))) (Kd.R_lt (hd_ HO382))) (Kd.R_lt (hd_ HO392))) (Kd.R_lt (hd_ HO402))) (Kd.R_lt (hd_ HO413))) (bz_ HB))
      replace HO370 := Aside0.mk (Kd.R_elder' (hd_ HO370) (Kd.R_base ho0) hb)
      replace HO379 := Aside0.mk (Kd.R_elder' (hd_ HO379) (Kd.R_base ho0) hb)
      replace HO389 := Aside0.mk (Kd.R_elder' (hd_ HO389) (Kd.R_base ho0) hb)
      replace HO399 := Aside0.mk (Kd.R_elder' (hd_ HO399) (Kd.R_base ho0) hb)
      replace HO410 := Aside0.mk (Kd.R_elder' (hd_ HO410) (Kd.R_base ho0) hb)
      replace HO373 := Aside0.mk (Kd.R_elder' (hd_ HO373) (Kd.R_base ho1) hb)
      replace HO382 := Aside0.mk (Kd.R_elder' (hd_ HO382) (Kd.R_base ho1) hb)
      replace HO392 := Aside0.mk (Kd.R_elder' (hd_ HO392) (Kd.R_base ho1) hb)
      replace HO402 := Aside0.mk (Kd.R_elder' (hd_ HO402) (Kd.R_base ho1) hb)
      replace HO413 := Aside0.mk (Kd.R_elder' (hd_ HO413) (Kd.R_base ho1) hb)
      replace BK361 := Aside0.mk (bb_ BK361 hb)
      replace BK362 := Aside0.mk (bb_ BK362 hb)
      replace BK393 := Aside0.mk (bb_ BK393 hb)
      replace BK403 := Aside0.mk (bb_ BK403 hb)
      replace HB := Aside0.mk (bt_ HB hb)
      (try clear hb)
      (try clear hb2)
      (try clear hk)
      (try clear hi)
      (try clear ho0)
      (try clear ho1)
      obtain ⟨Ao117, co117, eo117⟩ := Kd.R_slice HO420.out
      (first | subst eo117 | (injection eo117 with f1_ f2_ f3_; have f4_ := f1_.symm; have f5_ := f3_.symm; clear f1_ f2_ f3_; subst f4_; subst f5_))
      obtain ⟨Ao118, co118, eo118⟩ := Kd.R_slice HO423.out
      (first | subst eo118 | (injection eo118 with f1_ f2_ f3_; have f4_ := f1_.symm; have f5_ := f3_.symm; clear f1_ f2_ f3_; subst f4_; subst f5_))
      refine hK.out _ _ ⟨(blk_cell BK403.out 0).trans rfl, (blk_cell BK403.out 1).trans rfl, (blk_cell BK403.out 2).trans rfl, (blk_cell BK403.out 3).trans rfl, (blk_cell BK403.out 4).trans rfl, (blk_cell BK362.out 0).trans rfl, (blk_cell BK362.out 1).trans rfl, (blk_cell BK362.out 2).trans rfl, (blk_cell BK362.out 3).trans rfl, (blk_cell BK362.out 4).trans rfl⟩ (fun hHeld => ?_)
      clear hK K
      refine nz_ 42 ?_
      refine one_ (i := 3) (N := some 43) ba18_11 rfl rfl (by kernel_rfl) (by decide) (fun K hK => ?_)
      refine gz_ Try.func17 #[.agg #[.int .i64 t394, .int .i64 t395, .int .i64 t396, .slice Ao106 t397.length co106, .slice Ao107 t400.length co107], .agg #[.int .i64 t415, .int .i64 t416, .int .i64 t417, .slice Ao117 t418.length co117, .slice Ao118 t421.length co118]] ?_
      with_reducible refine (laws_eqLsa.calls k t394 t395 t396 _ _ t397 _ _ t400 t415 t416 t417 _ _ t418 _ _ t421 false _ ?side1 ?side2 ?side3 ?side4 ?side5 ?side6 ?side7 ?side8 A30.out).mono ?_
      (case side1 => exact rc_ HO399)
      (case side2 => exact (Kd.R_reads' HO399.out).2.1)
      (case side3 => exact rc_ HO402)
      (case side4 => exact (Kd.R_reads' HO402.out).2.1)
      (case side5 => exact rc_ HO420)
      (case side6 => exact (Kd.R_reads' HO420.out).2.1)
      (case side7 => exact rc_ HO423)
      (case side8 => exact (Kd.R_reads' HO423.out).2.1)
      rintro e w119 ⟨rfl, hb⟩
      refine ⟨_, rfl, ?_⟩
      replace HO370 := rb_ HO370 hb
      replace HO373 := rb_ HO373 hb
      replace HO379 := rb_ HO379 hb
      replace HO382 := rb_ HO382 hb
      replace HO389 := rb_ HO389 hb
      replace HO392 := rb_ HO392 hb
      replace HO399 := rb_ HO399 hb
      replace HO402 := rb_ HO402 hb
      replace HO410 := rb_ HO410 hb
      replace HO413 := rb_ HO413 hb
      replace HO420 := rb_ HO420 hb
      replace HO423 := rb_ HO423 hb
      replace BK361 := Aside0.mk (bb_ BK361 hb)
      replace BK362 := Aside0.mk (bb_ BK362 hb)
      replace BK393 := Aside0.mk (bb_ BK393 hb)
      replace BK403 := Aside0.mk (bb_ BK403 hb)
      replace HB := Aside0.mk (bt_ HB hb)
      (try clear hb)
      (try clear hb2)
      (try clear hk)
      (try clear hi)
      refine hK.out _ _ ⟨(blk_cell BK403.out 0).trans rfl, (blk_cell BK403.out 1).trans rfl, (blk_cell BK403.out 2).trans rfl, (blk_cell BK403.out 3).trans rfl, (blk_cell BK403.out 4).trans rfl, (blk_cell BK362.out 0).trans rfl, (blk_cell BK362.out 1).trans rfl, (blk_cell BK362.out 2).trans rfl, (blk_cell BK362.out 3).trans rfl, (blk_cell BK362.out 4).trans rfl⟩ (fun hHeld => ?_)
      clear hK K
      refine nz_ 43 ?_
      refine pure_ (i := 4) (N := some 44) (v := ?_) (a' := ?_) ba18_12 rfl rfl (by kernel_rfl) (fun _ _ _ h => h) (Or.inl ⟨by rfl, ?_⟩) ?_ ?_
      rotate_left; · intro w'; go_simp; with_reducible rfl
      rotate_left; · simp only [Act.put, List.setIfInBounds_toArray, List.set_cons_zero, List.set_cons_succ, i64_w, i32_w]; rfl
      refine done_ (by kernel_rfl) ?_
      try go_wp2
      go_ret
      exact ⟨by first | rfl | (simp [errW_none, errW_some] <;> rfl) | (simp [*, errW_none, errW_some] <;> rfl), by repeat (first | (with_reducible first | exact HB.out | apply below_alloc | apply pw_below_drewN | apply below_drew1 | refine below_set ?_ GE361.out | refine below_set ?_ GE362.out | refine below_set ?_ GE393.out | refine below_set ?_ GE403.out) | exact HB.out)⟩
    ·replace c28 := Bool.eq_false_iff.mpr c28
     subst c28
     rw [if_neg (show ¬ (false = true) by decide)] at H
     obtain rfl := Option.some.inj H
     go_enter Try.func11, Try.ntmps11
     try go_wp2_with (first | ((with_reducible refine gate_dst (N := 2) rfl ?_); refine box_event ?hg (N := 2) ?hd (cs := #[.int .i64 a0_0, .int .i64 a0_1, .int .i64 a0_2, .slice A0_3 l0_3.length c0_3, .slice A0_4 l0_4.length c0_4]) (t := 25) ?hr ?_; (case hd => rfl); (case hg => rfl); (case hr => first | (go_simp; done) | (go_simp; rfl)); intro gb361 hg w120 hbox hb; have BK361 := Aside0.mk hbox; have GW361 := ge_ HB hg; have GE361 := ge_ HB hg; replace HB := Aside0.mk (bt_ HB hb); clear hb hbox hg) | ((with_reducible refine gate_dst (N := 3) rfl ?_); refine box_event ?hg (N := 3) ?hd (cs := #[.int .i64 a1_0, .int .i64 a1_1, .int .i64 a1_2, .slice A1_3 l1_3.length c1_3, .slice A1_4 l1_4.length c1_4]) (t := 25) ?hr ?_; (case hd => rfl); (case hg => rfl); (case hr => first | (go_simp; done) | (go_simp; rfl)); intro gb362 hg w121 hbox hb; have BK362 := Aside0.mk hbox; have GW362 := ge_ HB hg; have GE362 := ge_ HB hg; have NB361_362 := nl_ BK361 hg; have NB362_361 := ng_ BK361 hg; replace HB := Aside0.mk (bt_ HB hb); replace BK361 := Aside0.mk (bb_ BK361 hb); clear hb hbox hg; have hnb122 := NB361_362.out; have hnc122 := NB362_361.out; have hcz123_0 := cz_ BK361 0 (.int .i64 a0_0); have hcz123_1 := cz_ BK361 1 (.int .i64 a0_1); have hcz123_2 := cz_ BK361 2 (.int .i64 a0_2); have hcz123_3 := cz_ BK361 3 (.slice A0_3 l0_3.length c0_3); have hcz123_4 := cz_ BK361 4 (.slice A0_4 l0_4.length c0_4); have hfz123_0 := blk_frozen BK361.out 0; have hfz123_1 := blk_frozen BK361.out 1; have hfz123_2 := blk_frozen BK361.out 2; have hfz123_3 := blk_frozen BK361.out 3; have hfz123_4 := blk_frozen BK361.out 4) | ((with_reducible refine gate_callee (f := 13) rfl ?_); refine gl_ (some 12) Try.func13 #[.agg #[.int .i64 a0_0, .int .i64 a0_1, .int .i64 a0_2, .slice A0_3 l0_3.length c0_3, .slice A0_4 l0_4.length c0_4], .int .i64 1048576] ?_; (with_reducible refine (laws_szLsa.calls a0_0 a0_1 a0_2 _ _ l0_3 _ _ l0_4 1048576 t363 _ ?side1 ?side2 ?side3 ?side4 A3.out).mono ?_); (case side1 => exact cb_ HR0_3 HB); (case side2 => exact HC0_3.out); (case side3 => exact cb_ HR0_4 HB); (case side4 => exact HC0_4.out); rintro e w124 ⟨rfl, hb⟩; refine ⟨_, rfl, ?_⟩; replace BK361 := Aside0.mk (bb_ BK361 hb); replace BK362 := Aside0.mk (bb_ BK362 hb); replace HB := Aside0.mk (bt_ HB hb); (try clear hb); (try clear hb2); (try clear hk); (try clear hi); have hcz125_0 := cz_ BK362 0 (.int .i64 a1_0); have hcz125_1 := cz_ BK362 1 (.int .i64 a1_1); have hcz125_2 := cz_ BK362 2 (.int .i64 a1_2); have hcz125_3 := cz_ BK362 3 (.slice A1_3 l1_3.length c1_3); have hcz125_4 := cz_ BK362 4 (.slice A1_4 l1_4.length c1_4); have hfz125_0 := blk_frozen BK362.out 0; have hfz125_1 := blk_frozen BK362.out 1; have hfz125_2 := blk_frozen BK362.out 2; have hfz125_3 := blk_frozen BK362.out 3; have hfz125_4 := blk_frozen BK362.out 4) | ((with_reducible refine gate_callee (f := 13) rfl ?_); refine gl_ (some 17) Try.func13 #[.agg #[.int .i64 a1_0, .int .i64 a1_1, .int .i64 a1_2, .slice A1_3 l1_3.length c1_3, .slice A1_4 l1_4.length c1_4], .int .i64 t363] ?_; (with_reducible refine (laws_szLsa.calls a1_0 a1_1 a1_2 _ _ l1_3 _ _ l1_4 t363 t364 _ ?side1 ?side2 ?side3 ?side4 A10.out).mono ?_); (case side1 => exact cb_ HR1_3 HB); (case side2 => exact HC1_3.out); (case side3 => exact cb_ HR1_4 HB); (case side4 => exact HC1_4.out); rintro e w126 ⟨rfl, hb⟩; refine ⟨_, rfl, ?_⟩; replace BK361 := Aside0.mk (bb_ BK361 hb); replace BK362 := Aside0.mk (bb_ BK362 hb); replace HB := Aside0.mk (bt_ HB hb); (try clear hb); (try clear hb2); (try clear hk); (try clear hi)))
     replace BK361 := Aside0.mk (blk_drew BK361.out)
     replace BK362 := Aside0.mk (blk_drew BK362.out)
     replace HB := Aside0.mk (below_drew1 HB.out)
     refine start_ (n := 6) (S := fun w' => w'.cell? ⟨gb361, 0, none⟩ = some (.int .i64 a0_0) ∧ w'.cell? ⟨gb361, 1, none⟩ = some (.int .i64 a0_1) ∧ w'.cell? ⟨gb361, 2, none⟩ = some (.int .i64 a0_2) ∧ w'.cell? ⟨gb361, 3, none⟩ = some (.slice A0_3 l0_3.length c0_3) ∧ w'.cell? ⟨gb361, 4, none⟩ = some (.slice A0_4 l0_4.length c0_4) ∧ w'.cell? ⟨gb362, 0, none⟩ = some (.int .i64 a1_0) ∧ w'.cell? ⟨gb362, 1, none⟩ = some (.int .i64 a1_1) ∧ w'.cell? ⟨gb362, 2, none⟩ = some (.int .i64 a1_2) ∧ w'.cell? ⟨gb362, 3, none⟩ = some (.slice A1_3 l1_3.length c1_3) ∧ w'.cell? ⟨gb362, 4, none⟩ = some (.slice A1_4 l1_4.length c1_4)) (ds := []) ba18_0 (by kernel_rfl) rfl rfl ⟨(blk_cell BK361.out 0).trans rfl, (blk_cell BK361.out 1).trans rfl, (blk_cell BK361.out 2).trans rfl, (blk_cell BK361.out 3).trans rfl, (blk_cell BK361.out 4).trans rfl, (blk_cell BK362.out 0).trans rfl, (blk_cell BK362.out 1).trans rfl, (blk_cell BK362.out 2).trans rfl, (blk_cell BK362.out 3).trans rfl, (blk_cell BK362.out 4).trans rfl⟩ (fun hHeld => ?_)
     generalize w126.drew = w127 at BK361 BK362 HB hHeld ⊢
     refine take_ (i := 0) (N := some 20) (v := ?_) (a' := ?_) ba18_1 rfl rfl (by kernel_rfl) (fun _ _ _ h => h) (Or.inl ⟨by rfl, ?_⟩) hHeld ?_ ?_
     rotate_left; · rintro w' ⟨s0, s1, s2, s3, s4, s5, s6, s7, s8, s9⟩; go_simp; with_reducible rfl
     rotate_left; · simp only [Act.put, List.setIfInBounds_toArray, List.set_cons_zero, List.set_cons_succ, i64_w, i32_w]; rfl
     refine take_ (i := 2) (N := some 22) (v := ?_) (a' := ?_) ba18_2 rfl rfl (by kernel_rfl) (fun _ _ _ h => h) (Or.inl ⟨by rfl, ?_⟩) hHeld ?_ ?_
     rotate_left; · rintro w' ⟨s0, s1, s2, s3, s4, s5, s6, s7, s8, s9⟩; go_simp; with_reducible rfl
     rotate_left; · simp only [Act.put, List.setIfInBounds_toArray, List.set_cons_zero, List.set_cons_succ, i64_w, i32_w]; rfl
     refine one_ (i := 1) (N := some 21) ba18_3 rfl rfl (by kernel_rfl) (by decide) (fun K hK => ?_)
     refine gz_ Try.func15 #[.agg #[.int .i64 a0_0, .int .i64 a0_1, .int .i64 a0_2, .slice A0_3 l0_3.length c0_3, .slice A0_4 l0_4.length c0_4]] ?_
     with_reducible refine (laws_toLsa.calls k a0_0 a0_1 a0_2 _ _ l0_3 _ _ l0_4 t365 t366 t367 t368 t371 _ ?side1 ?side2 ?side3 ?side4 A19.out).mono ?_
     (case side1 => exact cb_ HR0_3 HB)
     (case side2 => exact HC0_3.out)
     (case side3 => exact cb_ HR0_4 HB)
     (case side4 => exact HC0_4.out)
     rintro e w128 ⟨v369, v372, rfl, ho0, ho1, hb⟩
     refine ⟨_, rfl, ?_⟩
     have HO370 := Aside0.mk (Kd.R_lower ho0 (bz_ HB))
     have HO373 := Aside0.mk (Kd.R_lower ho1 (bz_ HB))
     replace BK361 := Aside0.mk (bb_ BK361 hb)
     replace BK362 := Aside0.mk (bb_ BK362 hb)
     replace HB := Aside0.mk (bt_ HB hb)
     (try clear hb)
     (try clear hb2)
     (try clear hk)
     (try clear hi)
     (try clear ho0)
     (try clear ho1)
     refine hK.out _ _ ⟨(blk_cell BK361.out 0).trans rfl, (blk_cell BK361.out 1).trans rfl, (blk_cell BK361.out 2).trans rfl, (blk_cell BK361.out 3).trans rfl, (blk_cell BK361.out 4).trans rfl, (blk_cell BK362.out 0).trans rfl, (blk_cell BK362.out 1).trans rfl, (blk_cell BK362.out 2).trans rfl, (blk_cell BK362.out 3).trans rfl, (blk_cell BK362.out 4).trans rfl⟩ (fun hHeld => ?_)
     clear hK K
     refine nz_ 21 ?_
     refine one_ (i := 3) (N := some 23) ba18_4 rfl rfl (by kernel_rfl) (by decide) (fun K hK => ?_)
     refine gz_ Try.func15 #[.agg #[.int .i64 a1_0, .int .i64 a1_1, .int .i64 a1_2, .slice A1_3 l1_3.length c1_3, .slice A1_4 l1_4.length c1_4]] ?_
     with_reducible refine (laws_toLsa.calls k a1_0 a1_1 a1_2 _ _ l1_3 _ _ l1_4 t374 t375 t376 t377 t380 _ ?side1 ?side2 ?side3 ?side4 A20.out).mono ?_
     (case side1 => exact cb_ HR1_3 HB)
     (case side2 => exact HC1_3.out)
     (case side3 => exact cb_ HR1_4 HB)
     (case side4 => exact HC1_4.out)
     rintro e w129 ⟨v378, v381, rfl, ho0, ho1, hb⟩
     refine ⟨_, rfl, ?_⟩
     have HO379 := Aside0.mk (Kd.R_lower (Kd.R_new' ho0 (Kd.R_lt (hd_ HO370))) (bz_ HB))
     have HO382 := Aside0.mk (Kd.R_lower (Kd.R_new' ho1 (Kd.R_lt (hd_ HO373))) (bz_ HB))
     replace HO370 := Aside0.mk (Kd.R_elder' (hd_ HO370) (Kd.R_base ho0) hb)
     replace HO373 := Aside0.mk (Kd.R_elder' (hd_ HO373) (Kd.R_base ho1) hb)
     replace BK361 := Aside0.mk (bb_ BK361 hb)
     replace BK362 := Aside0.mk (bb_ BK362 hb)
     replace HB := Aside0.mk (bt_ HB hb)
     (try clear hb)
     (try clear hb2)
     (try clear hk)
     (try clear hi)
     (try clear ho0)
     (try clear ho1)
     obtain ⟨Ao130, co130, eo130⟩ := Kd.R_slice HO370.out
     (first | subst eo130 | (injection eo130 with f1_ f2_ f3_; have f4_ := f1_.symm; have f5_ := f3_.symm; clear f1_ f2_ f3_; subst f4_; subst f5_))
     obtain ⟨Ao131, co131, eo131⟩ := Kd.R_slice HO373.out
     (first | subst eo131 | (injection eo131 with f1_ f2_ f3_; have f4_ := f1_.symm; have f5_ := f3_.symm; clear f1_ f2_ f3_; subst f4_; subst f5_))
     obtain ⟨Ao132, co132, eo132⟩ := Kd.R_slice HO379.out
     (first | subst eo132 | (injection eo132 with f1_ f2_ f3_; have f4_ := f1_.symm; have f5_ := f3_.symm; clear f1_ f2_ f3_; subst f4_; subst f5_))
     obtain ⟨Ao133, co133, eo133⟩ := Kd.R_slice HO382.out
     (first | subst eo133 | (injection eo133 with f1_ f2_ f3_; have f4_ := f1_.symm; have f5_ := f3_.symm; clear f1_ f2_ f3_; subst f4_; subst f5_))
     refine hK.out _ _ ⟨(blk_cell BK361.out 0).trans rfl, (blk_cell BK361.out 1).trans rfl, (blk_cell BK361.out 2).trans rfl, (blk_cell BK361.out 3).trans rfl, (blk_cell BK361.out 4).trans rfl, (blk_cell BK362.out 0).trans rfl, (blk_cell BK362.out 1).trans rfl, (blk_cell BK362.out 2).trans rfl, (blk_cell BK362.out 3).trans rfl, (blk_cell BK362.out 4).trans rfl⟩ (fun hHeld => ?_)
     clear hK K
     refine nz_ 23 ?_
     refine one_ (i := 4) (N := some 24) ba18_5 rfl rfl (by kernel_rfl) (by decide) (fun K hK => ?_)
     refine gz_ Try.func48 #[.agg #[.int .i64 t365, .int .i64 t366, .int .i64 t367, .slice Ao130 t368.length co130, .slice Ao131 t371.length co131], .agg #[.int .i64 t374, .int .i64 t375, .int .i64 t376, .slice Ao132 t377.length co132, .slice Ao133 t380.length co133]] ?_
     with_reducible refine (spec_Newer.calls k t365 t366 t367 _ _ t368 _ _ t371 t374 t375 t376 _ _ t377 _ _ t380 t383 _ ?side1 ?side2 ?side3 ?side4 ?side5 ?side6 ?side7 ?side8 A21.out).mono ?_
     (case side1 => exact rc_ HO370)
     (case side2 => exact (Kd.R_reads' HO370.out).2.1)
     (case side3 => exact rc_ HO373)
     (case side4 => exact (Kd.R_reads' HO373.out).2.1)
     (case side5 => exact rc_ HO379)
     (case side6 => exact (Kd.R_reads' HO379.out).2.1)
     (case side7 => exact rc_ HO382)
     (case side8 => exact (Kd.R_reads' HO382.out).2.1)
     rintro e w134 ⟨rfl, hb⟩
     refine ⟨_, rfl, ?_⟩
     replace HO370 := rb_ HO370 hb
     replace HO373 := rb_ HO373 hb
     replace HO379 := rb_ HO379 hb
     replace HO382 := rb_ HO382 hb
     replace BK361 := Aside0.mk (bb_ BK361 hb)
     replace BK362 := Aside0.mk (bb_ BK362 hb)
     replace HB := Aside0.mk (bt_ HB hb)
     (try clear hb)
     (try clear hb2)
     (try clear hk)
     (try clear hi)
     refine hK.out _ _ ⟨(blk_cell BK361.out 0).trans rfl, (blk_cell BK361.out 1).trans rfl, (blk_cell BK361.out 2).trans rfl, (blk_cell BK361.out 3).trans rfl, (blk_cell BK361.out 4).trans rfl, (blk_cell BK362.out 0).trans rfl, (blk_cell BK362.out 1).trans rfl, (blk_cell BK362.out 2).trans rfl, (blk_cell BK362.out 3).trans rfl, (blk_cell BK362.out 4).trans rfl⟩ (fun hHeld => ?_)
     clear hK K
     refine nz_ 24 ?_
     refine pure_ (i := 5) (N := some 6) (v := ?_) (a' := ?_) ba18_6 rfl rfl (by kernel_rfl) (fun _ _ _ h => h) (Or.inl ⟨by rfl, ?_⟩) ?_ ?_
     rotate_left; · intro w'; go_simp; with_reducible rfl
     rotate_left; · simp only [Act.put, List.setIfInBounds_toArray, List.set_cons_zero, List.set_cons_succ, i64_w, i32_w]; rfl
     refine done_ (by kernel_rfl) ?_
     have hcz135_0 := cz_ BK361 0 (.int .i64 a0_0)
     have hcz135_1 := cz_ BK361 1 (.int .i64 a0_1)
     have hcz135_2 := cz_ BK361 2 (.int .i64 a0_2)
     have hcz135_3 := cz_ BK361 3 (.slice A0_3 l0_3.length c0_3)
     have hcz135_4 := cz_ BK361 4 (.slice A0_4 l0_4.length c0_4)
     have hfz135_0 := blk_frozen BK361.out 0
     have hfz135_1 := blk_frozen BK361.out 1
     have hfz135_2 := blk_frozen BK361.out 2
     have hfz135_3 := blk_frozen BK361.out 3
     have hfz135_4 := blk_frozen BK361.out 4
     try go_wp2_with (first | ((with_reducible refine gate_callee (f := 15) rfl ?_); refine gl_ (some 26) Try.func15 #[.agg #[.int .i64 a0_0, .int .i64 a0_1, .int .i64 a0_2, .slice A0_3 l0_3.length c0_3, .slice A0_4 l0_4.length c0_4]] ?_; (with_reducible refine (laws_toLsa.calls k a0_0 a0_1 a0_2 _ _ l0_3 _ _ l0_4 t384 t385 t386 t387 t390 _ ?side1 ?side2 ?side3 ?side4 A22.out).mono ?_); (case side1 => exact cb_ HR0_3 HB); (case side2 => exact HC0_3.out); (case side3 => exact cb_ HR0_4 HB); (case side4 => exact HC0_4.out); rintro e w136 ⟨v388, v391, rfl, ho0, ho1, hb⟩; refine ⟨_, rfl, ?_⟩; have HO389 := Aside0.mk (Kd.R_lower (Kd.R_new' (Kd.R_new' ho0 (Kd.R_lt (hd_ HO370))) (Kd.R_lt (hd_ HO379))) (bz_ HB)); have HO392 := Aside0.mk (Kd.R_lower (Kd.R_new' (Kd.R_new' ho1 (Kd.R_lt (hd_ HO373))) (Kd.R_lt (hd_ HO382))) (bz_ HB)); replace HO370 := Aside0.mk (Kd.R_elder' (hd_ HO370) (Kd.R_base ho0) hb); replace HO379 := Aside0.mk (Kd.R_elder' (hd_ HO379) (Kd.R_base ho0) hb); replace HO373 := Aside0.mk (Kd.R_elder' (hd_ HO373) (Kd.R_base ho1) hb); replace HO382 := Aside0.mk (Kd.R_elder' (hd_ HO382) (Kd.R_base ho1) hb); replace BK361 := Aside0.mk (bb_ BK361 hb); replace BK362 := Aside0.mk (bb_ BK362 hb); replace HB := Aside0.mk (bt_ HB hb); (try clear hb); (try clear hb2); (try clear hk); (try clear hi); (try clear ho0); (try clear ho1)) | ((with_reducible refine gate_dst (N := 7) rfl ?_); refine box_event ?hg (N := 7) ?hd (cs := #[.int .i64 0, .int .i64 0, .int .i64 0, .slice none 0 0, .slice none 0 0]) (t := 31) ?hr ?_; (case hd => rfl); (case hg => rfl); (case hr => first | (go_simp; done) | (go_simp; rfl)); intro gb393 hg w137 hbox hb; have BK393 := Aside0.mk hbox; have GW393 := ge_ HB hg; have GE393 := ge_ HB hg; have NB361_393 := nl_ BK361 hg; have NB393_361 := ng_ BK361 hg; have NB362_393 := nl_ BK362 hg; have NB393_362 := ng_ BK362 hg; replace HO370 := rb_ HO370 hb; replace HO373 := rb_ HO373 hb; replace HO379 := rb_ HO379 hb; replace HO382 := rb_ HO382 hb; replace HO389 := rb_ HO389 hb; replace HO392 := rb_ HO392 hb; replace HB := Aside0.mk (bt_ HB hb); replace BK361 := Aside0.mk (bb_ BK361 hb); replace BK362 := Aside0.mk (bb_ BK362 hb); clear hb hbox hg; have hnb138 := NB393_361.out; have hnc138 := NB361_393.out; have hnb139 := NB393_362.out; have hnc139 := NB362_393.out; have hcz140_0 := cz_ BK393 0 (.int .i64 0); have hcz140_1 := cz_ BK393 1 (.int .i64 0); have hcz140_2 := cz_ BK393 2 (.int .i64 0); have hcz140_3 := cz_ BK393 3 (.slice none 0 0); have hcz140_4 := cz_ BK393 4 (.slice none 0 0); have hfz140_0 := blk_frozen BK393.out 0; have hfz140_1 := blk_frozen BK393.out 1; have hfz140_2 := blk_frozen BK393.out 2; have hfz140_3 := blk_frozen BK393.out 3; have hfz140_4 := blk_frozen BK393.out 4; obtain ⟨Ao141, co141, eo141⟩ := Kd.R_slice HO389.out; subst eo141; obtain ⟨Ao142, co142, eo142⟩ := Kd.R_slice HO392.out; subst eo142; have hcz143_0 := cz_ BK362 0 (.int .i64 a1_0); have hcz143_1 := cz_ BK362 1 (.int .i64 a1_1); have hcz143_2 := cz_ BK362 2 (.int .i64 a1_2); have hcz143_3 := cz_ BK362 3 (.slice A1_3 l1_3.length c1_3); have hcz143_4 := cz_ BK362 4 (.slice A1_4 l1_4.length c1_4); have hfz143_0 := blk_frozen BK362.out 0; have hfz143_1 := blk_frozen BK362.out 1; have hfz143_2 := blk_frozen BK362.out 2; have hfz143_3 := blk_frozen BK362.out 3; have hfz143_4 := blk_frozen BK362.out 4) | ((with_reducible refine gate_callee (f := 15) rfl ?_); refine gl_ (some 28) Try.func15 #[.agg #[.int .i64 a1_0, .int .i64 a1_1, .int .i64 a1_2, .slice A1_3 l1_3.length c1_3, .slice A1_4 l1_4.length c1_4]] ?_; (with_reducible refine (laws_toLsa.calls k a1_0 a1_1 a1_2 _ _ l1_3 _ _ l1_4 t394 t395 t396 t397 t400 _ ?side1 ?side2 ?side3 ?side4 A23.out).mono ?_); (case side1 => exact Kd.C_below HR1_3.out (by repeat (first | (with_reducible first | exact HB.out | apply below_alloc | apply pw_below_drewN | apply below_drew1 | refine below_set ?_ GE361.out | refine below_set ?_ GE362.out | refine below_set ?_ GE393.out) | exact HB.out))); (case side2 => exact HC1_3.out); (case side3 => exact Kd.C_below HR1_4.out (by repeat (first | (with_reducible first | exact HB.out | apply below_alloc | apply pw_below_drewN | apply below_drew1 | refine below_set ?_ GE361.out | refine below_set ?_ GE362.out | refine below_set ?_ GE393.out) | exact HB.out))); (case side4 => exact HC1_4.out); rintro e w144 ⟨v398, v401, rfl, ho0, ho1, hb⟩; refine ⟨_, rfl, ?_⟩; have HO399 := Aside0.mk (Kd.R_lower (Kd.R_new' (Kd.R_new' (Kd.R_new' ho0 (Kd.R_lt (hs_ HO370 BK393))) (Kd.R_lt (hs_ HO379 BK393))) (Kd.R_lt (hs_ HO389 BK393))) (bz_ HB)); have HO402 := Aside0.mk (Kd.R_lower (Kd.R_new' (Kd.R_new' (Kd.R_new' ho1 (Kd.R_lt (hs_ HO373 BK393))) (Kd.R_lt (hs_ HO382 BK393))) (Kd.R_lt (hs_ HO392 BK393))) (bz_ HB)); replace HO370 := Aside0.mk (Kd.R_elder' (hs_ HO370 BK393) (Kd.R_base ho0) hb); replace HO379 := Aside0.mk (Kd.R_elder' (hs_ HO379 BK393) (Kd.R_base ho0) hb); replace HO389 := Aside0.mk (Kd.R_elder' (hs_ HO389 BK393) (Kd.R_base ho0) hb); replace HO373 := Aside0.mk (Kd.R_elder' (hs_ HO373 BK393) (Kd.R_base ho1) hb); replace HO382 := Aside0.mk (Kd.R_elder' (hs_ HO382 BK393) (Kd.R_base ho1) hb); replace HO392 := Aside0.mk (Kd.R_elder' (hs_ HO392 BK393) (Kd.R_base ho1) hb); replace BK361 := bf_ BK361 NB361_393 hb; replace BK362 := bf_ BK362 NB362_393 hb; replace BK393 := Aside0.mk (blk_below (g := gb393) (o := .cells #[.int .i64 t384, .int .i64 t385, .int .i64 t386, .slice Ao141 t387.length co141, .slice Ao142 t390.length co142] 31 (0, 0)) (by (with_reducible repeat (first | refine blk_drewN ?_ _ | refine blk_drew ?_ | refine blk_alloc ?_ _)); refine blk_put (cs := #[.int .i64 t384, .int .i64 t385, .int .i64 t386, .slice Ao141 t387.length co141, .slice none 0 0]) ?_ 4 _ rfl; (with_reducible repeat (first | refine blk_drewN ?_ _ | refine blk_drew ?_ | refine blk_alloc ?_ _)); refine blk_put (cs := #[.int .i64 t384, .int .i64 t385, .int .i64 t386, .slice none 0 0, .slice none 0 0]) ?_ 3 _ rfl; (with_reducible repeat (first | refine blk_drewN ?_ _ | refine blk_drew ?_ | refine blk_alloc ?_ _)); refine blk_put (cs := #[.int .i64 t384, .int .i64 t385, .int .i64 0, .slice none 0 0, .slice none 0 0]) ?_ 2 _ rfl; (with_reducible repeat (first | refine blk_drewN ?_ _ | refine blk_drew ?_ | refine blk_alloc ?_ _)); refine blk_put (cs := #[.int .i64 t384, .int .i64 0, .int .i64 0, .slice none 0 0, .slice none 0 0]) ?_ 1 _ rfl; (with_reducible repeat (first | refine blk_drewN ?_ _ | refine blk_drew ?_ | refine blk_alloc ?_ _)); refine blk_put (cs := #[.int .i64 0, .int .i64 0, .int .i64 0, .slice none 0 0, .slice none 0 0]) ?_ 0 _ rfl; (with_reducible repeat (first | refine blk_drewN ?_ _ | refine blk_drew ?_ | refine blk_alloc ?_ _)); exact BK393.out) hb); replace HB := Aside0.mk (bt_ HB hb); (try clear hb); (try clear hb2); (try clear hk); (try clear hi); (try clear ho0); (try clear ho1)) | ((with_reducible refine gate_dst (N := 8) rfl ?_); refine box_event ?hg (N := 8) ?hd (cs := #[.int .i64 0, .int .i64 0, .int .i64 0, .slice none 0 0, .slice none 0 0]) (t := 31) ?hr ?_; (case hd => rfl); (case hg => rfl); (case hr => first | (go_simp; done) | (go_simp; rfl)); intro gb403 hg w145 hbox hb; have BK403 := Aside0.mk hbox; have GW403 := ge_ HB hg; have GE403 := ge_ HB hg; have NB361_403 := nl_ BK361 hg; have NB403_361 := ng_ BK361 hg; have NB362_403 := nl_ BK362 hg; have NB403_362 := ng_ BK362 hg; have NB393_403 := nl_ BK393 hg; have NB403_393 := ng_ BK393 hg; replace HO370 := rb_ HO370 hb; replace HO373 := rb_ HO373 hb; replace HO379 := rb_ HO379 hb; replace HO382 := rb_ HO382 hb; replace HO389 := rb_ HO389 hb; replace HO392 := rb_ HO392 hb; replace HO399 := rb_ HO399 hb; replace HO402 := rb_ HO402 hb; replace HB := Aside0.mk (bt_ HB hb); replace BK361 := Aside0.mk (bb_ BK361 hb); replace BK362 := Aside0.mk (bb_ BK362 hb); replace BK393 := Aside0.mk (bb_ BK393 hb); clear hb hbox hg; have hnb146 := NB403_361.out; have hnc146 := NB361_403.out; have hnb147 := NB403_362.out; have hnc147 := NB362_403.out; have hnb148 := NB403_393.out; have hnc148 := NB393_403.out; have hcz149_0 := cz_ BK403 0 (.int .i64 0); have hcz149_1 := cz_ BK403 1 (.int .i64 0); have hcz149_2 := cz_ BK403 2 (.int .i64 0); have hcz149_3 := cz_ BK403 3 (.slice none 0 0); have hcz149_4 := cz_ BK403 4 (.slice none 0 0); have hfz149_0 := blk_frozen BK403.out 0; have hfz149_1 := blk_frozen BK403.out 1; have hfz149_2 := blk_frozen BK403.out 2; have hfz149_3 := blk_frozen BK403.out 3; have hfz149_4 := blk_frozen BK403.out 4; obtain ⟨Ao150, co150, eo150⟩ := Kd.R_slice HO399.out; subst eo150; obtain ⟨Ao151, co151, eo151⟩ := Kd.R_slice HO402.out; subst eo151; have hcz152_0 := cz_ BK393 0 (.int .i64 t384); have hcz152_1 := cz_ BK393 1 (.int .i64 t385); have hcz152_2 := cz_ BK393 2 (.int .i64 t386); have hcz152_3 := cz_ BK393 3 (.slice Ao141 t387.length co141); have hcz152_4 := cz_ BK393 4 (.slice Ao142 t390.length co142); have hfz152_0 := blk_frozen BK393.out 0; have hfz152_1 := blk_frozen BK393.out 1; have hfz152_2 := blk_frozen BK393.out 2; have hfz152_3 := blk_frozen BK393.out 3; have hfz152_4 := blk_frozen BK393.out 4) | ((with_reducible refine gate_callee (f := 49) rfl ?_); refine gl_ (some 31) Try.func49 #[.agg #[.int .i64 t384, .int .i64 t385, .int .i64 t386, .slice Ao141 t387.length co141, .slice Ao142 t390.length co142], .agg #[.int .i64 t394, .int .i64 t395, .int .i64 t396, .slice Ao150 t397.length co150, .slice Ao151 t400.length co151]] ?_; (with_reducible refine (impl_Newer.calls k t384 t385 t386 _ _ t387 _ _ t390 t394 t395 t396 _ _ t397 _ _ t400 t404 _ ?side1 ?side2 ?side3 ?side4 ?side5 ?side6 ?side7 ?side8 A24.out).mono ?_); (case side1 => refine (Kd.R_reads' (e := 70) (base := w.heap.size) (ok := fun k_ => (((True ∧ some k_ ≠ (.slice Ao130 t368.length co130 : Value).ownBlock) ∧ some k_ ≠ (.slice Ao132 t377.length co132 : Value).ownBlock) ∧ some k_ ≠ (.slice Ao150 t397.length co150 : Value).ownBlock)) (n := t387.length) (c := co141) ?_).2.2; exact (hs_ HO389 BK403)); (case side2 => exact (Kd.R_reads' HO389.out).2.1); (case side3 => refine (Kd.R_reads' (e := 74) (base := w.heap.size) (ok := fun k_ => (((True ∧ some k_ ≠ (.slice Ao131 t371.length co131 : Value).ownBlock) ∧ some k_ ≠ (.slice Ao133 t380.length co133 : Value).ownBlock) ∧ some k_ ≠ (.slice Ao151 t400.length co151 : Value).ownBlock)) (n := t390.length) (c := co142) ?_).2.2; exact (hs_ HO392 BK403)); (case side4 => exact (Kd.R_reads' HO392.out).2.1); (case side5 => refine (Kd.R_reads' (e := 70) (base := w.heap.size) (ok := fun k_ => (((True ∧ some k_ ≠ (.slice Ao130 t368.length co130 : Value).ownBlock) ∧ some k_ ≠ (.slice Ao132 t377.length co132 : Value).ownBlock) ∧ some k_ ≠ (.slice Ao141 t387.length co141 : Value).ownBlock)) (n := t397.length) (c := co150) ?_).2.2; exact (hs_ HO399 BK403)); (case side6 => exact (Kd.R_reads' HO399.out).2.1); (case side7 => refine (Kd.R_reads' (e := 74) (base := w.heap.size) (ok := fun k_ => (((True ∧ some k_ ≠ (.slice Ao131 t371.length co131 : Value).ownBlock) ∧ some k_ ≠ (.slice Ao133 t380.length co133 : Value).ownBlock) ∧ some k_ ≠ (.slice Ao142 t390.length co142 : Value).ownBlock)) (n := t400.length) (c := co151) ?_).2.2; exact (hs_ HO402 BK403)); (case side8 => exact (Kd.R_reads' HO402.out).2.1); rintro e w153 ⟨rfl, hb⟩; refine ⟨_, rfl, ?_⟩; replace HO370 := rs_ HO370 BK403 hb; replace HO373 := rs_ HO373 BK403 hb; replace HO379 := rs_ HO379 BK403 hb; replace HO382 := rs_ HO382 BK403 hb; replace HO389 := rs_ HO389 BK403 hb; replace HO392 := rs_ HO392 BK403 hb; replace HO399 := rs_ HO399 BK403 hb; replace HO402 := rs_ HO402 BK403 hb; replace BK361 := bf_ BK361 NB361_403 hb; replace BK362 := bf_ BK362 NB362_403 hb; replace BK393 := bf_ BK393 NB393_403 hb; replace BK403 := Aside0.mk (blk_below (g := gb403) (o := .cells #[.int .i64 t394, .int .i64 t395, .int .i64 t396, .slice Ao150 t397.length co150, .slice Ao151 t400.length co151] 31 (0, 0)) (by (with_reducible repeat (first | refine blk_drewN ?_ _ | refine blk_drew ?_ | refine blk_alloc ?_ _)); refine blk_put (cs := #[.int .i64 t394, .int .i64 t395, .int .i64 t396, .slice Ao150 t397.length co150, .slice none 0 0]) ?_ 4 _ rfl; (with_reducible repeat (first | refine blk_drewN ?_ _ | refine blk_drew ?_ | refine blk_alloc ?_ _)); refine blk_put (cs := #[.int .i64 t394, .int .i64 t395, .int .i64 t396, .slice none 0 0, .slice none 0 0]) ?_ 3 _ rfl; (with_reducible repeat (first | refine blk_drewN ?_ _ | refine blk_drew ?_ | refine blk_alloc ?_ _)); refine blk_put (cs := #[.int .i64 t394, .int .i64 t395, .int .i64 0, .slice none 0 0, .slice none 0 0]) ?_ 2 _ rfl; (with_reducible repeat (first | refine blk_drewN ?_ _ | refine blk_drew ?_ | refine blk_alloc ?_ _)); refine blk_put (cs := #[.int .i64 t394, .int .i64 0, .int .i64 0, .slice none 0 0, .slice none 0 0]) ?_ 1 _ rfl; (with_reducible repeat (first | refine blk_drewN ?_ _ | refine blk_drew ?_ | refine blk_alloc ?_ _)); refine blk_put (cs := #[.int .i64 0, .int .i64 0, .int .i64 0, .slice none 0 0, .slice none 0 0]) ?_ 0 _ rfl; (with_reducible repeat (first | refine blk_drewN ?_ _ | refine blk_drew ?_ | refine blk_alloc ?_ _)); exact BK403.out) hb); replace HB := Aside0.mk (bt_ HB hb); (try clear hb); (try clear hb2); (try clear hk); (try clear hi)))
     replace HO370 := Aside0.mk (Kd.R_drew HO370.out)
     replace HO373 := Aside0.mk (Kd.R_drew HO373.out)
     replace HO379 := Aside0.mk (Kd.R_drew HO379.out)
     replace HO382 := Aside0.mk (Kd.R_drew HO382.out)
     replace HO389 := Aside0.mk (Kd.R_drew HO389.out)
     replace HO392 := Aside0.mk (Kd.R_drew HO392.out)
     replace HO399 := Aside0.mk (Kd.R_drew HO399.out)
     replace HO402 := Aside0.mk (Kd.R_drew HO402.out)
     replace BK361 := Aside0.mk (blk_drew BK361.out)
     replace BK362 := Aside0.mk (blk_drew BK362.out)
     replace BK393 := Aside0.mk (blk_drew BK393.out)
     replace BK403 := Aside0.mk (blk_drew BK403.out)
     replace HB := Aside0.mk (below_drew1 HB.out)
     refine start_ (n := 5) (S := fun w' => w'.cell? ⟨gb393, 0, none⟩ = some (.int .i64 t384) ∧ w'.cell? ⟨gb393, 1, none⟩ = some (.int .i64 t385) ∧ w'.cell? ⟨gb393, 2, none⟩ = some (.int .i64 t386) ∧ w'.cell? ⟨gb393, 3, none⟩ = some (.slice Ao141 t387.length co141) ∧ w'.cell? ⟨gb393, 4, none⟩ = some (.slice Ao142 t390.length co142) ∧ w'.cell? ⟨gb361, 0, none⟩ = some (.int .i64 a0_0) ∧ w'.cell? ⟨gb361, 1, none⟩ = some (.int .i64 a0_1) ∧ w'.cell? ⟨gb361, 2, none⟩ = some (.int .i64 a0_2) ∧ w'.cell? ⟨gb361, 3, none⟩ = some (.slice A0_3 l0_3.length c0_3) ∧ w'.cell? ⟨gb361, 4, none⟩ = some (.slice A0_4 l0_4.length c0_4)) (ds := []) ba18_7 (by kernel_rfl) rfl rfl ⟨(blk_cell BK393.out 0).trans rfl, (blk_cell BK393.out 1).trans rfl, (blk_cell BK393.out 2).trans rfl, (blk_cell BK393.out 3).trans rfl, (blk_cell BK393.out 4).trans rfl, (blk_cell BK361.out 0).trans rfl, (blk_cell BK361.out 1).trans rfl, (blk_cell BK361.out 2).trans rfl, (blk_cell BK361.out 3).trans rfl, (blk_cell BK361.out 4).trans rfl⟩ (fun hHeld => ?_)
     generalize w153.drew = w154 at HO370 HO373 HO379 HO382 HO389 HO392 HO399 HO402 BK361 BK362 BK393 BK403 HB hHeld ⊢
     refine take_ (i := 0) (N := some 35) (v := ?_) (a' := ?_) ba18_8 rfl rfl (by kernel_rfl) (fun _ _ _ h => h) (Or.inl ⟨by rfl, ?_⟩) hHeld ?_ ?_
     rotate_left; · rintro w' ⟨s0, s1, s2, s3, s4, s5, s6, s7, s8, s9⟩; go_simp; with_reducible rfl
     rotate_left; · simp only [Act.put, List.setIfInBounds_toArray, List.set_cons_zero, List.set_cons_succ, i64_w, i32_w]; rfl
     refine take_ (i := 1) (N := some 36) (v := ?_) (a' := ?_) ba18_9 rfl rfl (by kernel_rfl) (fun _ _ _ h => h) (Or.inl ⟨by rfl, ?_⟩) hHeld ?_ ?_
     rotate_left; · rintro w' ⟨s0, s1, s2, s3, s4, s5, s6, s7, s8, s9⟩; go_simp; with_reducible rfl
     rotate_left; · simp only [Act.put, List.setIfInBounds_toArray, List.set_cons_zero, List.set_cons_succ, i64_w, i32_w]; rfl
     refine one_ (i := 2) (N := some 37) ba18_10 rfl rfl (by kernel_rfl) (by decide) (fun K hK => ?_)
     refine gz_ Try.func15 #[.agg #[.int .i64 a0_0, .int .i64 a0_1, .int .i64 a0_2, .slice A0_3 l0_3.length c0_3, .slice A0_4 l0_4.length c0_4]] ?_
     with_reducible refine (laws_toLsa.calls k a0_0 a0_1 a0_2 _ _ l0_3 _ _ l0_4 t405 t406 t407 t408 t411 _ ?side1 ?side2 ?side3 ?side4 A26.out).mono ?_
     (case side1 => exact cb_ HR0_3 HB)
     (case side2 => exact HC0_3.out)
     (case side3 => exact cb_ HR0_4 HB)
     (case side4 => exact HC0_4.out)
     rintro e w155 ⟨v409, v412, rfl, ho0, ho1, hb⟩
     refine ⟨_, rfl, ?_⟩
     have HO410 := Aside0.mk (Kd.R_lower (Kd.R_new' (Kd.R_new' (Kd.R_new' (Kd.R_new' ho0 (Kd.R_lt (hd_ HO370))) (Kd.R_lt (hd_ HO379))) (Kd.R_lt (hd_ HO389))) (Kd.R_lt (hd_ HO399))) (bz_ HB))
     have HO413 := Aside0.mk (Kd.R_lower (Kd.R_new' (Kd.R_new' (Kd.R_new' (Kd.R_new' ho1 (Kd.R_lt (hd_ HO373))) (Kd.R_lt (hd_ HO382))) (Kd.R_lt (hd_ HO392))) (Kd.R_lt (hd_ HO402))) (bz_ HB))
     replace HO370 := Aside0.mk (Kd.R_elder' (hd_ HO370) (Kd.R_base ho0) hb)
     replace HO379 := Aside0.mk (Kd.R_elder' (hd_ HO379) (Kd.R_base ho0) hb)
     replace HO389 := Aside0.mk (Kd.R_elder' (hd_ HO389) (Kd.R_base ho0) hb)
     replace HO399 := Aside0.mk (Kd.R_elder' (hd_ HO399) (Kd.R_base ho0) hb)
     replace HO373 := Aside0.mk (Kd.R_elder' (hd_ HO373) (Kd.R_base ho1) hb)
     replace HO382 := Aside0.mk (Kd.R_elder' (hd_ HO382) (Kd.R_base ho1) hb)
     replace HO392 := Aside0.mk (Kd.R_elder' (hd_ HO392) (Kd.R_base ho1) hb)
     replace HO402 := Aside0.mk (Kd.R_elder' (hd_ HO402) (Kd.R_base ho1) hb)
     replace BK361 := Aside0.mk (bb_ BK361 hb)
     replace BK362 := Aside0.mk (bb_ BK362 hb)
     replace BK393 := Aside0.mk (bb_ BK393 hb)
     replace BK403 := Aside0.mk (bb_ BK403 hb)
     replace HB := Aside0.mk (bt_ HB hb)
     (try clear hb)
     (try clear hb2)
     (try clear hk)
     (try clear hi)
     (try clear ho0)
     (try clear ho1)
     obtain ⟨Ao156, co156, eo156⟩ := Kd.R_slice HO410.out
     (first | subst eo156 | (injection eo156 with f1_ f2_ f3_; have f4_ := f1_.symm; have f5_ := f3_.symm; clear f1_ f2_ f3_; subst f4_; subst f5_))
     obtain ⟨Ao157, co157, eo157⟩ := Kd.R_slice HO413.out
     (first | subst eo157 | (injection eo157 with f1_ f2_ f3_; have f4_ := f1_.symm; have f5_ := f3_.symm; clear f1_ f2_ f3_; subst f4_; subst f5_))
     refine hK.out _ _ ⟨(blk_cell BK393.out 0).trans rfl, (blk_cell BK393.out 1).trans rfl, (blk_cell BK393.out 2).trans rfl, (blk_cell BK393.out 3).trans rfl, (blk_cell BK393.out 4).trans rfl, (blk_cell BK361.out 0).trans rfl, (blk_cell BK361.out 1).trans rfl, (blk_cell BK361.out 2).trans rfl, (blk_cell BK361.out 3).trans rfl, (blk_cell BK361.out 4).trans rfl⟩ (fun hHeld => ?_)
     clear hK K
     refine nz_ 37 ?_
     refine one_ (i := 3) (N := some 38) ba18_11 rfl rfl (by kernel_rfl) (by decide) (fun K hK => ?_)
     refine gz_ Try.func17 #[.agg #[.int .i64 t384, .int .i64 t385, .int .i64 t386, .slice Ao141 t387.length co141, .slice Ao142 t390.length co142], .agg #[.int .i64 t405, .int .i64 t406, .int .i64 t407, .slice Ao156 t408.length co156, .slice Ao157 t411.length co157]] ?_
     with_reducible refine (laws_eqLsa.calls k t384 t385 t386 _ _ t387 _ _ t390 t405 t406 t407 _ _ t408 _ _ t411 false _ ?side1 ?side2 ?side3 ?side4 ?side5 ?side6 ?side7 ?side8 A27.out).mono ?_
     (case side1 => exact rc_ HO389)
     (case side2 => exact (Kd.R_reads' HO389.out).2.1)
     (case side3 => exact rc_ HO392)
     (case side4 => exact (Kd.R_reads' HO392.out).2.1)
     (case side5 => exact rc_ HO410)
     (case side6 => exact (Kd.R_reads' HO410.out).2.1)
     (case side7 => exact rc_ HO413)
     (case side8 => exact (Kd.R_reads' HO413.out).2.1)
     rintro e w158 ⟨rfl, hb⟩
     refine ⟨_, rfl, ?_⟩
     replace HO370 := rb_ HO370 hb
     replace HO373 := rb_ HO373 hb
     replace HO379 := rb_ HO379 hb
     replace HO382 := rb_ HO382 hb
     replace HO389 := rb_ HO389 hb
     replace HO392 := rb_ HO392 hb
     replace HO399 := rb_ HO399 hb
     replace HO402 := rb_ HO402 hb
     replace HO410 := rb_ HO410 hb
     replace HO413 := rb_ HO413 hb
     replace BK361 := Aside0.mk (bb_ BK361 hb)
     replace BK362 := Aside0.mk (bb_ BK362 hb)
     replace BK393 := Aside0.mk (bb_ BK393 hb)
     replace BK403 := Aside0.mk (bb_ BK403 hb)
     replace HB := Aside0.mk (bt_ HB hb)
     (try clear hb)
     (try clear hb2)
     (try clear hk)
     (try clear hi)
     refine hK.out _ _ ⟨(blk_cell BK393.out 0).trans rfl, (blk_cell BK393.out 1).trans rfl, (blk_cell BK393.out 2).trans rfl, (blk_cell BK393.out 3).trans rfl, (blk_cell BK393.out 4).trans rfl, (blk_cell BK361.out 0).trans rfl, (blk_cell BK361.out 1).trans rfl, (blk_cell BK361.out 2).trans rfl, (blk_cell BK361.out 3).trans rfl, (blk_cell BK361.out 4).trans rfl⟩ (fun hHeld => ?_)
     clear hK K
     refine nz_ 38 ?_
     refine pure_ (i := 4) (N := some 39) (v := ?_) (a' := ?_) ba18_12 rfl rfl (by kernel_rfl) (fun _ _ _ h => h) (Or.inl ⟨by rfl, ?_⟩) ?_ ?_
     rotate_left; · intro w'; go_simp; with_reducible rfl
     rotate_left; · simp only [Act.put, List.setIfInBounds_toArray, List.set_cons_zero, List.set_cons_succ, i64_w, i32_w]; rfl
     refine done_ (by kernel_rfl) ?_
     try go_wp2
     go_ret
     exact ⟨by first | rfl | (simp [errW_none, errW_some] <;> rfl) | (simp [*, errW_none, errW_some] <;> rfl), by repeat (first | (with_reducible first | exact HB.out | apply below_alloc | apply pw_below_drewN | apply below_drew1 | refine below_set ?_ GE361.out | refine below_set ?_ GE362.out | refine below_set ?_ GE393.out | refine below_set ?_ GE403.out) | exact HB.out)⟩
   ·rw [if_neg c25] at H
    have c25b0 : (t404 == t383) = false := beq_eq_false_iff_ne.mpr c25
    have c25b1 : (t404 != t383) = true := bne_iff_ne.mpr c25
    obtain rfl := Option.some.inj H
    go_enter Try.func11, Try.ntmps11
    try go_wp2_with (first | ((with_reducible refine gate_dst (N := 2) rfl ?_); refine box_event ?hg (N := 2) ?hd (cs := #[.int .i64 a0_0, .int .i64 a0_1, .int .i64 a0_2, .slice A0_3 l0_3.length c0_3, .slice A0_4 l0_4.length c0_4]) (t := 25) ?hr ?_; (case hd => rfl); (case hg => rfl); (case hr => first | (go_simp; done) | (go_simp; rfl)); intro gb361 hg w159 hbox hb; have BK361 := Aside0.mk hbox; have GW361 := ge_ HB hg; have GE361 := ge_ HB hg; replace HB := Aside0.mk (bt_ HB hb); clear hb hbox hg) | ((with_reducible refine gate_dst (N := 3) rfl ?_); refine box_event ?hg (N := 3) ?hd (cs := #[.int .i64 a1_0, .int .i64 a1_1, .int .i64 a1_2, .slice A1_3 l1_3.length c1_3, .slice A1_4 l1_4.length c1_4]) (t := 25) ?hr ?_; (case hd => rfl); (case hg => rfl); (case hr => first | (go_simp; done) | (go_simp; rfl)); intro gb362 hg w160 hbox hb; have BK362 := Aside0.mk hbox; have GW362 := ge_ HB hg; have GE362 := ge_ HB hg; have NB361_362 := nl_ BK361 hg; have NB362_361 := ng_ BK361 hg; replace HB := Aside0.mk (bt_ HB hb); replace BK361 := Aside0.mk (bb_ BK361 hb); clear hb hbox hg; have hnb161 := NB361_362.out; have hnc161 := NB362_361.out; have hcz162_0 := cz_ BK361 0 (.int .i64 a0_0); have hcz162_1 := cz_ BK361 1 (.int .i64 a0_1); have hcz162_2 := cz_ BK361 2 (.int .i64 a0_2); have hcz162_3 := cz_ BK361 3 (.slice A0_3 l0_3.length c0_3); have hcz162_4 := cz_ BK361 4 (.slice A0_4 l0_4.length c0_4); have hfz162_0 := blk_frozen BK361.out 0; have hfz162_1 := blk_frozen BK361.out 1; have hfz162_2 := blk_frozen BK361.out 2; have hfz162_3 := blk_frozen BK361.out 3; have hfz162_4 := blk_frozen BK361.out 4) | ((with_reducible refine gate_callee (f := 13) rfl ?_); refine gl_ (some 12) Try.func13 #[.agg #[.int .i64 a0_0, .int .i64 a0_1, .int .i64 a0_2, .slice A0_3 l0_3.length c0_3, .slice A0_4 l0_4.length c0_4], .int .i64 1048576] ?_; (with_reducible refine (laws_szLsa.calls a0_0 a0_1 a0_2 _ _ l0_3 _ _ l0_4 1048576 t363 _ ?side1 ?side2 ?side3 ?side4 A3.out).mono ?_); (case side1 => exact cb_ HR0_3 HB); (case side2 => exact HC0_3.out); (case side3 => exact cb_ HR0_4 HB); (case side4 => exact HC0_4.out); rintro e w163 ⟨rfl, hb⟩; refine ⟨_, rfl, ?_⟩; replace BK361 := Aside0.mk (bb_ BK361 hb); replace BK362 := Aside0.mk (bb_ BK362 hb); replace HB := Aside0.mk (bt_ HB hb); (try clear hb); (try clear hb2); (try clear hk); (try clear hi); have hcz164_0 := cz_ BK362 0 (.int .i64 a1_0); have hcz164_1 := cz_ BK362 1 (.int .i64 a1_1); have hcz164_2 := cz_ BK362 2 (.int .i64 a1_2); have hcz164_3 := cz_ BK362 3 (.slice A1_3 l1_3.length c1_3); have hcz164_4 := cz_ BK362 4 (.slice A1_4 l1_4.length c1_4); have hfz164_0 := blk_frozen BK362.out 0; have hfz164_1 := blk_frozen BK362.out 1; have hfz164_2 := blk_frozen BK362.out 2; have hfz164_3 := blk_frozen BK362.out 3; have hfz164_4 := blk_frozen BK362.out 4) | ((with_reducible refine gate_callee (f := 13) rfl ?_); refine gl_ (some 17) Try.func13 #[.agg #[.int .i64 a1_0, .int .i64 a1_1, .int .i64 a1_2, .slice A1_3 l1_3.length c1_3, .slice A1_4 l1_4.length c1_4], .int .i64 t363] ?_; (with_reducible refine (laws_szLsa.calls a1_0 a1_1 a1_2 _ _ l1_3 _ _ l1_4 t363 t364 _ ?side1 ?side2 ?side3 ?side4 A10.out).mono ?_); (case side1 => exact cb_ HR1_3 HB); (case side2 => exact HC1_3.out); (case side3 => exact cb_ HR1_4 HB); (case side4 => exact HC1_4.out); rintro e w165 ⟨rfl, hb⟩; refine ⟨_, rfl, ?_⟩; replace BK361 := Aside0.mk (bb_ BK361 hb); replace BK362 := Aside0.mk (bb_ BK362 hb); replace HB := Aside0.mk (bt_ HB hb); (try clear hb); (try clear hb2); (try clear hk); (try clear hi)))
    replace BK361 := Aside0.mk (blk_drew BK361.out)
    replace BK362 := Aside0.mk (blk_drew BK362.out)
    replace HB := Aside0.mk (below_drew1 HB.out)
    refine start_ (n := 6) (S := fun w' => w'.cell? ⟨gb361, 0, none⟩ = some (.int .i64 a0_0) ∧ w'.cell? ⟨gb361, 1, none⟩ = some (.int .i64 a0_1) ∧ w'.cell? ⟨gb361, 2, none⟩ = some (.int .i64 a0_2) ∧ w'.cell? ⟨gb361, 3, none⟩ = some (.slice A0_3 l0_3.length c0_3) ∧ w'.cell? ⟨gb361, 4, none⟩ = some (.slice A0_4 l0_4.length c0_4) ∧ w'.cell? ⟨gb362, 0, none⟩ = some (.int .i64 a1_0) ∧ w'.cell? ⟨gb362, 1, none⟩ = some (.int .i64 a1_1) ∧ w'.cell? ⟨gb362, 2, none⟩ = some (.int .i64 a1_2) ∧ w'.cell? ⟨gb362, 3, none⟩ = some (.slice A1_3 l1_3.length c1_3) ∧ w'.cell? ⟨gb362, 4, none⟩ = some (.slice A1_4 l1_4.length c1_4)) (ds := []) ba18_0 (by kernel_rfl) rfl rfl ⟨(blk_cell BK361.out 0).trans rfl, (blk_cell BK361.out 1).trans rfl, (blk_cell BK361.out 2).trans rfl, (blk_cell BK361.out 3).trans rfl, (blk_cell BK361.out 4).trans rfl, (blk_cell BK362.out 0).trans rfl, (blk_cell BK362.out 1).trans rfl, (blk_cell BK362.out 2).trans rfl, (blk_cell BK362.out 3).trans rfl, (blk_cell BK362.out 4).trans rfl⟩ (fun hHeld => ?_)
    generalize w165.drew = w166 at BK361 BK362 HB hHeld ⊢
    refine take_ (i := 0) (N := some 20) (v := ?_) (a' := ?_) ba18_1 rfl rfl (by kernel_rfl) (fun _ _ _ h => h) (Or.inl ⟨by rfl, ?_⟩) hHeld ?_ ?_
    rotate_left; · rintro w' ⟨s0, s1, s2, s3, s4, s5, s6, s7, s8, s9⟩; go_simp; with_reducible rfl
    rotate_left; · simp only [Act.put, List.setIfInBounds_toArray, List.set_cons_zero, List.set_cons_succ, i64_w, i32_w]; rfl
    refine take_ (i := 2) (N := some 22) (v := ?_) (a' := ?_) ba18_2 rfl rfl (by kernel_rfl) (fun _ _ _ h => h) (Or.inl ⟨by rfl, ?_⟩) hHeld ?_ ?_
    rotate_left; · rintro w' ⟨s0, s1, s2, s3, s4, s5, s6, s7, s8, s9⟩; go_simp; with_reducible rfl
    rotate_left; · simp only [Act.put, List.setIfInBounds_toArray, List.set_cons_zero, List.set_cons_succ, i64_w, i32_w]; rfl
    refine one_ (i := 1) (N := some 21) ba18_3 rfl rfl (by kernel_rfl) (by decide) (fun K hK => ?_)
    refine gz_ Try.func15 #[.agg #[.int .i64 a0_0, .int .i64 a0_1, .int .i64 a0_2, .slice A0_3 l0_3.length c0_3, .slice A0_4 l0_4.length c0_4]] ?_
    with_reducible refine (laws_toLsa.calls k a0_0 a0_1 a0_2 _ _ l0_3 _ _ l0_4 t365 t366 t367 t368 t371 _ ?side1 ?side2 ?side3 ?side4 A19.out).mono ?_
    (case side1 => exact cb_ HR0_3 HB)
    (case side2 => exact HC0_3.out)
    (case side3 => exact cb_ HR0_4 HB)
    (case side4 => exact HC0_4.out)
    rintro e w167 ⟨v369, v372, rfl, ho0, ho1, hb⟩
    refine ⟨_, rfl, ?_⟩
    have HO370 := Aside0.mk (Kd.R_lower ho0 (bz_ HB))
    have HO373 := Aside0.mk (Kd.R_lower ho1 (bz_ HB))
    replace BK361 := Aside0.mk (bb_ BK361 hb)
    replace BK362 := Aside0.mk (bb_ BK362 hb)
    replace HB := Aside0.mk (bt_ HB hb)
    (try clear hb)
    (try clear hb2)
    (try clear hk)
    (try clear hi)
    (try clear ho0)
    (try clear ho1)
    refine hK.out _ _ ⟨(blk_cell BK361.out 0).trans rfl, (blk_cell BK361.out 1).trans rfl, (blk_cell BK361.out 2).trans rfl, (blk_cell BK361.out 3).trans rfl, (blk_cell BK361.out 4).trans rfl, (blk_cell BK362.out 0).trans rfl, (blk_cell BK362.out 1).trans rfl, (blk_cell BK362.out 2).trans rfl, (blk_cell BK362.out 3).trans rfl, (blk_cell BK362.out 4).trans rfl⟩ (fun hHeld => ?_)
    clear hK K
    refine nz_ 21 ?_
    refine one_ (i := 3) (N := some 23) ba18_4 rfl rfl (by kernel_rfl) (by decide) (fun K hK => ?_)
    refine gz_ Try.func15 #[.agg #[.int .i64 a1_0, .int .i64 a1_1, .int .i64 a1_2, .slice A1_3 l1_3.length c1_3, .slice A1_4 l1_4.length c1_4]] ?_
    with_reducible refine (laws_toLsa.calls k a1_0 a1_1 a1_2 _ _ l1_3 _ _ l1_4 t374 t375 t376 t377 t380 _ ?side1 ?side2 ?side3 ?side4 A20.out).mono ?_
    (case side1 => exact cb_ HR1_3 HB)
    (case side2 => exact HC1_3.out)
    (case side3 => exact cb_ HR1_4 HB)
    (case side4 => exact HC1_4.out)
    rintro e w168 ⟨v378, v381, rfl, ho0, ho1, hb⟩
    refine ⟨_, rfl, ?_⟩
    have HO379 := Aside0.mk (Kd.R_lower (Kd.R_new' ho0 (Kd.R_lt (hd_ HO370))) (bz_ HB))
    have HO382 := Aside0.mk (Kd.R_lower (Kd.R_new' ho1 (Kd.R_lt (hd_ HO373))) (bz_ HB))
    replace HO370 := Aside0.mk (Kd.R_elder' (hd_ HO370) (Kd.R_base ho0) hb)
    replace HO373 := Aside0.mk (Kd.R_elder' (hd_ HO373) (Kd.R_base ho1) hb)
    replace BK361 := Aside0.mk (bb_ BK361 hb)
    replace BK362 := Aside0.mk (bb_ BK362 hb)
    replace HB := Aside0.mk (bt_ HB hb)
    (try clear hb)
    (try clear hb2)
    (try clear hk)
    (try clear hi)
    (try clear ho0)
    (try clear ho1)
    obtain ⟨Ao169, co169, eo169⟩ := Kd.R_slice HO370.out
    (first | subst eo169 | (injection eo169 with f1_ f2_ f3_; have f4_ := f1_.symm; have f5_ := f3_.symm; clear f1_ f2_ f3_; subst f4_; subst f5_))
    obtain ⟨Ao170, co170, eo170⟩ := Kd.R_slice HO373.out
    (first | subst eo170 | (injection eo170 with f1_ f2_ f3_; have f4_ := f1_.symm; have f5_ := f3_.symm; clear f1_ f2_ f3_; subst f4_; subst f5_))
    obtain ⟨Ao171, co171, eo171⟩ := Kd.R_slice HO379.out
    (first | subst eo171 | (injection eo171 with f1_ f2_ f3_; have f4_ := f1_.symm; have f5_ := f3_.symm; clear f1_ f2_ f3_; subst f4_; subst f5_))
    obtain ⟨Ao172, co172, eo172⟩ := Kd.R_slice HO382.out
    (first | subst eo172 | (injection eo172 with f1_ f2_ f3_; have f4_ := f1_.symm; have f5_ := f3_.symm; clear f1_ f2_ f3_; subst f4_; subst f5_))
    refine hK.out _ _ ⟨(blk_cell BK361.out 0).trans rfl, (blk_cell BK361.out 1).trans rfl, (blk_cell BK361.out 2).trans rfl, (blk_cell BK361.out 3).trans rfl, (blk_cell BK361.out 4).trans rfl, (blk_cell BK362.out 0).trans rfl, (blk_cell BK362.out 1).trans rfl, (blk_cell BK362.out 2).trans rfl, (blk_cell BK362.out 3).trans rfl, (blk_cell BK362.out 4).trans rfl⟩ (fun hHeld => ?_)
    clear hK K
    refine nz_ 23 ?_
    refine one_ (i := 4) (N := some 24) ba18_5 rfl rfl (by kernel_rfl) (by decide) (fun K hK => ?_)
    refine gz_ Try.func48 #[.agg #[.int .i64 t365, .int .i64 t366, .int .i64 t367, .slice Ao169 t368.length co169, .slice Ao170 t371.length co170], .agg #[.int .i64 t374, .int .i64 t375, .int .i64 t376, .slice Ao171 t377.length co171, .slice Ao172 t380.length co172]] ?_
    with_reducible refine (spec_Newer.calls k t365 t366 t367 _ _ t368 _ _ t371 t374 t375 t376 _ _ t377 _ _ t380 t383 _ ?side1 ?side2 ?side3 ?side4 ?side5 ?side6 ?side7 ?side8 A21.out).mono ?_
    (case side1 => exact rc_ HO370)
    (case side2 => exact (Kd.R_reads' HO370.out).2.1)
    (case side3 => exact rc_ HO373)
    (case side4 => exact (Kd.R_reads' HO373.out).2.1)
    (case side5 => exact rc_ HO379)
    (case side6 => exact (Kd.R_reads' HO379.out).2.1)
    (case side7 => exact rc_ HO382)
    (case side8 => exact (Kd.R_reads' HO382.out).2.1)
    rintro e w173 ⟨rfl, hb⟩
    refine ⟨_, rfl, ?_⟩
    replace HO370 := rb_ HO370 hb
    replace HO373 := rb_ HO373 hb
    replace HO379 := rb_ HO379 hb
    replace HO382 := rb_ HO382 hb
    replace BK361 := Aside0.mk (bb_ BK361 hb)
    replace BK362 := Aside0.mk (bb_ BK362 hb)
    replace HB := Aside0.mk (bt_ HB hb)
    (try clear hb)
    (try clear hb2)
    (try clear hk)
    (try clear hi)
    refine hK.out _ _ ⟨(blk_cell BK361.out 0).trans rfl, (blk_cell BK361.out 1).trans rfl, (blk_cell BK361.out 2).trans rfl, (blk_cell BK361.out 3).trans rfl, (blk_cell BK361.out 4).trans rfl, (blk_cell BK362.out 0).trans rfl, (blk_cell BK362.out 1).trans rfl, (blk_cell BK362.out 2).trans rfl, (blk_cell BK362.out 3).trans rfl, (blk_cell BK362.out 4).trans rfl⟩ (fun hHeld => ?_)
    clear hK K
    refine nz_ 24 ?_
    refine pure_ (i := 5) (N := some 6) (v := ?_) (a' := ?_) ba18_6 rfl rfl (by kernel_rfl) (fun _ _ _ h => h) (Or.inl ⟨by rfl, ?_⟩) ?_ ?_
    rotate_left; · intro w'; go_simp; with_reducible rfl
    rotate_left; · simp only [Act.put, List.setIfInBounds_toArray, List.set_cons_zero, List.set_cons_succ, i64_w, i32_w]; rfl
    refine done_ (by kernel_rfl) ?_
    have hcz174_0 := cz_ BK361 0 (.int .i64 a0_0)
    have hcz174_1 := cz_ BK361 1 (.int .i64 a0_1)
    have hcz174_2 := cz_ BK361 2 (.int .i64 a0_2)
    have hcz174_3 := cz_ BK361 3 (.slice A0_3 l0_3.length c0_3)
    have hcz174_4 := cz_ BK361 4 (.slice A0_4 l0_4.length c0_4)
    have hfz174_0 := blk_frozen BK361.out 0
    have hfz174_1 := blk_frozen BK361.out 1
    have hfz174_2 := blk_frozen BK361.out 2
    have hfz174_3 := blk_frozen BK361.out 3
    have hfz174_4 := blk_frozen BK361.out 4
    try go_wp2_with (first | ((with_reducible refine gate_callee (f := 15) rfl ?_); refine gl_ (some 26) Try.func15 #[.agg #[.int .i64 a0_0, .int .i64 a0_1, .int .i64 a0_2, .slice A0_3 l0_3.length c0_3, .slice A0_4 l0_4.length c0_4]] ?_; (with_reducible refine (laws_toLsa.calls k a0_0 a0_1 a0_2 _ _ l0_3 _ _ l0_4 t384 t385 t386 t387 t390 _ ?side1 ?side2 ?side3 ?side4 A22.out).mono ?_); (case side1 => exact cb_ HR0_3 HB); (case side2 => exact HC0_3.out); (case side3 => exact cb_ HR0_4 HB); (case side4 => exact HC0_4.out); rintro e w175 ⟨v388, v391, rfl, ho0, ho1, hb⟩; refine ⟨_, rfl, ?_⟩; have HO389 := Aside0.mk (Kd.R_lower (Kd.R_new' (Kd.R_new' ho0 (Kd.R_lt (hd_ HO370))) (Kd.R_lt (hd_ HO379))) (bz_ HB)); have HO392 := Aside0.mk (Kd.R_lower (Kd.R_new' (Kd.R_new' ho1 (Kd.R_lt (hd_ HO373))) (Kd.R_lt (hd_ HO382))) (bz_ HB)); replace HO370 := Aside0.mk (Kd.R_elder' (hd_ HO370) (Kd.R_base ho0) hb); replace HO379 := Aside0.mk (Kd.R_elder' (hd_ HO379) (Kd.R_base ho0) hb); replace HO373 := Aside0.mk (Kd.R_elder' (hd_ HO373) (Kd.R_base ho1) hb); replace HO382 := Aside0.mk (Kd.R_elder' (hd_ HO382) (Kd.R_base ho1) hb); replace BK361 := Aside0.mk (bb_ BK361 hb); replace BK362 := Aside0.mk (bb_ BK362 hb); replace HB := Aside0.mk (bt_ HB hb); (try clear hb); (try clear hb2); (try clear hk); (try clear hi); (try clear ho0); (try clear ho1)) | ((with_reducible refine gate_dst (N := 7) rfl ?_); refine box_event ?hg (N := 7) ?hd (cs := #[.int .i64 0, .int .i64 0, .int .i64 0, .slice none 0 0, .slice none 0 0]) (t := 31) ?hr ?_; (case hd => rfl); (case hg => rfl); (case hr => first | (go_simp; done) | (go_simp; rfl)); intro gb393 hg w176 hbox hb; have BK393 := Aside0.mk hbox; have GW393 := ge_ HB hg; have GE393 := ge_ HB hg; have NB361_393 := nl_ BK361 hg; have NB393_361 := ng_ BK361 hg; have NB362_393 := nl_ BK362 hg; have NB393_362 := ng_ BK362 hg; replace HO370 := rb_ HO370 hb; replace HO373 := rb_ HO373 hb; replace HO379 := rb_ HO379 hb; replace HO382 := rb_ HO382 hb; replace HO389 := rb_ HO389 hb; replace HO392 := rb_ HO392 hb; replace HB := Aside0.mk (bt_ HB hb); replace BK361 := Aside0.mk (bb_ BK361 hb); replace BK362 := Aside0.mk (bb_ BK362 hb); clear hb hbox hg; have hnb177 := NB393_361.out; have hnc177 := NB361_393.out; have hnb178 := NB393_362.out; have hnc178 := NB362_393.out; have hcz179_0 := cz_ BK393 0 (.int .i64 0); have hcz179_1 := cz_ BK393 1 (.int .i64 0); have hcz179_2 := cz_ BK393 2 (.int .i64 0); have hcz179_3 := cz_ BK393 3 (.slice none 0 0); have hcz179_4 := cz_ BK393 4 (.slice none 0 0); have hfz179_0 := blk_frozen BK393.out 0; have hfz179_1 := blk_frozen BK393.out 1; have hfz179_2 := blk_frozen BK393.out 2; have hfz179_3 := blk_frozen BK393.out 3; have hfz179_4 := blk_frozen BK393.out 4; obtain ⟨Ao180, co180, eo180⟩ := Kd.R_slice HO389.out; subst eo180; obtain ⟨Ao181, co181, eo181⟩ := Kd.R_slice HO392.out; subst eo181; have hcz182_0 := cz_ BK362 0 (.int .i64 a1_0); have hcz182_1 := cz_ BK362 1 (.int .i64 a1_1); have hcz182_2 := cz_ BK362 2 (.int .i64 a1_2); have hcz182_3 := cz_ BK362 3 (.slice A1_3 l1_3.length c1_3); have hcz182_4 := cz_ BK362 4 (.slice A1_4 l1_4.length c1_4); have hfz182_0 := blk_frozen BK362.out 0; have hfz182_1 := blk_frozen BK362.out 1; have hfz182_2 := blk_frozen BK362.out 2; have hfz182_3 := blk_frozen BK362.out 3; have hfz182_4 := blk_frozen BK362.out 4) | ((with_reducible refine gate_callee (f := 15) rfl ?_); refine gl_ (some 28) Try.func15 #[.agg #[.int .i64 a1_0, .int .i64 a1_1, .int .i64 a1_2, .slice A1_3 l1_3.length c1_3, .slice A1_4 l1_4.length c1_4]] ?_; (with_reducible refine (laws_toLsa.calls k a1_0 a1_1 a1_2 _ _ l1_3 _ _ l1_4 t394 t395 t396 t397 t400 _ ?side1 ?side2 ?side3 ?side4 A23.out).mono ?_); (case side1 => exact Kd.C_below HR1_3.out (by repeat (first | (with_reducible first | exact HB.out | apply below_alloc | apply pw_below_drewN | apply below_drew1 | refine below_set ?_ GE361.out | refine below_set ?_ GE362.out | refine below_set ?_ GE393.out) | exact HB.out))); (case side2 => exact HC1_3.out); (case side3 => exact Kd.C_below HR1_4.out (by repeat (first | (with_reducible first | exact HB.out | apply below_alloc | apply pw_below_drewN | apply below_drew1 | refine below_set ?_ GE361.out | refine below_set ?_ GE362.out | refine below_set ?_ GE393.out) | exact HB.out))); (case side4 => exact HC1_4.out); rintro e w183 ⟨v398, v401, rfl, ho0, ho1, hb⟩; refine ⟨_, rfl, ?_⟩; have HO399 := Aside0.mk (Kd.R_lower (Kd.R_new' (Kd.R_new' (Kd.R_new' ho0 (Kd.R_lt (hs_ HO370 BK393))) (Kd.R_lt (hs_ HO379 BK393))) (Kd.R_lt (hs_ HO389 BK393))) (bz_ HB)); have HO402 := Aside0.mk (Kd.R_lower (Kd.R_new' (Kd.R_new' (Kd.R_new' ho1 (Kd.R_lt (hs_ HO373 BK393))) (Kd.R_lt (hs_ HO382 BK393))) (Kd.R_lt (hs_ HO392 BK393))) (bz_ HB)); replace HO370 := Aside0.mk (Kd.R_elder' (hs_ HO370 BK393) (Kd.R_base ho0) hb); replace HO379 := Aside0.mk (Kd.R_elder' (hs_ HO379 BK393) (Kd.R_base ho0) hb); replace HO389 := Aside0.mk (Kd.R_elder' (hs_ HO389 BK393) (Kd.R_base ho0) hb); replace HO373 := Aside0.mk (Kd.R_elder' (hs_ HO373 BK393) (Kd.R_base ho1) hb); replace HO382 := Aside0.mk (Kd.R_elder' (hs_ HO382 BK393) (Kd.R_base ho1) hb); replace HO392 := Aside0.mk (Kd.R_elder' (hs_ HO392 BK393) (Kd.R_base ho1) hb); replace BK361 := bf_ BK361 NB361_393 hb; replace BK362 := bf_ BK362 NB362_393 hb; replace BK393 := Aside0.mk (blk_below (g := gb393) (o := .cells #[.int .i64 t384, .int .i64 t385, .int .i64 t386, .slice Ao180 t387.length co180, .slice Ao181 t390.length co181] 31 (0, 0)) (by (with_reducible repeat (first | refine blk_drewN ?_ _ | refine blk_drew ?_ | refine blk_alloc ?_ _)); refine blk_put (cs := #[.int .i64 t384, .int .i64 t385, .int .i64 t386, .slice Ao180 t387.length co180, .slice none 0 0]) ?_ 4 _ rfl; (with_reducible repeat (first | refine blk_drewN ?_ _ | refine blk_drew ?_ | refine blk_alloc ?_ _)); refine blk_put (cs := #[.int .i64 t384, .int .i64 t385, .int .i64 t386, .slice none 0 0, .slice none 0 0]) ?_ 3 _ rfl; (with_reducible repeat (first | refine blk_drewN ?_ _ | refine blk_drew ?_ | refine blk_alloc ?_ _)); refine blk_put (cs := #[.int .i64 t384, .int .i64 t385, .int .i64 0, .slice none 0 0, .slice none 0 0]) ?_ 2 _ rfl; (with_reducible repeat (first | refine blk_drewN ?_ _ | refine blk_drew ?_ | refine blk_alloc ?_ _)); refine blk_put (cs := #[.int .i64 t384, .int .i64 0, .int .i64 0, .slice none 0 0, .slice none 0 0]) ?_ 1 _ rfl; (with_reducible repeat (first | refine blk_drewN ?_ _ | refine blk_drew ?_ | refine blk_alloc ?_ _)); refine blk_put (cs := #[.int .i64 0, .int .i64 0, .int .i64 0, .slice none 0 0, .slice none 0 0]) ?_ 0 _ rfl; (with_reducible repeat (first | refine blk_drewN ?_ _ | refine blk_drew ?_ | refine blk_alloc ?_ _)); exact BK393.out) hb); replace HB := Aside0.mk (bt_ HB hb); (try clear hb); (try clear hb2); (try clear hk); (try clear hi); (try clear ho0); (try clear ho1)) | ((with_reducible refine gate_dst (N := 8) rfl ?_); refine box_event ?hg (N := 8) ?hd (cs := #[.int .i64 0, .int .i64 0, .int .i64 0, .slice none 0 0, .slice none 0 0]) (t := 31) ?hr ?_; (case hd => rfl); (case hg => rfl); (case hr => first | (go_simp; done) | (go_simp; rfl)); intro gb403 hg w184 hbox hb; have BK403 := Aside0.mk hbox; have GW403 := ge_ HB hg; have GE403 := ge_ HB hg; have NB361_403 := nl_ BK361 hg; have NB403_361 := ng_ BK361 hg; have NB362_403 := nl_ BK362 hg; have NB403_362 := ng_ BK362 hg; have NB393_403 := nl_ BK393 hg; have NB403_393 := ng_ BK393 hg; replace HO370 := rb_ HO370 hb; replace HO373 := rb_ HO373 hb; replace HO379 := rb_ HO379 hb; replace HO382 := rb_ HO382 hb; replace HO389 := rb_ HO389 hb; replace HO392 := rb_ HO392 hb; replace HO399 := rb_ HO399 hb; replace HO402 := rb_ HO402 hb; replace HB := Aside0.mk (bt_ HB hb); replace BK361 := Aside0.mk (bb_ BK361 hb); replace BK362 := Aside0.mk (bb_ BK362 hb); replace BK393 := Aside0.mk (bb_ BK393 hb); clear hb hbox hg; have hnb185 := NB403_361.out; have hnc185 := NB361_403.out; have hnb186 := NB403_362.out; have hnc186 := NB362_403.out; have hnb187 := NB403_393.out; have hnc187 := NB393_403.out; have hcz188_0 := cz_ BK403 0 (.int .i64 0); have hcz188_1 := cz_ BK403 1 (.int .i64 0); have hcz188_2 := cz_ BK403 2 (.int .i64 0); have hcz188_3 := cz_ BK403 3 (.slice none 0 0); have hcz188_4 := cz_ BK403 4 (.slice none 0 0); have hfz188_0 := blk_frozen BK403.out 0; have hfz188_1 := blk_frozen BK403.out 1; have hfz188_2 := blk_frozen BK403.out 2; have hfz188_3 := blk_frozen BK403.out 3; have hfz188_4 := blk_frozen BK403.out 4; obtain ⟨Ao189, co189, eo189⟩ := Kd.R_slice HO399.out; subst eo189; obtain ⟨Ao190, co190, eo190⟩ := Kd.R_slice HO402.out; subst eo190; have hcz191_0 := cz_ BK393 0 (.int .i64 t384); have hcz191_1 := cz_ BK393 1 (.int .i64 t385); have hcz191_2 := cz_ BK393 2 (.int .i64 t386); have hcz191_3 := cz_ BK393 3 (.slice Ao180 t387.length co180); have hcz191_4 := cz_ BK393 4 (.slice Ao181 t390.length co181); have hfz191_0 := blk_frozen BK393.out 0; have hfz191_1 := blk_frozen BK393.out 1; have hfz191_2 := blk_frozen BK393.out 2; have hfz191_3 := blk_frozen BK393.out 3; have hfz191_4 := blk_frozen BK393.out 4) | ((with_reducible refine gate_callee (f := 49) rfl ?_); refine gl_ (some 31) Try.func49 #[.agg #[.int .i64 t384, .int .i64 t385, .int .i64 t386, .slice Ao180 t387.length co180, .slice Ao181 t390.length co181], .agg #[.int .i64 t394, .int .i64 t395, .int .i64 t396, .slice Ao189 t397.length co189, .slice Ao190 t400.length co190]] ?_; (with_reducible refine (impl_Newer.calls k t384 t385 t386 _ _ t387 _ _ t390 t394 t395 t396 _ _ t397 _ _ t400 t404 _ ?side1 ?side2 ?side3 ?side4 ?side5 ?side6 ?side7 ?side8 A24.out).mono ?_); (case side1 => refine (Kd.R_reads' (e := 70) (base := w.heap.size) (ok := fun k_ => (((True ∧ some k_ ≠ (.slice Ao169 t368.length co169 : Value).ownBlock) ∧ some k_ ≠ (.slice Ao171 t377.length co171 : Value).ownBlock) ∧ some k_ ≠ (.slice Ao189 t397.length co189 : Value).ownBlock)) (n := t387.length) (c := co180) ?_).2.2; exact (hs_ HO389 BK403)); (case side2 => exact (Kd.R_reads' HO389.out).2.1); (case side3 => refine (Kd.R_reads' (e := 74) (base := w.heap.size) (ok := fun k_ => (((True ∧ some k_ ≠ (.slice Ao170 t371.length co170 : Value).ownBlock) ∧ some k_ ≠ (.slice Ao172 t380.length co172 : Value).ownBlock) ∧ some k_ ≠ (.slice Ao190 t400.length co190 : Value).ownBlock)) (n := t390.length) (c := co181) ?_).2.2; exact (hs_ HO392 BK403)); (case side4 => exact (Kd.R_reads' HO392.out).2.1); (case side5 => refine (Kd.R_reads' (e := 70) (base := w.heap.size) (ok := fun k_ => (((True ∧ some k_ ≠ (.slice Ao169 t368.length co169 : Value).ownBlock) ∧ some k_ ≠ (.slice Ao171 t377.length co171 : Value).ownBlock) ∧ some k_ ≠ (.slice Ao180 t387.length co180 : Value).ownBlock)) (n := t397.length) (c := co189) ?_).2.2; exact (hs_ HO399 BK403)); (case side6 => exact (Kd.R_reads' HO399.out).2.1); (case side7 => refine (Kd.R_reads' (e := 74) (base := w.heap.size) (ok := fun k_ => (((True ∧ some k_ ≠ (.slice Ao170 t371.length co170 : Value).ownBlock) ∧ some k_ ≠ (.slice Ao172 t380.length co172 : Value).ownBlock) ∧ some k_ ≠ (.slice Ao181 t390.length co181 : Value).ownBlock)) (n := t400.length) (c := co190) ?_).2.2; exact (hs_ HO402 BK403)); (case side8 => exact (Kd.R_reads' HO402.out).2.1); rintro e w192 ⟨rfl, hb⟩; refine ⟨_, rfl, ?_⟩; replace HO370 := rs_ HO370 BK403 hb; replace HO373 := rs_ HO373 BK403 hb; replace HO379 := rs_ HO379 BK403 hb; replace HO382 := rs_ HO382 BK403 hb; replace HO389 := rs_ HO389 BK403 hb; replace HO392 := rs_ HO392 BK403 hb; replace HO399 := rs_ HO399 BK403 hb; replace HO402 := rs_ HO402 BK403 hb; replace BK361 := bf_ BK361 NB361_403 hb; replace BK362 := bf_ BK362 NB362_403 hb; replace BK393 := bf_ BK393 NB393_403 hb; replace BK403 := Aside0.mk (blk_below (g := gb403) (o := .cells #[.int .i64 t394, .int .i64 t395, .int .i64 t396, .slice Ao189 t397.length co189, .slice Ao190 t400.length co190] 31 (0, 0)) (by (with_reducible repeat (first | refine blk_drewN ?_ _ | refine blk_drew ?_ | refine blk_alloc ?_ _)); refine blk_put (cs := #[.int .i64 t394, .int .i64 t395, .int .i64 t396, .slice Ao189 t397.length co189, .slice none 0 0]) ?_ 4 _ rfl; (with_reducible repeat (first | refine blk_drewN ?_ _ | refine blk_drew ?_ | refine blk_alloc ?_ _)); refine blk_put (cs := #[.int .i64 t394, .int .i64 t395, .int .i64 t396, .slice none 0 0, .slice none 0 0]) ?_ 3 _ rfl; (with_reducible repeat (first | refine blk_drewN ?_ _ | refine blk_drew ?_ | refine blk_alloc ?_ _)); refine blk_put (cs := #[.int .i64 t394, .int .i64 t395, .int .i64 0, .slice none 0 0, .slice none 0 0]) ?_ 2 _ rfl; (with_reducible repeat (first | refine blk_drewN ?_ _ | refine blk_drew ?_ | refine blk_alloc ?_ _)); refine blk_put (cs := #[.int .i64 t394, .int .i64 0, .int .i64 0, .slice none 0 0, .slice none 0 0]) ?_ 1 _ rfl; (with_reducible repeat (first | refine blk_drewN ?_ _ | refine blk_drew ?_ | refine blk_alloc ?_ _)); refine blk_put (cs := #[.int .i64 0, .int .i64 0, .int .i64 0, .slice none 0 0, .slice none 0 0]) ?_ 0 _ rfl; (with_reducible repeat (first | refine blk_drewN ?_ _ | refine blk_drew ?_ | refine blk_alloc ?_ _)); exact BK403.out) hb); replace HB := Aside0.mk (bt_ HB hb); (try clear hb); (try clear hb2); (try clear hk); (try clear hi)))
    go_ret
    exact ⟨by first | rfl | (simp [errW_none, errW_some] <;> rfl) | (simp [*, errW_none, errW_some] <;> rfl), by repeat (first | (with_reducible first | exact HB.out | apply below_alloc | apply pw_below_drewN | apply below_drew1 | refine below_set ?_ GE361.out | refine below_set ?_ GE362.out | refine below_set ?_ GE393.out | refine below_set ?_ GE403.out) | exact HB.out)⟩

end Go.Proofs.Ytiikcfaodkiakaa.QFnExactNewer
