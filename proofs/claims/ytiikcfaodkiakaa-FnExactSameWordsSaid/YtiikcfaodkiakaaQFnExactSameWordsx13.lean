/- Contracts of functions that the law reaches: what each call returns and what it leaves in memory. Made by this session over the print of the kit. -/
import Derived.Test.YtiikcfaodkiakaaQFnExactSameWordsx0
import Derived.Test.YtiikcfaodkiakaaQFnExactSameWordsx3
import Derived.Test.YtiikcfaodkiakaaQFnExactSameWordsx5
import Derived.Test.YtiikcfaodkiakaaQFnExactSameWordsx7
import Derived.Test.YtiikcfaodkiakaaQFnExactSameWordsx12
namespace Go.Proofs.Ytiikcfaodkiakaa.QFnExactSameWords
open Go.RowKit Go.Proofs.YtiikcfaodkiakaaY.PrintWords Go.Proofs.YtiikcfaodkiakaaY.PrintLast Go.Proofs.YtiikcfaodkiakaaY.PrintMore
attribute [local go_sem] max2_int min2_int max_two min_two max_three min_three max_four min_four   -- for this text's walks alone
set_option linter.unusedVariables false
set_option linter.unusedSimpArgs false
def ba13_0 : Array Bool := #[false, false, false, false, false, false]
def ba13_1 : Array Bool := #[true, false, false, false, false, false]
def ba13_2 : Array Bool := #[true, false, true, false, false, false]
def ba13_3 : Array Bool := #[true, true, true, false, false, false]
def ba13_4 : Array Bool := #[true, true, true, true, false, false]
def ba13_5 : Array Bool := #[true, true, true, true, true, false]
def ba13_6 : Array Bool := #[true, true, true, true, true, true]
def ba13_7 : Array Bool := #[false, false, false, false, false]
def ba13_8 : Array Bool := #[true, false, false, false, false]
def ba13_9 : Array Bool := #[true, true, false, false, false]
def ba13_10 : Array Bool := #[true, true, true, false, false]
def ba13_11 : Array Bool := #[true, true, true, true, false]
def ba13_12 : Array Bool := #[true, true, true, true, true]

/-! ### laws_FnExactSameWords: function 4 -/
def laws_FnExactSameWords.f (k : Nat) (a0_0 : Int) (a0_1 : Int) (a0_2 : Int) (l0_3 : List (S85)) (l0_4 : List (S89)) (a1_0 : Int) (a1_1 : Int) (a1_2 : Int) (l1_3 : List (S85)) (l1_4 : List (S89)) : Option (Bool) := (laws_szLsa.f a0_0 a0_1 a0_2 l0_3 l0_4 1048576).bind fun t223 => (if t223 < 0 then (some true) else ((laws_szLsa.f a1_0 a1_1 a1_2 l1_3 l1_4 t223).bind fun t224 => (if t224 < 0 then (some true) else ((laws_toLsa.f k a0_0 a0_1 a0_2 l0_3 l0_4).bind fun bt225 => ((laws_toLsa.f k a1_0 a1_1 a1_2 l1_3 l1_4).bind fun bt234 => ((spec_SameWords.f k bt225.1 bt225.2.1 bt225.2.2.1 bt225.2.2.2.1 bt225.2.2.2.2 bt234.1 bt234.2.1 bt234.2.2.1 bt234.2.2.2.1 bt234.2.2.2.2).bind fun t243 => ((laws_toLsa.f k a0_0 a0_1 a0_2 l0_3 l0_4).bind fun bt244 => ((laws_toLsa.f k a1_0 a1_1 a1_2 l1_3 l1_4).bind fun bt254 => ((impl_SameWords.f k bt244.1 bt244.2.1 bt244.2.2.1 bt244.2.2.2.1 bt244.2.2.2.2 bt254.1 bt254.2.1 bt254.2.2.1 bt254.2.2.2.1 bt254.2.2.2.2).bind fun t264 => (if (t264 != t243) = true then (some false) else ((laws_toLsa.f k a0_0 a0_1 a0_2 l0_3 l0_4).bind fun bt265 => ((laws_eqLsa.f k bt244.1 bt244.2.1 bt244.2.2.1 bt244.2.2.2.1 bt244.2.2.2.2 bt265.1 bt265.2.1 bt265.2.2.1 bt265.2.2.2.1 bt265.2.2.2.2).bind fun t274 => (if t274 = true then ((laws_toLsa.f k a1_0 a1_1 a1_2 l1_3 l1_4).bind fun bt275 => ((laws_eqLsa.f k bt254.1 bt254.2.1 bt254.2.2.1 bt254.2.2.2.1 bt254.2.2.2.2 bt275.1 bt275.2.1 bt275.2.2.1 bt275.2.2.2.1 bt275.2.2.2.2).bind fun t284 => (if t284 = true then (some true) else (some false)))) else (some false))))))))))))))
theorem laws_FnExactSameWords.mono : ∀ a0 a1 a2 a3 a4 a5 a6 a7 a8 a9 k, LeO (laws_FnExactSameWords.f k a0 a1 a2 a3 a4 a5 a6 a7 a8 a9) (laws_FnExactSameWords.f (k + 1) a0 a1 a2 a3 a4 a5 a6 a7 a8 a9) := by
 intro a0 a1 a2 a3 a4 a5 a6 a7 a8 a9 k
 unfold laws_FnExactSameWords.f
 repeat' first
   | (with_reducible exact impl_SameWords.mono _ _ _ _ _ _ _ _ _ _ _)
   | (with_reducible exact laws_eqLsa.mono _ _ _ _ _ _ _ _ _ _ _)
   | (with_reducible exact laws_toLsa.mono _ _ _ _ _ _)
   | (with_reducible exact spec_SameWords.mono _ _ _ _ _ _ _ _ _ _ _)
   | (with_reducible exact LeO.refl _)
   | (with_reducible exact LeO.none _)
   | (with_reducible refine LeO.ite ?_ ?_)
   | (with_reducible refine LeO.bind ?_ (fun _ => ?_))
   | exact impl_SameWords.mono _ _ _ _ _ _ _ _ _ _ _
   | exact laws_eqLsa.mono _ _ _ _ _ _ _ _ _ _ _
   | exact laws_toLsa.mono _ _ _ _ _ _
   | exact spec_SameWords.mono _ _ _ _ _ _ _ _ _ _ _
   | exact LeO.none _
   | refine LeO.ite ?_ ?_
   | refine LeO.bind ?_ (fun _ => ?_)
set_option maxHeartbeats 8000000 in
set_option maxRecDepth 100000 in
theorem laws_FnExactSameWords.calls (k : Nat) (a0_0 : Int) (a0_1 : Int) (a0_2 : Int) (A0_3 : Option Addr) (c0_3 : Nat) (l0_3 : List (S85)) (A0_4 : Option Addr) (c0_4 : Nat) (l0_4 : List (S89)) (a1_0 : Int) (a1_1 : Int) (a1_2 : Int) (A1_3 : Option Addr) (c1_3 : Nat) (l1_3 : List (S85)) (A1_4 : Option Addr) (c1_4 : Nat) (l1_4 : List (S89)) (r : Bool) (w : World) (hr0_3 : Kd.C k85 w A0_3 l0_3.length l0_3) (hc0_3 : l0_3.length ≤ c0_3) (hr0_4 : Kd.C k89 w A0_4 l0_4.length l0_4) (hc0_4 : l0_4.length ≤ c0_4) (hr1_3 : Kd.C k85 w A1_3 l1_3.length l1_3) (hc1_3 : l1_3.length ≤ c1_3) (hr1_4 : Kd.C k89 w A1_4 l1_4.length l1_4) (hc1_4 : l1_4.length ≤ c1_4) (h : laws_FnExactSameWords.f k a0_0 a0_1 a0_2 l0_3 l0_4 a1_0 a1_1 a1_2 l1_3 l1_4 = some r) :
  Calls Try.prog 4 #[.agg #[.int .i64 a0_0, .int .i64 a0_1, .int .i64 a0_2, .slice A0_3 l0_3.length c0_3, .slice A0_4 l0_4.length c0_4], .agg #[.int .i64 a1_0, .int .i64 a1_1, .int .i64 a1_2, .slice A1_3 l1_3.length c1_3, .slice A1_4 l1_4.length c1_4]] w fun e w' => e = .returned (.bool r) ∧ Below w.heap.size w w' := by
 have hu25 := Try.underlying25
 have hu31 := Try.underlying31
 have HR0_3 := Aside0.mk hr0_3
 have HC0_3 := Aside0.mk hc0_3
 clear hr0_3 hc0_3
 have HR0_4 := Aside0.mk hr0_4
 have HC0_4 := Aside0.mk hc0_4
 clear hr0_4 hc0_4
 have HR1_3 := Aside0.mk hr1_3
 have HC1_3 := Aside0.mk hc1_3
 clear hr1_3 hc1_3
 have HR1_4 := Aside0.mk hr1_4
 have HC1_4 := Aside0.mk hc1_4
 clear hr1_4 hc1_4
 have HB := Aside0.mk (Below.refl w.heap.size w)
 have H : ((laws_szLsa.f a0_0 a0_1 a0_2 l0_3 l0_4 1048576).bind fun t223 => (if t223 < 0 then (some true) else ((laws_szLsa.f a1_0 a1_1 a1_2 l1_3 l1_4 t223).bind fun t224 => (if t224 < 0 then (some true) else ((laws_toLsa.f k a0_0 a0_1 a0_2 l0_3 l0_4).bind fun bt225 => ((laws_toLsa.f k a1_0 a1_1 a1_2 l1_3 l1_4).bind fun bt234 => ((spec_SameWords.f k bt225.1 bt225.2.1 bt225.2.2.1 bt225.2.2.2.1 bt225.2.2.2.2 bt234.1 bt234.2.1 bt234.2.2.1 bt234.2.2.2.1 bt234.2.2.2.2).bind fun t243 => ((laws_toLsa.f k a0_0 a0_1 a0_2 l0_3 l0_4).bind fun bt244 => ((laws_toLsa.f k a1_0 a1_1 a1_2 l1_3 l1_4).bind fun bt254 => ((impl_SameWords.f k bt244.1 bt244.2.1 bt244.2.2.1 bt244.2.2.2.1 bt244.2.2.2.2 bt254.1 bt254.2.1 bt254.2.2.1 bt254.2.2.2.1 bt254.2.2.2.2).bind fun t264 => (if (t264 != t243) = true then (some false) else ((laws_toLsa.f k a0_0 a0_1 a0_2 l0_3 l0_4).bind fun bt265 => ((laws_eqLsa.f k bt244.1 bt244.2.1 bt244.2.2.1 bt244.2.2.2.1 bt244.2.2.2.2 bt265.1 bt265.2.1 bt265.2.2.1 bt265.2.2.2.1 bt265.2.2.2.2).bind fun t274 => (if t274 = true then ((laws_toLsa.f k a1_0 a1_1 a1_2 l1_3 l1_4).bind fun bt275 => ((laws_eqLsa.f k bt254.1 bt254.2.1 bt254.2.2.1 bt254.2.2.2.1 bt254.2.2.2.2 bt275.1 bt275.2.1 bt275.2.2.1 bt275.2.2.2.1 bt275.2.2.2.2).bind fun t284 => (if t284 = true then (some true) else (some false)))) else (some false))))))))))))))) = some r := h
 clear h
 replace H := Option.bind_eq_some_iff.mp H
 obtain ⟨t223, A30, H⟩ := H
 have A3 := Aside0.mk A30
 clear A30
 by_cases c4 : t223 < 0
 ·rw [if_pos c4] at H
  have c4b0 : decide (t223 < 0) = true := decide_eq_true c4
  clear c4
  obtain rfl := Option.some.inj H
  go_enter Try.func4, Try.ntmps4
  go_wp2_with (first | ((with_reducible refine gate_dst (N := 2) rfl ?_); refine box_event ?hg (N := 2) ?hd (cs := #[.int .i64 a0_0, .int .i64 a0_1, .int .i64 a0_2, .slice A0_3 l0_3.length c0_3, .slice A0_4 l0_4.length c0_4]) (t := 25) ?hr ?_; (case hd => rfl); (case hg => rfl); (case hr => first | (go_simp; done) | (go_simp; rfl)); intro gb221 hg w5 hbox hb; have BK221 := Aside0.mk hbox; have GW221 := ge_ HB hg; have GE221 := ge_ HB hg; replace HB := Aside0.mk (bt_ HB hb); clear hb hbox hg) | ((with_reducible refine gate_dst (N := 3) rfl ?_); refine box_event ?hg (N := 3) ?hd (cs := #[.int .i64 a1_0, .int .i64 a1_1, .int .i64 a1_2, .slice A1_3 l1_3.length c1_3, .slice A1_4 l1_4.length c1_4]) (t := 25) ?hr ?_; (case hd => rfl); (case hg => rfl); (case hr => first | (go_simp; done) | (go_simp; rfl)); intro gb222 hg w6 hbox hb; have BK222 := Aside0.mk hbox; have GW222 := ge_ HB hg; have GE222 := ge_ HB hg; have NB221_222 := nl_ BK221 hg; have NB222_221 := ng_ BK221 hg; replace HB := Aside0.mk (bt_ HB hb); replace BK221 := Aside0.mk (bb_ BK221 hb); clear hb hbox hg; have hnb7 := NB221_222.out; have hnc7 := NB222_221.out; have hcz8_0 := cz_ BK221 0 (.int .i64 a0_0); have hcz8_1 := cz_ BK221 1 (.int .i64 a0_1); have hcz8_2 := cz_ BK221 2 (.int .i64 a0_2); have hcz8_3 := cz_ BK221 3 (.slice A0_3 l0_3.length c0_3); have hcz8_4 := cz_ BK221 4 (.slice A0_4 l0_4.length c0_4); have hfz8_0 := blk_frozen BK221.out 0; have hfz8_1 := blk_frozen BK221.out 1; have hfz8_2 := blk_frozen BK221.out 2; have hfz8_3 := blk_frozen BK221.out 3; have hfz8_4 := blk_frozen BK221.out 4) | ((with_reducible refine gate_callee (f := 13) rfl ?_); refine gl_ (some 12) Try.func13 #[.agg #[.int .i64 a0_0, .int .i64 a0_1, .int .i64 a0_2, .slice A0_3 l0_3.length c0_3, .slice A0_4 l0_4.length c0_4], .int .i64 1048576] ?_; (with_reducible refine (laws_szLsa.calls a0_0 a0_1 a0_2 _ _ l0_3 _ _ l0_4 1048576 t223 _ ?side1 ?side2 ?side3 ?side4 A3.out).mono ?_); (case side1 => exact cb_ HR0_3 HB); (case side2 => exact HC0_3.out); (case side3 => exact cb_ HR0_4 HB); (case side4 => exact HC0_4.out); rintro e w9 ⟨rfl, hb⟩; refine ⟨_, rfl, ?_⟩; replace BK221 := Aside0.mk (bb_ BK221 hb); replace BK222 := Aside0.mk (bb_ BK222 hb); replace HB := Aside0.mk (bt_ HB hb); (try clear hb); (try clear hb2); (try clear hk); (try clear hi)))
  go_ret
  exact ⟨by first | rfl | (simp [errW_none, errW_some] <;> rfl) | (simp [*, errW_none, errW_some] <;> rfl), by repeat (first | (with_reducible first | exact HB.out | apply below_alloc | apply pw_below_drewN | apply below_drew1 | refine below_set ?_ GE221.out | refine below_set ?_ GE222.out) | exact HB.out)⟩
 ·rw [if_neg c4] at H
  have c4b0 : decide (t223 < 0) = false := decide_eq_false c4
  clear c4
  replace H := Option.bind_eq_some_iff.mp H
  obtain ⟨t224, A100, H⟩ := H
  have A10 := Aside0.mk A100
  clear A100
  by_cases c11 : t224 < 0
  ·rw [if_pos c11] at H
   have c11b0 : decide (t224 < 0) = true := decide_eq_true c11
   clear c11
   obtain rfl := Option.some.inj H
   go_enter Try.func4, Try.ntmps4
   go_wp2_with (first | ((with_reducible refine gate_dst (N := 2) rfl ?_); refine box_event ?hg (N := 2) ?hd (cs := #[.int .i64 a0_0, .int .i64 a0_1, .int .i64 a0_2, .slice A0_3 l0_3.length c0_3, .slice A0_4 l0_4.length c0_4]) (t := 25) ?hr ?_; (case hd => rfl); (case hg => rfl); (case hr => first | (go_simp; done) | (go_simp; rfl)); intro gb221 hg w12 hbox hb; have BK221 := Aside0.mk hbox; have GW221 := ge_ HB hg; have GE221 := ge_ HB hg; replace HB := Aside0.mk (bt_ HB hb); clear hb hbox hg) | ((with_reducible refine gate_dst (N := 3) rfl ?_); refine box_event ?hg (N := 3) ?hd (cs := #[.int .i64 a1_0, .int .i64 a1_1, .int .i64 a1_2, .slice A1_3 l1_3.length c1_3, .slice A1_4 l1_4.length c1_4]) (t := 25) ?hr ?_; (case hd => rfl); (case hg => rfl); (case hr => first | (go_simp; done) | (go_simp; rfl)); intro gb222 hg w13 hbox hb; have BK222 := Aside0.mk hbox; have GW222 := ge_ HB hg; have GE222 := ge_ HB hg; have NB221_222 := nl_ BK221 hg; have NB222_221 := ng_ BK221 hg; replace HB := Aside0.mk (bt_ HB hb); replace BK221 := Aside0.mk (bb_ BK221 hb); clear hb hbox hg; have hnb14 := NB221_222.out; have hnc14 := NB222_221.out; have hcz15_0 := cz_ BK221 0 (.int .i64 a0_0); have hcz15_1 := cz_ BK221 1 (.int .i64 a0_1); have hcz15_2 := cz_ BK221 2 (.int .i64 a0_2); have hcz15_3 := cz_ BK221 3 (.slice A0_3 l0_3.length c0_3); have hcz15_4 := cz_ BK221 4 (.slice A0_4 l0_4.length c0_4); have hfz15_0 := blk_frozen BK221.out 0; have hfz15_1 := blk_frozen BK221.out 1; have hfz15_2 := blk_frozen BK221.out 2; have hfz15_3 := blk_frozen BK221.out 3; have hfz15_4 := blk_frozen BK221.out 4) | ((with_reducible refine gate_callee (f := 13) rfl ?_); refine gl_ (some 12) Try.func13 #[.agg #[.int .i64 a0_0, .int .i64 a0_1, .int .i64 a0_2, .slice A0_3 l0_3.length c0_3, .slice A0_4 l0_4.length c0_4], .int .i64 1048576] ?_; (with_reducible refine (laws_szLsa.calls a0_0 a0_1 a0_2 _ _ l0_3 _ _ l0_4 1048576 t223 _ ?side1 ?side2 ?side3 ?side4 A3.out).mono ?_); (case side1 => exact cb_ HR0_3 HB); (case side2 => exact HC0_3.out); (case side3 => exact cb_ HR0_4 HB); (case side4 => exact HC0_4.out); rintro e w16 ⟨rfl, hb⟩; refine ⟨_, rfl, ?_⟩; replace BK221 := Aside0.mk (bb_ BK221 hb); replace BK222 := Aside0.mk (bb_ BK222 hb); replace HB := Aside0.mk (bt_ HB hb); (try clear hb); (try clear hb2); (try clear hk); (try clear hi); have hcz17_0 := cz_ BK222 0 (.int .i64 a1_0); have hcz17_1 := cz_ BK222 1 (.int .i64 a1_1); have hcz17_2 := cz_ BK222 2 (.int .i64 a1_2); have hcz17_3 := cz_ BK222 3 (.slice A1_3 l1_3.length c1_3); have hcz17_4 := cz_ BK222 4 (.slice A1_4 l1_4.length c1_4); have hfz17_0 := blk_frozen BK222.out 0; have hfz17_1 := blk_frozen BK222.out 1; have hfz17_2 := blk_frozen BK222.out 2; have hfz17_3 := blk_frozen BK222.out 3; have hfz17_4 := blk_frozen BK222.out 4) | ((with_reducible refine gate_callee (f := 13) rfl ?_); refine gl_ (some 17) Try.func13 #[.agg #[.int .i64 a1_0, .int .i64 a1_1, .int .i64 a1_2, .slice A1_3 l1_3.length c1_3, .slice A1_4 l1_4.length c1_4], .int .i64 t223] ?_; (with_reducible refine (laws_szLsa.calls a1_0 a1_1 a1_2 _ _ l1_3 _ _ l1_4 t223 t224 _ ?side1 ?side2 ?side3 ?side4 A10.out).mono ?_); (case side1 => exact cb_ HR1_3 HB); (case side2 => exact HC1_3.out); (case side3 => exact cb_ HR1_4 HB); (case side4 => exact HC1_4.out); rintro e w18 ⟨rfl, hb⟩; refine ⟨_, rfl, ?_⟩; replace BK221 := Aside0.mk (bb_ BK221 hb); replace BK222 := Aside0.mk (bb_ BK222 hb); replace HB := Aside0.mk (bt_ HB hb); (try clear hb); (try clear hb2); (try clear hk); (try clear hi)))
   go_ret
   exact ⟨by first | rfl | (simp [errW_none, errW_some] <;> rfl) | (simp [*, errW_none, errW_some] <;> rfl), by repeat (first | (with_reducible first | exact HB.out | apply below_alloc | apply pw_below_drewN | apply below_drew1 | refine below_set ?_ GE221.out | refine below_set ?_ GE222.out) | exact HB.out)⟩
  ·rw [if_neg c11] at H
   have c11b0 : decide (t224 < 0) = false := decide_eq_false c11
   clear c11
   replace H := Option.bind_eq_some_iff.mp H
   obtain ⟨⟨t225, t226, t227, t228, t231⟩, A190, H⟩ := H
   have A19 := Aside0.mk A190
   clear A190
   replace H := Option.bind_eq_some_iff.mp H
   obtain ⟨⟨t234, t235, t236, t237, t240⟩, A200, H⟩ := H
   have A20 := Aside0.mk A200
   clear A200
   replace H := Option.bind_eq_some_iff.mp H
   obtain ⟨t243, A210, H⟩ := H
   have A21 := Aside0.mk A210
   clear A210
   replace H := Option.bind_eq_some_iff.mp H
   obtain ⟨⟨t244, t245, t246, t247, t250⟩, A220, H⟩ := H
   have A22 := Aside0.mk A220
   clear A220
   replace H := Option.bind_eq_some_iff.mp H
   obtain ⟨⟨t254, t255, t256, t257, t260⟩, A230, H⟩ := H
   have A23 := Aside0.mk A230
   clear A230
   replace H := Option.bind_eq_some_iff.mp H
   obtain ⟨t264, A240, H⟩ := H
   have A24 := Aside0.mk A240
   clear A240
   by_cases c25 : (t264 != t243) = true
   ·rw [if_pos c25] at H
    have c25b0 : (t264 != t243) = true := c25
    (try (have c25b1 : decide (t264 = t243) = false := by simpa using c25))
    (try (have c25b2 : (t264 == t243) = false := by simpa using c25))
    (try (have c25b3 : ¬ (t264 = t243) := by simpa using c25))
    clear c25
    obtain rfl := Option.some.inj H
    go_enter Try.func4, Try.ntmps4
    try go_wp2_with (first | ((with_reducible refine gate_dst (N := 2) rfl ?_); refine box_event ?hg (N := 2) ?hd (cs := #[.int .i64 a0_0, .int .i64 a0_1, .int .i64 a0_2, .slice A0_3 l0_3.length c0_3, .slice A0_4 l0_4.length c0_4]) (t := 25) ?hr ?_; (case hd => rfl); (case hg => rfl); (case hr => first | (go_simp; done) | (go_simp; rfl)); intro gb221 hg w26 hbox hb; have BK221 := Aside0.mk hbox; have GW221 := ge_ HB hg; have GE221 := ge_ HB hg; replace HB := Aside0.mk (bt_ HB hb); clear hb hbox hg) | ((with_reducible refine gate_dst (N := 3) rfl ?_); refine box_event ?hg (N := 3) ?hd (cs := #[.int .i64 a1_0, .int .i64 a1_1, .int .i64 a1_2, .slice A1_3 l1_3.length c1_3, .slice A1_4 l1_4.length c1_4]) (t := 25) ?hr ?_; (case hd => rfl); (case hg => rfl); (case hr => first | (go_simp; done) | (go_simp; rfl)); intro gb222 hg w27 hbox hb; have BK222 := Aside0.mk hbox; have GW222 := ge_ HB hg; have GE222 := ge_ HB hg; have NB221_222 := nl_ BK221 hg; have NB222_221 := ng_ BK221 hg; replace HB := Aside0.mk (bt_ HB hb); replace BK221 := Aside0.mk (bb_ BK221 hb); clear hb hbox hg; have hnb28 := NB221_222.out; have hnc28 := NB222_221.out; have hcz29_0 := cz_ BK221 0 (.int .i64 a0_0); have hcz29_1 := cz_ BK221 1 (.int .i64 a0_1); have hcz29_2 := cz_ BK221 2 (.int .i64 a0_2); have hcz29_3 := cz_ BK221 3 (.slice A0_3 l0_3.length c0_3); have hcz29_4 := cz_ BK221 4 (.slice A0_4 l0_4.length c0_4); have hfz29_0 := blk_frozen BK221.out 0; have hfz29_1 := blk_frozen BK221.out 1; have hfz29_2 := blk_frozen BK221.out 2; have hfz29_3 := blk_frozen BK221.out 3; have hfz29_4 := blk_frozen BK221.out 4) | ((with_reducible refine gate_callee (f := 13) rfl ?_); refine gl_ (some 12) Try.func13 #[.agg #[.int .i64 a0_0, .int .i64 a0_1, .int .i64 a0_2, .slice A0_3 l0_3.length c0_3, .slice A0_4 l0_4.length c0_4], .int .i64 1048576] ?_; (with_reducible refine (laws_szLsa.calls a0_0 a0_1 a0_2 _ _ l0_3 _ _ l0_4 1048576 t223 _ ?side1 ?side2 ?side3 ?side4 A3.out).mono ?_); (case side1 => exact cb_ HR0_3 HB); (case side2 => exact HC0_3.out); (case side3 => exact cb_ HR0_4 HB); (case side4 => exact HC0_4.out); rintro e w30 ⟨rfl, hb⟩; refine ⟨_, rfl, ?_⟩; replace BK221 := Aside0.mk (bb_ BK221 hb); replace BK222 := Aside0.mk (bb_ BK222 hb); replace HB := Aside0.mk (bt_ HB hb); (try clear hb); (try clear hb2); (try clear hk); (try clear hi); have hcz31_0 := cz_ BK222 0 (.int .i64 a1_0); have hcz31_1 := cz_ BK222 1 (.int .i64 a1_1); have hcz31_2 := cz_ BK222 2 (.int .i64 a1_2); have hcz31_3 := cz_ BK222 3 (.slice A1_3 l1_3.length c1_3); have hcz31_4 := cz_ BK222 4 (.slice A1_4 l1_4.length c1_4); have hfz31_0 := blk_frozen BK222.out 0; have hfz31_1 := blk_frozen BK222.out 1; have hfz31_2 := blk_frozen BK222.out 2; have hfz31_3 := blk_frozen BK222.out 3; have hfz31_4 := blk_frozen BK222.out 4) | ((with_reducible refine gate_callee (f := 13) rfl ?_); refine gl_ (some 17) Try.func13 #[.agg #[.int .i64 a1_0, .int .i64 a1_1, .int .i64 a1_2, .slice A1_3 l1_3.length c1_3, .slice A1_4 l1_4.length c1_4], .int .i64 t223] ?_; (with_reducible refine (laws_szLsa.calls a1_0 a1_1 a1_2 _ _ l1_3 _ _ l1_4 t223 t224 _ ?side1 ?side2 ?side3 ?side4 A10.out).mono ?_); (case side1 => exact cb_ HR1_3 HB); (case side2 => exact HC1_3.out); (case side3 => exact cb_ HR1_4 HB); (case side4 => exact HC1_4.out); rintro e w32 ⟨rfl, hb⟩; refine ⟨_, rfl, ?_⟩; replace BK221 := Aside0.mk (bb_ BK221 hb); replace BK222 := Aside0.mk (bb_ BK222 hb); replace HB := Aside0.mk (bt_ HB hb); (try clear hb); (try clear hb2); (try clear hk); (try clear hi)))
    replace BK221 := Aside0.mk (blk_drew BK221.out)
    replace BK222 := Aside0.mk (blk_drew BK222.out)
    replace HB := Aside0.mk (below_drew1 HB.out)
    refine start_ (n := 6) (S := fun w' => w'.cell? ⟨gb221, 0, none⟩ = some (.int .i64 a0_0) ∧ w'.cell? ⟨gb221, 1, none⟩ = some (.int .i64 a0_1) ∧ w'.cell? ⟨gb221, 2, none⟩ = some (.int .i64 a0_2) ∧ w'.cell? ⟨gb221, 3, none⟩ = some (.slice A0_3 l0_3.length c0_3) ∧ w'.cell? ⟨gb221, 4, none⟩ = some (.slice A0_4 l0_4.length c0_4) ∧ w'.cell? ⟨gb222, 0, none⟩ = some (.int .i64 a1_0) ∧ w'.cell? ⟨gb222, 1, none⟩ = some (.int .i64 a1_1) ∧ w'.cell? ⟨gb222, 2, none⟩ = some (.int .i64 a1_2) ∧ w'.cell? ⟨gb222, 3, none⟩ = some (.slice A1_3 l1_3.length c1_3) ∧ w'.cell? ⟨gb222, 4, none⟩ = some (.slice A1_4 l1_4.length c1_4)) (ds := []) ba13_0 (by kernel_rfl) rfl rfl ⟨(blk_cell BK221.out 0).trans rfl, (blk_cell BK221.out 1).trans rfl, (blk_cell BK221.out 2).trans rfl, (blk_cell BK221.out 3).trans rfl, (blk_cell BK221.out 4).trans rfl, (blk_cell BK222.out 0).trans rfl, (blk_cell BK222.out 1).trans rfl, (blk_cell BK222.out 2).trans rfl, (blk_cell BK222.out 3).trans rfl, (blk_cell BK222.out 4).trans rfl⟩ (fun hHeld => ?_)
    generalize w32.drew = w33 at BK221 BK222 HB hHeld ⊢
    refine take_ (i := 0) (N := some 20) (v := ?_) (a' := ?_) ba13_1 rfl rfl (by kernel_rfl) (fun _ _ _ h => h) (Or.inl ⟨by rfl, ?_⟩) hHeld ?_ ?_
    rotate_left; · rintro w' ⟨s0, s1, s2, s3, s4, s5, s6, s7, s8, s9⟩; go_simp; with_reducible rfl
    rotate_left; · simp only [Act.put, List.setIfInBounds_toArray, List.set_cons_zero, List.set_cons_succ, i64_w, i32_w]; rfl
    refine take_ (i := 2) (N := some 22) (v := ?_) (a' := ?_) ba13_2 rfl rfl (by kernel_rfl) (fun _ _ _ h => h) (Or.inl ⟨by rfl, ?_⟩) hHeld ?_ ?_
    rotate_left; · rintro w' ⟨s0, s1, s2, s3, s4, s5, s6, s7, s8, s9⟩; go_simp; with_reducible rfl
    rotate_left; · simp only [Act.put, List.setIfInBounds_toArray, List.set_cons_zero, List.set_cons_succ, i64_w, i32_w]; rfl
    refine one_ (i := 1) (N := some 21) ba13_3 rfl rfl (by kernel_rfl) (by decide) (fun K hK => ?_)
    refine gz_ Try.func15 #[.agg #[.int .i64 a0_0, .int .i64 a0_1, .int .i64 a0_2, .slice A0_3 l0_3.length c0_3, .slice A0_4 l0_4.length c0_4]] ?_
    with_reducible refine (laws_toLsa.calls k a0_0 a0_1 a0_2 _ _ l0_3 _ _ l0_4 t225 t226 t227 t228 t231 _ ?side1 ?side2 ?side3 ?side4 A19.out).mono ?_
    (case side1 => exact cb_ HR0_3 HB)
    (case side2 => exact HC0_3.out)
    (case side3 => exact cb_ HR0_4 HB)
    (case side4 => exact HC0_4.out)
    rintro e w34 ⟨v229, v232, rfl, ho0, ho1, hb⟩
    refine ⟨_, rfl, ?_⟩
    have HO230 := Aside0.mk (Kd.R_lower ho0 (bz_ HB))
    have HO233 := Aside0.mk (Kd.R_lower ho1 (bz_ HB))
    replace BK221 := Aside0.mk (bb_ BK221 hb)
    replace BK222 := Aside0.mk (bb_ BK222 hb)
    replace HB := Aside0.mk (bt_ HB hb)
    (try clear hb)
    (try clear hb2)
    (try clear hk)
    (try clear hi)
    (try clear ho0)
    (try clear ho1)
    refine hK.out _ _ ⟨(blk_cell BK221.out 0).trans rfl, (blk_cell BK221.out 1).trans rfl, (blk_cell BK221.out 2).trans rfl, (blk_cell BK221.out 3).trans rfl, (blk_cell BK221.out 4).trans rfl, (blk_cell BK222.out 0).trans rfl, (blk_cell BK222.out 1).trans rfl, (blk_cell BK222.out 2).trans rfl, (blk_cell BK222.out 3).trans rfl, (blk_cell BK222.out 4).trans rfl⟩ (fun hHeld => ?_)
    clear hK K
    refine nz_ 21 ?_
    refine one_ (i := 3) (N := some 23) ba13_4 rfl rfl (by kernel_rfl) (by decide) (fun K hK => ?_)
    refine gz_ Try.func15 #[.agg #[.int .i64 a1_0, .int .i64 a1_1, .int .i64 a1_2, .slice A1_3 l1_3.length c1_3, .slice A1_4 l1_4.length c1_4]] ?_
    with_reducible refine (laws_toLsa.calls k a1_0 a1_1 a1_2 _ _ l1_3 _ _ l1_4 t234 t235 t236 t237 t240 _ ?side1 ?side2 ?side3 ?side4 A20.out).mono ?_
    (case side1 => exact cb_ HR1_3 HB)
    (case side2 => exact HC1_3.out)
    (case side3 => exact cb_ HR1_4 HB)
    (case side4 => exact HC1_4.out)
    rintro e w35 ⟨v238, v241, rfl, ho0, ho1, hb⟩
    refine ⟨_, rfl, ?_⟩
    have HO239 := Aside0.mk (Kd.R_lower (Kd.R_new' ho0 (Kd.R_lt (hd_ HO230))) (bz_ HB))
    have HO242 := Aside0.mk (Kd.R_lower (Kd.R_new' ho1 (Kd.R_lt (hd_ HO233))) (bz_ HB))
    replace HO230 := Aside0.mk (Kd.R_elder' (hd_ HO230) (Kd.R_base ho0) hb)
    replace HO233 := Aside0.mk (Kd.R_elder' (hd_ HO233) (Kd.R_base ho1) hb)
    replace BK221 := Aside0.mk (bb_ BK221 hb)
    replace BK222 := Aside0.mk (bb_ BK222 hb)
    replace HB := Aside0.mk (bt_ HB hb)
    (try clear hb)
    (try clear hb2)
    (try clear hk)
    (try clear hi)
    (try clear ho0)
    (try clear ho1)
    obtain ⟨Ao36, co36, eo36⟩ := Kd.R_slice HO230.out
    (first | subst eo36 | (injection eo36 with f1_ f2_ f3_; have f4_ := f1_.symm; have f5_ := f3_.symm; clear f1_ f2_ f3_; subst f4_; subst f5_))
    obtain ⟨Ao37, co37, eo37⟩ := Kd.R_slice HO233.out
    (first | subst eo37 | (injection eo37 with f1_ f2_ f3_; have f4_ := f1_.symm; have f5_ := f3_.symm; clear f1_ f2_ f3_; subst f4_; subst f5_))
    obtain ⟨Ao38, co38, eo38⟩ := Kd.R_slice HO239.out
    (first | subst eo38 | (injection eo38 with f1_ f2_ f3_; have f4_ := f1_.symm; have f5_ := f3_.symm; clear f1_ f2_ f3_; subst f4_; subst f5_))
    obtain ⟨Ao39, co39, eo39⟩ := Kd.R_slice HO242.out
    (first | subst eo39 | (injection eo39 with f1_ f2_ f3_; have f4_ := f1_.symm; have f5_ := f3_.symm; clear f1_ f2_ f3_; subst f4_; subst f5_))
    refine hK.out _ _ ⟨(blk_cell BK221.out 0).trans rfl, (blk_cell BK221.out 1).trans rfl, (blk_cell BK221.out 2).trans rfl, (blk_cell BK221.out 3).trans rfl, (blk_cell BK221.out 4).trans rfl, (blk_cell BK222.out 0).trans rfl, (blk_cell BK222.out 1).trans rfl, (blk_cell BK222.out 2).trans rfl, (blk_cell BK222.out 3).trans rfl, (blk_cell BK222.out 4).trans rfl⟩ (fun hHeld => ?_)
    clear hK K
    refine nz_ 23 ?_
    refine one_ (i := 4) (N := some 24) ba13_5 rfl rfl (by kernel_rfl) (by decide) (fun K hK => ?_)
    refine gz_ Try.func18 #[.agg #[.int .i64 t225, .int .i64 t226, .int .i64 t227, .slice Ao36 t228.length co36, .slice Ao37 t231.length co37], .agg #[.int .i64 t234, .int .i64 t235, .int .i64 t236, .slice Ao38 t237.length co38, .slice Ao39 t240.length co39]] ?_
    with_reducible refine (spec_SameWords.calls k t225 t226 t227 _ _ t228 _ _ t231 t234 t235 t236 _ _ t237 _ _ t240 t243 _ ?side1 ?side2 ?side3 ?side4 ?side5 ?side6 ?side7 ?side8 A21.out).mono ?_
    (case side1 => exact rc_ HO230)
    (case side2 => exact (Kd.R_reads' HO230.out).2.1)
    (case side3 => exact rc_ HO233)
    (case side4 => exact (Kd.R_reads' HO233.out).2.1)
    (case side5 => exact rc_ HO239)
    (case side6 => exact (Kd.R_reads' HO239.out).2.1)
    (case side7 => exact rc_ HO242)
    (case side8 => exact (Kd.R_reads' HO242.out).2.1)
    rintro e w40 ⟨rfl, hb⟩
    refine ⟨_, rfl, ?_⟩
    replace HO230 := rb_ HO230 hb
    replace HO233 := rb_ HO233 hb
    replace HO239 := rb_ HO239 hb
    replace HO242 := rb_ HO242 hb
    replace BK221 := Aside0.mk (bb_ BK221 hb)
    replace BK222 := Aside0.mk (bb_ BK222 hb)
    replace HB := Aside0.mk (bt_ HB hb)
    (try clear hb)
    (try clear hb2)
    (try clear hk)
    (try clear hi)
    refine hK.out _ _ ⟨(blk_cell BK221.out 0).trans rfl, (blk_cell BK221.out 1).trans rfl, (blk_cell BK221.out 2).trans rfl, (blk_cell BK221.out 3).trans rfl, (blk_cell BK221.out 4).trans rfl, (blk_cell BK222.out 0).trans rfl, (blk_cell BK222.out 1).trans rfl, (blk_cell BK222.out 2).trans rfl, (blk_cell BK222.out 3).trans rfl, (blk_cell BK222.out 4).trans rfl⟩ (fun hHeld => ?_)
    clear hK K
    refine nz_ 24 ?_
    refine pure_ (i := 5) (N := some 6) (v := ?_) (a' := ?_) ba13_6 rfl rfl (by kernel_rfl) (fun _ _ _ h => h) (Or.inl ⟨by rfl, ?_⟩) ?_ ?_
    rotate_left; · intro w'; go_simp; with_reducible rfl
    rotate_left; · simp only [Act.put, List.setIfInBounds_toArray, List.set_cons_zero, List.set_cons_succ, i64_w, i32_w]; rfl
    refine done_ (by kernel_rfl) ?_
    have hcz41_0 := cz_ BK221 0 (.int .i64 a0_0)
    have hcz41_1 := cz_ BK221 1 (.int .i64 a0_1)
    have hcz41_2 := cz_ BK221 2 (.int .i64 a0_2)
    have hcz41_3 := cz_ BK221 3 (.slice A0_3 l0_3.length c0_3)
    have hcz41_4 := cz_ BK221 4 (.slice A0_4 l0_4.length c0_4)
    have hfz41_0 := blk_frozen BK221.out 0
    have hfz41_1 := blk_frozen BK221.out 1
    have hfz41_2 := blk_frozen BK221.out 2
    have hfz41_3 := blk_frozen BK221.out 3
    have hfz41_4 := blk_frozen BK221.out 4
    try go_wp2_with (first | ((with_reducible refine gate_callee (f := 15) rfl ?_); refine gl_ (some 26) Try.func15 #[.agg #[.int .i64 a0_0, .int .i64 a0_1, .int .i64 a0_2, .slice A0_3 l0_3.length c0_3, .slice A0_4 l0_4.length c0_4]] ?_; (with_reducible refine (laws_toLsa.calls k a0_0 a0_1 a0_2 _ _ l0_3 _ _ l0_4 t244 t245 t246 t247 t250 _ ?side1 ?side2 ?side3 ?side4 A22.out).mono ?_); (case side1 => exact cb_ HR0_3 HB); (case side2 => exact HC0_3.out); (case side3 => exact cb_ HR0_4 HB); (case side4 => exact HC0_4.out); rintro e w42 ⟨v248, v251, rfl, ho0, ho1, hb⟩; refine ⟨_, rfl, ?_⟩; have HO249 := Aside0.mk (Kd.R_lower (Kd.R_new' (Kd.R_new' ho0 (Kd.R_lt (hd_ HO230))) (Kd.R_lt (hd_ HO239))) (bz_ HB)); have HO252 := Aside0.mk (Kd.R_lower (Kd.R_new' (Kd.R_new' ho1 (Kd.R_lt (hd_ HO233))) (Kd.R_lt (hd_ HO242))) (bz_ HB)); replace HO230 := Aside0.mk (Kd.R_elder' (hd_ HO230) (Kd.R_base ho0) hb); replace HO239 := Aside0.mk (Kd.R_elder' (hd_ HO239) (Kd.R_base ho0) hb); replace HO233 := Aside0.mk (Kd.R_elder' (hd_ HO233) (Kd.R_base ho1) hb); replace HO242 := Aside0.mk (Kd.R_elder' (hd_ HO242) (Kd.R_base ho1) hb); replace BK221 := Aside0.mk (bb_ BK221 hb); replace BK222 := Aside0.mk (bb_ BK222 hb); replace HB := Aside0.mk (bt_ HB hb); (try clear hb); (try clear hb2); (try clear hk); (try clear hi); (try clear ho0); (try clear ho1)) | ((with_reducible refine gate_dst (N := 7) rfl ?_); refine box_event ?hg (N := 7) ?hd (cs := #[.int .i64 0, .int .i64 0, .int .i64 0, .slice none 0 0, .slice none 0 0]) (t := 31) ?hr ?_; (case hd => rfl); (case hg => rfl); (case hr => first | (go_simp; done) | (go_simp; rfl)); intro gb253 hg w43 hbox hb; have BK253 := Aside0.mk hbox; have GW253 := ge_ HB hg; have GE253 := ge_ HB hg; have NB221_253 := nl_ BK221 hg; have NB253_221 := ng_ BK221 hg; have NB222_253 := nl_ BK222 hg; have NB253_222 := ng_ BK222 hg; replace HO230 := rb_ HO230 hb; replace HO233 := rb_ HO233 hb; replace HO239 := rb_ HO239 hb; replace HO242 := rb_ HO242 hb; replace HO249 := rb_ HO249 hb; replace HO252 := rb_ HO252 hb; replace HB := Aside0.mk (bt_ HB hb); replace BK221 := Aside0.mk (bb_ BK221 hb); replace BK222 := Aside0.mk (bb_ BK222 hb); clear hb hbox hg; have hnb44 := NB253_221.out; have hnc44 := NB221_253.out; have hnb45 := NB253_222.out; have hnc45 := NB222_253.out; have hcz46_0 := cz_ BK253 0 (.int .i64 0); have hcz46_1 := cz_ BK253 1 (.int .i64 0); have hcz46_2 := cz_ BK253 2 (.int .i64 0); have hcz46_3 := cz_ BK253 3 (.slice none 0 0); have hcz46_4 := cz_ BK253 4 (.slice none 0 0); have hfz46_0 := blk_frozen BK253.out 0; have hfz46_1 := blk_frozen BK253.out 1; have hfz46_2 := blk_frozen BK253.out 2; have hfz46_3 := blk_frozen BK253.out 3; have hfz46_4 := blk_frozen BK253.out 4; obtain ⟨Ao47, co47, eo47⟩ := Kd.R_slice HO249.out; subst eo47; obtain ⟨Ao48, co48, eo48⟩ := Kd.R_slice HO252.out; subst eo48; have hcz49_0 := cz_ BK222 0 (.int .i64 a1_0); have hcz49_1 := cz_ BK222 1 (.int .i64 a1_1); have hcz49_2 := cz_ BK222 2 (.int .i64 a1_2); have hcz49_3 := cz_ BK222 3 (.slice A1_3 l1_3.length c1_3); have hcz49_4 := cz_ BK222 4 (.slice A1_4 l1_4.length c1_4); have hfz49_0 := blk_frozen BK222.out 0; have hfz49_1 := blk_frozen BK222.out 1; have hfz49_2 := blk_frozen BK222.out 2; have hfz49_3 := blk_frozen BK222.out 3; have hfz49_4 := blk_frozen BK222.out 4) | ((with_reducible refine gate_callee (f := 15) rfl ?_); refine gl_ (some 28) Try.func15 #[.agg #[.int .i64 a1_0, .int .i64 a1_1, .int .i64 a1_2, .slice A1_3 l1_3.length c1_3, .slice A1_4 l1_4.length c1_4]] ?_; (with_reducible refine (laws_toLsa.calls k a1_0 a1_1 a1_2 _ _ l1_3 _ _ l1_4 t254 t255 t256 t257 t260 _ ?side1 ?side2 ?side3 ?side4 A23.out).mono ?_); (case side1 => exact Kd.C_below HR1_3.out (by repeat (first | (with_reducible first | exact HB.out | apply below_alloc | apply pw_below_drewN | apply below_drew1 | refine below_set ?_ GE221.out | refine below_set ?_ GE222.out | refine below_set ?_ GE253.out) | exact HB.out))); (case side2 => exact HC1_3.out); (case side3 => exact Kd.C_below HR1_4.out (by repeat (first | (with_reducible first | exact HB.out | apply below_alloc | apply pw_below_drewN | apply below_drew1 | refine below_set ?_ GE221.out | refine below_set ?_ GE222.out | refine below_set ?_ GE253.out) | exact HB.out))); (case side4 => exact HC1_4.out); rintro e w50 ⟨v258, v261, rfl, ho0, ho1, hb⟩; refine ⟨_, rfl, ?_⟩; have HO259 := Aside0.mk (Kd.R_lower (Kd.R_new' (Kd.R_new' (Kd.R_new' ho0 (Kd.R_lt (hs_ HO230 BK253))) (Kd.R_lt (hs_ HO239 BK253))) (Kd.R_lt (hs_ HO249 BK253))) (bz_ HB)); have HO262 := Aside0.mk (Kd.R_lower (Kd.R_new' (Kd.R_new' (Kd.R_new' ho1 (Kd.R_lt (hs_ HO233 BK253))) (Kd.R_lt (hs_ HO242 BK253))) (Kd.R_lt (hs_ HO252 BK253))) (bz_ HB)); replace HO230 := Aside0.mk (Kd.R_elder' (hs_ HO230 BK253) (Kd.R_base ho0) hb); replace HO239 := Aside0.mk (Kd.R_elder' (hs_ HO239 BK253) (Kd.R_base ho0) hb); replace HO249 := Aside0.mk (Kd.R_elder' (hs_ HO249 BK253) (Kd.R_base ho0) hb); replace HO233 := Aside0.mk (Kd.R_elder' (hs_ HO233 BK253) (Kd.R_base ho1) hb); replace HO242 := Aside0.mk (Kd.R_elder' (hs_ HO242 BK253) (Kd.R_base ho1) hb); replace HO252 := Aside0.mk (Kd.R_elder' (hs_ HO252 BK253) (Kd.R_base ho1) hb); replace BK221 := bf_ BK221 NB221_253 hb; replace BK222 := bf_ BK222 NB222_253 hb; replace BK253 := Aside0.mk (blk_below (g := gb253) (o := .cells #[.int .i64 t244, .int .i64 t245, .int .i64 t246, .slice Ao47 t247.length co47, .slice Ao48 t250.length co48] 31 (0, 0)) (by (with_reducible repeat (first | refine blk_drewN ?_ _ | refine blk_drew ?_ | refine blk_alloc ?_ _)); refine blk_put (cs := #[.int .i64 t244, .int .i64 t245, .int .i64 t246, .slice Ao47 t247.length co47, .slice none 0 0]) ?_ 4 _ rfl; (with_reducible repeat (first | refine blk_drewN ?_ _ | refine blk_drew ?_ | refine blk_alloc ?_ _)); refine blk_put (cs := #[.int .i64 t244, .int .i64 t245, .int .i64 t246, .slice none 0 0, .slice none 0 0]) ?_ 3 _ rfl; (with_reducible repeat (first | refine blk_drewN ?_ _ | refine blk_drew ?_ | refine blk_alloc ?_ _)); refine blk_put (cs := #[.int .i64 t244, .int .i64 t245, .int .i64 0, .slice none 0 0, .slice none 0 0]) ?_ 2 _ rfl; (with_reducible repeat (first | refine blk_drewN ?_ _ | refine blk_drew ?_ | refine blk_alloc ?_ _)); refine blk_put (cs := #[.int .i64 t244, .int .i64 0, .int .i64 0, .slice none 0 0, .slice none 0 0]) ?_ 1 _ rfl; (with_reducible repeat (first | refine blk_drewN ?_ _ | refine blk_drew ?_ | refine blk_alloc ?_ _)); refine blk_put (cs := #[.int .i64 0, .int .i64 0, .int .i64 0, .slice none 0 0, .slice none 0 0]) ?_ 0 _ rfl; (with_reducible repeat (first | refine blk_drewN ?_ _ | refine blk_drew ?_ | refine blk_alloc ?_ _)); exact BK253.out) hb); replace HB := Aside0.mk (bt_ HB hb); (try clear hb); (try clear hb2); (try clear hk); (try clear hi); (try clear ho0); (try clear ho1)) | ((with_reducible refine gate_dst (N := 8) rfl ?_); refine box_event ?hg (N := 8) ?hd (cs := #[.int .i64 0, .int .i64 0, .int .i64 0, .slice none 0 0, .slice none 0 0]) (t := 31) ?hr ?_; (case hd => rfl); (case hg => rfl); (case hr => first | (go_simp; done) | (go_simp; rfl)); intro gb263 hg w51 hbox hb; have BK263 := Aside0.mk hbox; have GW263 := ge_ HB hg; have GE263 := ge_ HB hg; have NB221_263 := nl_ BK221 hg; have NB263_221 := ng_ BK221 hg; have NB222_263 := nl_ BK222 hg; have NB263_222 := ng_ BK222 hg; have NB253_263 := nl_ BK253 hg; have NB263_253 := ng_ BK253 hg; replace HO230 := rb_ HO230 hb; replace HO233 := rb_ HO233 hb; replace HO239 := rb_ HO239 hb; replace HO242 := rb_ HO242 hb; replace HO249 := rb_ HO249 hb; replace HO252 := rb_ HO252 hb; replace HO259 := rb_ HO259 hb; replace HO262 := rb_ HO262 hb; replace HB := Aside0.mk (bt_ HB hb); replace BK221 := Aside0.mk (bb_ BK221 hb); replace BK222 := Aside0.mk (bb_ BK222 hb); replace BK253 := Aside0.mk (bb_ BK253 hb); clear hb hbox hg; have hnb52 := NB263_221.out; have hnc52 := NB221_263.out; have hnb53 := NB263_222.out; have hnc53 := NB222_263.out; have hnb54 := NB263_253.out; have hnc54 := NB253_263.out; have hcz55_0 := cz_ BK263 0 (.int .i64 0); have hcz55_1 := cz_ BK263 1 (.int .i64 0); have hcz55_2 := cz_ BK263 2 (.int .i64 0); have hcz55_3 := cz_ BK263 3 (.slice none 0 0); have hcz55_4 := cz_ BK263 4 (.slice none 0 0); have hfz55_0 := blk_frozen BK263.out 0; have hfz55_1 := blk_frozen BK263.out 1; have hfz55_2 := blk_frozen BK263.out 2; have hfz55_3 := blk_frozen BK263.out 3; have hfz55_4 := blk_frozen BK263.out 4; obtain ⟨Ao56, co56, eo56⟩ := Kd.R_slice HO259.out; subst eo56; obtain ⟨Ao57, co57, eo57⟩ := Kd.R_slice HO262.out; subst eo57; have hcz58_0 := cz_ BK253 0 (.int .i64 t244); have hcz58_1 := cz_ BK253 1 (.int .i64 t245); have hcz58_2 := cz_ BK253 2 (.int .i64 t246); have hcz58_3 := cz_ BK253 3 (.slice Ao47 t247.length co47); have hcz58_4 := cz_ BK253 4 (.slice Ao48 t250.length co48); have hfz58_0 := blk_frozen BK253.out 0; have hfz58_1 := blk_frozen BK253.out 1; have hfz58_2 := blk_frozen BK253.out 2; have hfz58_3 := blk_frozen BK253.out 3; have hfz58_4 := blk_frozen BK253.out 4) | ((with_reducible refine gate_callee (f := 19) rfl ?_); refine gl_ (some 31) Try.func19 #[.agg #[.int .i64 t244, .int .i64 t245, .int .i64 t246, .slice Ao47 t247.length co47, .slice Ao48 t250.length co48], .agg #[.int .i64 t254, .int .i64 t255, .int .i64 t256, .slice Ao56 t257.length co56, .slice Ao57 t260.length co57]] ?_; (with_reducible refine (impl_SameWords.calls k t244 t245 t246 _ _ t247 _ _ t250 t254 t255 t256 _ _ t257 _ _ t260 t264 _ ?side1 ?side2 ?side3 ?side4 ?side5 ?side6 ?side7 ?side8 A24.out).mono ?_); (case side1 => refine (Kd.R_reads' (e := 70) (base := w.heap.size) (ok := fun k_ => (((True ∧ some k_ ≠ (.slice Ao36 t228.length co36 : Value).ownBlock) ∧ some k_ ≠ (.slice Ao38 t237.length co38 : Value).ownBlock) ∧ some k_ ≠ (.slice Ao56 t257.length co56 : Value).ownBlock)) (n := t247.length) (c := co47) ?_).2.2; exact (hs_ HO249 BK263)); (case side2 => exact (Kd.R_reads' HO249.out).2.1); (case side3 => refine (Kd.R_reads' (e := 74) (base := w.heap.size) (ok := fun k_ => (((True ∧ some k_ ≠ (.slice Ao37 t231.length co37 : Value).ownBlock) ∧ some k_ ≠ (.slice Ao39 t240.length co39 : Value).ownBlock) ∧ some k_ ≠ (.slice Ao57 t260.length co57 : Value).ownBlock)) (n := t250.length) (c := co48) ?_).2.2; exact (hs_ HO252 BK263)); (case side4 => exact (Kd.R_reads' HO252.out).2.1); (case side5 => refine (Kd.R_reads' (e := 70) (base := w.heap.size) (ok := fun k_ => (((True ∧ some k_ ≠ (.slice Ao36 t228.length co36 : Value).ownBlock) ∧ some k_ ≠ (.slice Ao38 t237.length co38 : Value).ownBlock) ∧ some k_ ≠ (.slice Ao47 t247.length co47 : Value).ownBlock)) (n := t257.length) (c := co56) ?_).2.2; exact (hs_ HO259 BK263)); (case side6 => exact (Kd.R_reads' HO259.out).2.1); (case side7 => refine (Kd.R_reads' (e := 74) (base := w.heap.size) (ok := fun k_ => (((True ∧ some k_ ≠ (.slice Ao37 t231.length co37 : Value).ownBlock) ∧ some k_ ≠ (.slice Ao39 t240.length co39 : Value).ownBlock) ∧ some k_ ≠ (.slice Ao48 t250.length co48 : Value).ownBlock)) (n := t260.length) (c := co57) ?_).2.2; exact (hs_ HO262 BK263)); (case side8 => exact (Kd.R_reads' HO262.out).2.1); rintro e w59 ⟨rfl, hb⟩; refine ⟨_, rfl, ?_⟩; replace HO230 := rs_ HO230 BK263 hb; replace HO233 := rs_ HO233 BK263 hb; replace HO239 := rs_ HO239 BK263 hb; replace HO242 := rs_ HO242 BK263 hb; replace HO249 := rs_ HO249 BK263 hb; replace HO252 := rs_ HO252 BK263 hb; replace HO259 := rs_ HO259 BK263 hb; replace HO262 := rs_ HO262 BK263 hb; replace BK221 := bf_ BK221 NB221_263 hb; replace BK222 := bf_ BK222 NB222_263 hb; replace BK253 := bf_ BK253 NB253_263 hb; replace BK263 := Aside0.mk (blk_below (g := gb263) (o := .cells #[.int .i64 t254, .int .i64 t255, .int .i64 t256, .slice Ao56 t257.length co56, .slice Ao57 t260.length co57] 31 (0, 0)) (by (with_reducible repeat (first | refine blk_drewN ?_ _ | refine blk_drew ?_ | refine blk_alloc ?_ _)); refine blk_put (cs := #[.int .i64 t254, .int .i64 t255, .int .i64 t256, .slice Ao56 t257.length co56, .slice none 0 0]) ?_ 4 _ rfl; (with_reducible repeat (first | refine blk_drewN ?_ _ | refine blk_drew ?_ | refine blk_alloc ?_ _)); refine blk_put (cs := #[.int .i64 t254, .int .i64 t255, .int .i64 t256, .slice none 0 0, .slice none 0 0]) ?_ 3 _ rfl; (with_reducible repeat (first | refine blk_drewN ?_ _ | refine blk_drew ?_ | refine blk_alloc ?_ _)); refine blk_put (cs := #[.int .i64 t254, .int .i64 t255, .int .i64 0, .slice none 0 0, .slice none 0 0]) ?_ 2 _ rfl; (with_reducible repeat (first | refine blk_drewN ?_ _ | refine blk_drew ?_ | refine blk_alloc ?_ _)); refine blk_put (cs := #[.int .i64 t254, .int .i64 0, .int .i64 0, .slice none 0 0, .slice none 0 0]) ?_ 1 _ rfl; (with_reducible repeat (first | refine blk_drewN ?_ _ | refine blk_drew ?_ | refine blk_alloc ?_ _)); refine blk_put (cs := #[.int .i64 0, .int .i64 0, .int .i64 0, .slice none 0 0, .slice none 0 0]) ?_ 0 _ rfl; (with_reducible repeat (first | refine blk_drewN ?_ _ | refine blk_drew ?_ | refine blk_alloc ?_ _)); exact BK263.out) hb); replace HB := Aside0.mk (bt_ HB hb); (try clear hb); (try clear hb2); (try clear hk); (try clear hi)))
    go_ret
    exact ⟨by first | rfl | (simp [errW_none, errW_some] <;> rfl) | (simp [*, errW_none, errW_some] <;> rfl), by repeat (first | (with_reducible first | exact HB.out | apply below_alloc | apply pw_below_drewN | apply below_drew1 | refine below_set ?_ GE221.out | refine below_set ?_ GE222.out | refine below_set ?_ GE253.out | refine below_set ?_ GE263.out) | exact HB.out)⟩
   ·rw [if_neg c25] at H
    have c25b0 : (t264 != t243) = false := by simpa using c25
    (try (have c25b1 : decide (t264 = t243) = true := by simpa using c25))
    (try (have c25b2 : (t264 == t243) = true := by simpa using c25))
    clear c25
    replace H := Option.bind_eq_some_iff.mp H
    obtain ⟨⟨t265, t266, t267, t268, t271⟩, A600, H⟩ := H
    have A60 := Aside0.mk A600
    clear A600
    replace H := Option.bind_eq_some_iff.mp H
    obtain ⟨t274, A610, H⟩ := H
    have A61 := Aside0.mk A610
    clear A610
    by_cases c62 : t274 = true
    ·subst c62
     rw [if_pos rfl] at H
     replace H := Option.bind_eq_some_iff.mp H
     obtain ⟨⟨t275, t276, t277, t278, t281⟩, A630, H⟩ := H
     have A63 := Aside0.mk A630
     clear A630
     replace H := Option.bind_eq_some_iff.mp H
     obtain ⟨t284, A640, H⟩ := H
     have A64 := Aside0.mk A640
     clear A640
     by_cases c65 : t284 = true
     ·subst c65
      rw [if_pos rfl] at H
      obtain rfl := Option.some.inj H
      go_enter Try.func4, Try.ntmps4
      try go_wp2_with (first | ((with_reducible refine gate_dst (N := 2) rfl ?_); refine box_event ?hg (N := 2) ?hd (cs := #[.int .i64 a0_0, .int .i64 a0_1, .int .i64 a0_2, .slice A0_3 l0_3.length c0_3, .slice A0_4 l0_4.length c0_4]) (t := 25) ?hr ?_; (case hd => rfl); (case hg => rfl); (case hr => first | (go_simp; done) | (go_simp; rfl)); intro gb221 hg w66 hbox hb; have BK221 := Aside0.mk hbox; have GW221 := ge_ HB hg; have GE221 := ge_ HB hg; replace HB := Aside0.mk (bt_ HB hb); clear hb hbox hg) | ((with_reducible refine gate_dst (N := 3) rfl ?_); refine box_event ?hg (N := 3) ?hd (cs := #[.int .i64 a1_0, .int .i64 a1_1, .int .i64 a1_2, .slice A1_3 l1_3.length c1_3, .slice A1_4 l1_4.length c1_4]) (t := 25) ?hr ?_; (case hd => rfl); (case hg => rfl); (case hr => first | (go_simp; done) | (go_simp; rfl)); intro gb222 hg w67 hbox hb; have BK222 := Aside0.mk hbox; have GW222 := ge_ HB hg; have GE222 := ge_ HB hg; have NB221_222 := nl_ BK221 hg; have NB222_221 := ng_ BK221 hg; replace HB := Aside0.mk (bt_ HB hb); replace BK221 := Aside0.mk (bb_ BK221 hb); clear hb hbox hg; have hnb68 := NB221_222.out; have hnc68 := NB222_221.out; have hcz69_0 := cz_ BK221 0 (.int .i64 a0_0); have hcz69_1 := cz_ BK221 1 (.int .i64 a0_1); have hcz69_2 := cz_ BK221 2 (.int .i64 a0_2); have hcz69_3 := cz_ BK221 3 (.slice A0_3 l0_3.length c0_3); have hcz69_4 := cz_ BK221 4 (.slice A0_4 l0_4.length c0_4); have hfz69_0 := blk_frozen BK221.out 0; have hfz69_1 := blk_frozen BK221.out 1; have hfz69_2 := blk_frozen BK221.out 2; have hfz69_3 := blk_frozen BK221.out 3; have hfz69_4 := blk_frozen BK221.out 4) | ((with_reducible refine gate_callee (f := 13) rfl ?_); refine gl_ (some 12) Try.func13 #[.agg #[.int .i64 a0_0, .int .i64 a0_1, .int .i64 a0_2, .slice A0_3 l0_3.length c0_3, .slice A0_4 l0_4.length c0_4], .int .i64 1048576] ?_; (with_reducible refine (laws_szLsa.calls a0_0 a0_1 a0_2 _ _ l0_3 _ _ l0_4 1048576 t223 _ ?side1 ?side2 ?side3 ?side4 A3.out).mono ?_); (case side1 => exact cb_ HR0_3 HB); (case side2 => exact HC0_3.out); (case side3 => exact cb_ HR0_4 HB); (case side4 => exact HC0_4.out); rintro e w70 ⟨rfl, hb⟩; refine ⟨_, rfl, ?_⟩; replace BK221 := Aside0.mk (bb_ BK221 hb); replace BK222 := Aside0.mk (bb_ BK222 hb); replace HB := Aside0.mk (bt_ HB hb); (try clear hb); (try clear hb2); (try clear hk); (try clear hi); have hcz71_0 := cz_ BK222 0 (.int .i64 a1_0); have hcz71_1 := cz_ BK222 1 (.int .i64 a1_1); have hcz71_2 := cz_ BK222 2 (.int .i64 a1_2); have hcz71_3 := cz_ BK222 3 (.slice A1_3 l1_3.length c1_3); have hcz71_4 := cz_ BK222 4 (.slice A1_4 l1_4.length c1_4); have hfz71_0 := blk_frozen BK222.out 0; have hfz71_1 := blk_frozen BK222.out 1; have hfz71_2 := blk_frozen BK222.out 2; have hfz71_3 := blk_frozen BK222.out 3; have hfz71_4 := blk_frozen BK222.out 4) | ((with_reducible refine gate_callee (f := 13) rfl ?_); refine gl_ (some 17) Try.func13 #[.agg #[.int .i64 a1_0, .int .i64 a1_1, .int .i64 a1_2, .slice A1_3 l1_3.length c1_3, .slice A1_4 l1_4.length c1_4], .int .i64 t223] ?_; (with_reducible refine (laws_szLsa.calls a1_0 a1_1 a1_2 _ _ l1_3 _ _ l1_4 t223 t224 _ ?side1 ?side2 ?side3 ?side4 A10.out).mono ?_); (case side1 => exact cb_ HR1_3 HB); (case side2 => exact HC1_3.out); (case side3 => exact cb_ HR1_4 HB); (case side4 => exact HC1_4.out); rintro e w72 ⟨rfl, hb⟩; refine ⟨_, rfl, ?_⟩; replace BK221 := Aside0.mk (bb_ BK221 hb); replace BK222 := Aside0.mk (bb_ BK222 hb); replace HB := Aside0.mk (bt_ HB hb); (try clear hb); (try clear hb2); (try clear hk); (try clear hi)))
      replace BK221 := Aside0.mk (blk_drew BK221.out)
      replace BK222 := Aside0.mk (blk_drew BK222.out)
      replace HB := Aside0.mk (below_drew1 HB.out)
      refine start_ (n := 6) (S := fun w' => w'.cell? ⟨gb221, 0, none⟩ = some (.int .i64 a0_0) ∧ w'.cell? ⟨gb221, 1, none⟩ = some (.int .i64 a0_1) ∧ w'.cell? ⟨gb221, 2, none⟩ = some (.int .i64 a0_2) ∧ w'.cell? ⟨gb221, 3, none⟩ = some (.slice A0_3 l0_3.length c0_3) ∧ w'.cell? ⟨gb221, 4, none⟩ = some (.slice A0_4 l0_4.length c0_4) ∧ w'.cell? ⟨gb222, 0, none⟩ = some (.int .i64 a1_0) ∧ w'.cell? ⟨gb222, 1, none⟩ = some (.int .i64 a1_1) ∧ w'.cell? ⟨gb222, 2, none⟩ = some (.int .i64 a1_2) ∧ w'.cell? ⟨gb222, 3, none⟩ = some (.slice A1_3 l1_3.length c1_3) ∧ w'.cell? ⟨gb222, 4, none⟩ = some (.slice A1_4 l1_4.length c1_4)) (ds := []) ba13_0 (by kernel_rfl) rfl rfl ⟨(blk_cell BK221.out 0).trans rfl, (blk_cell BK221.out 1).trans rfl, (blk_cell BK221.out 2).trans rfl, (blk_cell BK221.out 3).trans rfl, (blk_cell BK221.out 4).trans rfl, (blk_cell BK222.out 0).trans rfl, (blk_cell BK222.out 1).trans rfl, (blk_cell BK222.out 2).trans rfl, (blk_cell BK222.out 3).trans rfl, (blk_cell BK222.out 4).trans rfl⟩ (fun hHeld => ?_)
      generalize w72.drew = w73 at BK221 BK222 HB hHeld ⊢
      refine take_ (i := 0) (N := some 20) (v := ?_) (a' := ?_) ba13_1 rfl rfl (by kernel_rfl) (fun _ _ _ h => h) (Or.inl ⟨by rfl, ?_⟩) hHeld ?_ ?_
      rotate_left; · rintro w' ⟨s0, s1, s2, s3, s4, s5, s6, s7, s8, s9⟩; go_simp; with_reducible rfl
      rotate_left; · simp only [Act.put, List.setIfInBounds_toArray, List.set_cons_zero, List.set_cons_succ, i64_w, i32_w]; rfl
      refine take_ (i := 2) (N := some 22) (v := ?_) (a' := ?_) ba13_2 rfl rfl (by kernel_rfl) (fun _ _ _ h => h) (Or.inl ⟨by rfl, ?_⟩) hHeld ?_ ?_
      rotate_left; · rintro w' ⟨s0, s1, s2, s3, s4, s5, s6, s7, s8, s9⟩; go_simp; with_reducible rfl
      rotate_left; · simp only [Act.put, List.setIfInBounds_toArray, List.set_cons_zero, List.set_cons_succ, i64_w, i32_w]; rfl
      refine one_ (i := 1) (N := some 21) ba13_3 rfl rfl (by kernel_rfl) (by decide) (fun K hK => ?_)
      refine gz_ Try.func15 #[.agg #[.int .i64 a0_0, .int .i64 a0_1, .int .i64 a0_2, .slice A0_3 l0_3.length c0_3, .slice A0_4 l0_4.length c0_4]] ?_
      with_reducible refine (laws_toLsa.calls k a0_0 a0_1 a0_2 _ _ l0_3 _ _ l0_4 t225 t226 t227 t228 t231 _ ?side1 ?side2 ?side3 ?side4 A19.out).mono ?_
      (case side1 => exact cb_ HR0_3 HB)
      (case side2 => exact HC0_3.out)
      (case side3 => exact cb_ HR0_4 HB)
      (case side4 => exact HC0_4.out)
      rintro e w74 ⟨v229, v232, rfl, ho0, ho1, hb⟩
      refine ⟨_, rfl, ?_⟩
      have HO230 := Aside0.mk (Kd.R_lower ho0 (bz_ HB))
      have HO233 := Aside0.mk (Kd.R_lower ho1 (bz_ HB))
      replace BK221 := Aside0.mk (bb_ BK221 hb)
      replace BK222 := Aside0.mk (bb_ BK222 hb)
      replace HB := Aside0.mk (bt_ HB hb)
      (try clear hb)
      (try clear hb2)
      (try clear hk)
      (try clear hi)
      (try clear ho0)
      (try clear ho1)
      refine hK.out _ _ ⟨(blk_cell BK221.out 0).trans rfl, (blk_cell BK221.out 1).trans rfl, (blk_cell BK221.out 2).trans rfl, (blk_cell BK221.out 3).trans rfl, (blk_cell BK221.out 4).trans rfl, (blk_cell BK222.out 0).trans rfl, (blk_cell BK222.out 1).trans rfl, (blk_cell BK222.out 2).trans rfl, (blk_cell BK222.out 3).trans rfl, (blk_cell BK222.out 4).trans rfl⟩ (fun hHeld => ?_)
      clear hK K
      refine nz_ 21 ?_
      refine one_ (i := 3) (N := some 23) ba13_4 rfl rfl (by kernel_rfl) (by decide) (fun K hK => ?_)
      refine gz_ Try.func15 #[.agg #[.int .i64 a1_0, .int .i64 a1_1, .int .i64 a1_2, .slice A1_3 l1_3.length c1_3, .slice A1_4 l1_4.length c1_4]] ?_
      with_reducible refine (laws_toLsa.calls k a1_0 a1_1 a1_2 _ _ l1_3 _ _ l1_4 t234 t235 t236 t237 t240 _ ?side1 ?side2 ?side3 ?side4 A20.out).mono ?_
      (case side1 => exact cb_ HR1_3 HB)
      (case side2 => exact HC1_3.out)
      (case side3 => exact cb_ HR1_4 HB)
      (case side4 => exact HC1_4.out)
      rintro e w75 ⟨v238, v241, rfl, ho0, ho1, hb⟩
      refine ⟨_, rfl, ?_⟩
      have HO239 := Aside0.mk (Kd.R_lower (Kd.R_new' ho0 (Kd.R_lt (hd_ HO230))) (bz_ HB))
      have HO242 := Aside0.mk (Kd.R_lower (Kd.R_new' ho1 (Kd.R_lt (hd_ HO233))) (bz_ HB))
      replace HO230 := Aside0.mk (Kd.R_elder' (hd_ HO230) (Kd.R_base ho0) hb)
      replace HO233 := Aside0.mk (Kd.R_elder' (hd_ HO233) (Kd.R_base ho1) hb)
      replace BK221 := Aside0.mk (bb_ BK221 hb)
      replace BK222 := Aside0.mk (bb_ BK222 hb)
      replace HB := Aside0.mk (bt_ HB hb)
      (try clear hb)
      (try clear hb2)
      (try clear hk)
      (try clear hi)
      (try clear ho0)
      (try clear ho1)
      obtain ⟨Ao76, co76, eo76⟩ := Kd.R_slice HO230.out
      (first | subst eo76 | (injection eo76 with f1_ f2_ f3_; have f4_ := f1_.symm; have f5_ := f3_.symm; clear f1_ f2_ f3_; subst f4_; subst f5_))
      obtain ⟨Ao77, co77, eo77⟩ := Kd.R_slice HO233.out
      (first | subst eo77 | (injection eo77 with f1_ f2_ f3_; have f4_ := f1_.symm; have f5_ := f3_.symm; clear f1_ f2_ f3_; subst f4_; subst f5_))
      obtain ⟨Ao78, co78, eo78⟩ := Kd.R_slice HO239.out
      (first | subst eo78 | (injection eo78 with f1_ f2_ f3_; have f4_ := f1_.symm; have f5_ := f3_.symm; clear f1_ f2_ f3_; subst f4_; subst f5_))
      obtain ⟨Ao79, co79, eo79⟩ := Kd.R_slice HO242.out
      (first | subst eo79 | (injection eo79 with f1_ f2_ f3_; have f4_ := f1_.symm; have f5_ := f3_.symm; clear f1_ f2_ f3_; subst f4_; subst f5_))
      refine hK.out _ _ ⟨(blk_cell BK221.out 0).trans rfl, (blk_cell BK221.out 1).trans rfl, (blk_cell BK221.out 2).trans rfl, (blk_cell BK221.out 3).trans rfl, (blk_cell BK221.out 4).trans rfl, (blk_cell BK222.out 0).trans rfl, (blk_cell BK222.out 1).trans rfl, (blk_cell BK222.out 2).trans rfl, (blk_cell BK222.out 3).trans rfl, (blk_cell BK222.out 4).trans rfl⟩ (fun hHeld => ?_)
      clear hK K
      refine nz_ 23 ?_
      refine one_ (i := 4) (N := some 24) ba13_5 rfl rfl (by kernel_rfl) (by decide) (fun K hK => ?_)
      refine gz_ Try.func18 #[.agg #[.int .i64 t225, .int .i64 t226, .int .i64 t227, .slice Ao76 t228.length co76, .slice Ao77 t231.length co77], .agg #[.int .i64 t234, .int .i64 t235, .int .i64 t236, .slice Ao78 t237.length co78, .slice Ao79 t240.length co79]] ?_
      with_reducible refine (spec_SameWords.calls k t225 t226 t227 _ _ t228 _ _ t231 t234 t235 t236 _ _ t237 _ _ t240 t243 _ ?side1 ?side2 ?side3 ?side4 ?side5 ?side6 ?side7 ?side8 A21.out).mono ?_
      (case side1 => exact rc_ HO230)
      (case side2 => exact (Kd.R_reads' HO230.out).2.1)
      (case side3 => exact rc_ HO233)
      (case side4 => exact (Kd.R_reads' HO233.out).2.1)
      (case side5 => exact rc_ HO239)
      (case side6 => exact (Kd.R_reads' HO239.out).2.1)
      (case side7 => exact rc_ HO242)
      (case side8 => exact (Kd.R_reads' HO242.out).2.1)
      rintro e w80 ⟨rfl, hb⟩
      refine ⟨_, rfl, ?_⟩
      replace HO230 := rb_ HO230 hb
      replace HO233 := rb_ HO233 hb
      replace HO239 := rb_ HO239 hb
      replace HO242 := rb_ HO242 hb
      replace BK221 := Aside0.mk (bb_ BK221 hb)
      replace BK222 := Aside0.mk (bb_ BK222 hb)
      replace HB := Aside0.mk (bt_ HB hb)
      (try clear hb)
      (try clear hb2)
      (try clear hk)
      (try clear hi)
      refine hK.out _ _ ⟨(blk_cell BK221.out 0).trans rfl, (blk_cell BK221.out 1).trans rfl, (blk_cell BK221.out 2).trans rfl, (blk_cell BK221.out 3).trans rfl, (blk_cell BK221.out 4).trans rfl, (blk_cell BK222.out 0).trans rfl, (blk_cell BK222.out 1).trans rfl, (blk_cell BK222.out 2).trans rfl, (blk_cell BK222.out 3).trans rfl, (blk_cell BK222.out 4).trans rfl⟩ (fun hHeld => ?_)
      clear hK K
      refine nz_ 24 ?_
      refine pure_ (i := 5) (N := some 6) (v := ?_) (a' := ?_) ba13_6 rfl rfl (by kernel_rfl) (fun _ _ _ h => h) (Or.inl ⟨by rfl, ?_⟩) ?_ ?_
      rotate_left; · intro w'; go_simp; with_reducible rfl
      rotate_left; · simp only [Act.put, List.setIfInBounds_toArray, List.set_cons_zero, List.set_cons_succ, i64_w, i32_w]; rfl
      refine done_ (by kernel_rfl) ?_
      have hcz81_0 := cz_ BK221 0 (.int .i64 a0_0)
      have hcz81_1 := cz_ BK221 1 (.int .i64 a0_1)
      have hcz81_2 := cz_ BK221 2 (.int .i64 a0_2)
      have hcz81_3 := cz_ BK221 3 (.slice A0_3 l0_3.length c0_3)
      have hcz81_4 := cz_ BK221 4 (.slice A0_4 l0_4.length c0_4)
      have hfz81_0 := blk_frozen BK221.out 0
      have hfz81_1 := blk_frozen BK221.out 1
      have hfz81_2 := blk_frozen BK221.out 2
      have hfz81_3 := blk_frozen BK221.out 3
      have hfz81_4 := blk_frozen BK221.out 4
      try go_wp2_with (first | ((with_reducible refine gate_callee (f := 15) rfl ?_); refine gl_ (some 26) Try.func15 #[.agg #[.int .i64 a0_0, .int .i64 a0_1, .int .i64 a0_2, .slice A0_3 l0_3.length c0_3, .slice A0_4 l0_4.length c0_4]] ?_; (with_reducible refine (laws_toLsa.calls k a0_0 a0_1 a0_2 _ _ l0_3 _ _ l0_4 t244 t245 t246 t247 t250 _ ?side1 ?side2 ?side3 ?side4 A22.out).mono ?_); (case side1 => exact cb_ HR0_3 HB); (case side2 => exact HC0_3.out); (case side3 => exact cb_ HR0_4 HB); (case side4 => exact HC0_4.out); rintro e w82 ⟨v248, v251, rfl, ho0, ho1, hb⟩; refine ⟨_, rfl, ?_⟩; have HO249 := Aside0.mk (Kd.R_lower (Kd.R_new' (Kd.R_new' ho0 (Kd.R_lt (hd_ HO230))) (Kd.R_lt (hd_ HO239))) (bz_ HB)); have HO252 := Aside0.mk (Kd.R_lower (Kd.R_new' (Kd.R_new' ho1 (Kd.R_lt (hd_ HO233))) (Kd.R_lt (hd_ HO242))) (bz_ HB)); replace HO230 := Aside0.mk (Kd.R_elder' (hd_ HO230) (Kd.R_base ho0) hb); replace HO239 := Aside0.mk (Kd.R_elder' (hd_ HO239) (Kd.R_base ho0) hb); replace HO233 := Aside0.mk (Kd.R_elder' (hd_ HO233) (Kd.R_base ho1) hb); replace HO242 := Aside0.mk (Kd.R_elder' (hd_ HO242) (Kd.R_base ho1) hb); replace BK221 := Aside0.mk (bb_ BK221 hb); replace BK222 := Aside0.mk (bb_ BK222 hb); replace HB := Aside0.mk (bt_ HB hb); (try clear hb); (try clear hb2); (try clear hk); (try clear hi); (try clear ho0); (try clear ho1)) | ((with_reducible refine gate_dst (N := 7) rfl ?_); refine box_event ?hg (N := 7) ?hd (cs := #[.int .i64 0, .int .i64 0, .int .i64 0, .slice none 0 0, .slice none 0 0]) (t := 31) ?hr ?_; (case hd => rfl); (case hg => rfl); (case hr => first | (go_simp; done) | (go_simp; rfl)); intro gb253 hg w83 hbox hb; have BK253 := Aside0.mk hbox; have GW253 := ge_ HB hg; have GE253 := ge_ HB hg; have NB221_253 := nl_ BK221 hg; have NB253_221 := ng_ BK221 hg; have NB222_253 := nl_ BK222 hg; have NB253_222 := ng_ BK222 hg; replace HO230 := rb_ HO230 hb; replace HO233 := rb_ HO233 hb; replace HO239 := rb_ HO239 hb; replace HO242 := rb_ HO242 hb; replace HO249 := rb_ HO249 hb; replace HO252 := rb_ HO252 hb; replace HB := Aside0.mk (bt_ HB hb); replace BK221 := Aside0.mk (bb_ BK221 hb); replace BK222 := Aside0.mk (bb_ BK222 hb); clear hb hbox hg; have hnb84 := NB253_221.out; have hnc84 := NB221_253.out; have hnb85 := NB253_222.out; have hnc85 := NB222_253.out; have hcz86_0 := cz_ BK253 0 (.int .i64 0); have hcz86_1 := cz_ BK253 1 (.int .i64 0); have hcz86_2 := cz_ BK253 2 (.int .i64 0); have hcz86_3 := cz_ BK253 3 (.slice none 0 0); have hcz86_4 := cz_ BK253 4 (.slice none 0 0); have hfz86_0 := blk_frozen BK253.out 0; have hfz86_1 := blk_frozen BK253.out 1; have hfz86_2 := blk_frozen BK253.out 2; have hfz86_3 := blk_frozen BK253.out 3; have hfz86_4 := blk_frozen BK253.out 4; obtain ⟨Ao87, co87, eo87⟩ := Kd.R_slice HO249.out; subst eo87; obtain ⟨Ao88, co88, eo88⟩ := Kd.R_slice HO252.out; subst eo88; have hcz89_0 := cz_ BK222 0 (.int .i64 a1_0); have hcz89_1 := cz_ BK222 1 (.int .i64 a1_1); have hcz89_2 := cz_ BK222 2 (.int .i64 a1_2); have hcz89_3 := cz_ BK222 3 (.slice A1_3 l1_3.length c1_3); have hcz89_4 := cz_ BK222 4 (.slice A1_4 l1_4.length c1_4); have hfz89_0 := blk_frozen BK222.out 0; have hfz89_1 := blk_frozen BK222.out 1; have hfz89_2 := blk_frozen BK222.out 2; have hfz89_3 := blk_frozen BK222.out 3; have hfz89_4 := blk_frozen BK222.out 4) | ((with_reducible refine gate_callee (f := 15) rfl ?_); refine gl_ (some 28) Try.func15 #[.agg #[.int .i64 a1_0, .int .i64 a1_1, .int .i64 a1_2, .slice A1_3 l1_3.length c1_3, .slice A1_4 l1_4.length c1_4]] ?_; (with_reducible refine (laws_toLsa.calls k a1_0 a1_1 a1_2 _ _ l1_3 _ _ l1_4 t254 t255 t256 t257 t260 _ ?side1 ?side2 ?side3 ?side4 A23.out).mono ?_); (case side1 => exact Kd.C_below HR1_3.out (by repeat (first | (with_reducible first | exact HB.out | apply below_alloc | apply pw_below_drewN | apply below_drew1 | refine below_set ?_ GE221.out | refine below_set ?_ GE222.out | refine below_set ?_ GE253.out) | exact HB.out))); (case side2 => exact HC1_3.out); (case side3 => exact Kd.C_below HR1_4.out (by repeat (first | (with_reducible first | exact HB.out | apply below_alloc | apply pw_below_drewN | apply below_drew1 | refine below_set ?_ GE221.out | refine below_set ?_ GE222.out | refine below_set ?_ GE253.out) | exact HB.out))); (case side4 => exact HC1_4.out); rintro e w90 ⟨v258, v261, rfl, ho0, ho1, hb⟩; refine ⟨_, rfl, ?_⟩; have HO259 := Aside0.mk (Kd.R_lower (Kd.R_new' (Kd.R_new' (Kd.R_new' ho0 (Kd.R_lt (hs_ HO230 BK253))) (Kd.R_lt (hs_ HO239 BK253))) (Kd.R_lt (hs_ HO249 BK253))) (bz_ HB)); have HO262 := Aside0.mk (Kd.R_lower (Kd.R_new' (Kd.R_new' (Kd.R_new' ho1 (Kd.R_lt (hs_ HO233 BK253))) (Kd.R_lt (hs_ HO242 BK253))) (Kd.R_lt (hs_ HO252 BK253))) (bz_ HB)); replace HO230 := Aside0.mk (Kd.R_elder' (hs_ HO230 BK253) (Kd.R_base ho0) hb); replace HO239 := Aside0.mk (Kd.R_elder' (hs_ HO239 BK253) (Kd.R_base ho0) hb); replace HO249 := Aside0.mk (Kd.R_elder' (hs_ HO249 BK253) (Kd.R_base ho0) hb); replace HO233 := Aside0.mk (Kd.R_elder' (hs_ HO233 BK253) (Kd.R_base ho1) hb); replace HO242 := Aside0.mk (Kd.R_elder' (hs_ HO242 BK253) (Kd.R_base ho1) hb); replace HO252 := Aside0.mk (Kd.R_elder' (hs_ HO252 BK253) (Kd.R_base ho1) hb); replace BK221 := bf_ BK221 NB221_253 hb; replace BK222 := bf_ BK222 NB222_253 hb; replace BK253 := Aside0.mk (blk_below (g := gb253) (o := .cells #[.int .i64 t244, .int .i64 t245, .int .i64 t246, .slice Ao87 t247.length co87, .slice Ao88 t250.length co88] 31 (0, 0)) (by (with_reducible repeat (first | refine blk_drewN ?_ _ | refine blk_drew ?_ | refine blk_alloc ?_ _)); refine blk_put (cs := #[.int .i64 t244, .int .i64 t245, .int .i64 t246, .slice Ao87 t247.length co87, .slice none 0 0]) ?_ 4 _ rfl; (with_reducible repeat (first | refine blk_drewN ?_ _ | refine blk_drew ?_ | refine blk_alloc ?_ _)); refine blk_put (cs := #[.int .i64 t244, .int .i64 t245, .int .i64 t246, .slice none 0 0, .slice none 0 0]) ?_ 3 _ rfl; (with_reducible repeat (first | refine blk_drewN ?_ _ | refine blk_drew ?_ | refine blk_alloc ?_ _)); refine blk_put (cs := #[.int .i64 t244, .int .i64 t245, .int .i64 0, .slice none 0 0, .slice none 0 0]) ?_ 2 _ rfl; (with_reducible repeat (first | refine blk_drewN ?_ _ | refine blk_drew ?_ | refine blk_alloc ?_ _)); refine blk_put (cs := #[.int .i64 t244, .int .i64 0, .int .i64 0, .slice none 0 0, .slice none 0 0]) ?_ 1 _ rfl; (with_reducible repeat (first | refine blk_drewN ?_ _ | refine blk_drew ?_ | refine blk_alloc ?_ _)); refine blk_put (cs := #[.int .i64 0, .int .i64 0, .int .i64 0, .slice none 0 0, .slice none 0 0]) ?_ 0 _ rfl; (with_reducible repeat (first | refine blk_drewN ?_ _ | refine blk_drew ?_ | refine blk_alloc ?_ _)); exact BK253.out) hb); replace HB := Aside0.mk (bt_ HB hb); (try clear hb); (try clear hb2); (try clear hk); (try clear hi); (try clear ho0); (try clear ho1)) | ((with_reducible refine gate_dst (N := 8) rfl ?_); refine box_event ?hg (N := 8) ?hd (cs := #[.int .i64 0, .int .i64 0, .int .i64 0, .slice none 0 0, .slice none 0 0]) (t := 31) ?hr ?_; (case hd => rfl); (case hg => rfl); (case hr => first | (go_simp; done) | (go_simp; rfl)); intro gb263 hg w91 hbox hb; have BK263 := Aside0.mk hbox; have GW263 := ge_ HB hg; have GE263 := ge_ HB hg; have NB221_263 := nl_ BK221 hg; have NB263_221 := ng_ BK221 hg; have NB222_263 := nl_ BK222 hg; have NB263_222 := ng_ BK222 hg; have NB253_263 := nl_ BK253 hg; have NB263_253 := ng_ BK253 hg; replace HO230 := rb_ HO230 hb; replace HO233 := rb_ HO233 hb; replace HO239 := rb_ HO239 hb; replace HO242 := rb_ HO242 hb; replace HO249 := rb_ HO249 hb; replace HO252 := rb_ HO252 hb; replace HO259 := rb_ HO259 hb; replace HO262 := rb_ HO262 hb; replace HB := Aside0.mk (bt_ HB hb); replace BK221 := Aside0.mk (bb_ BK221 hb); replace BK222 := Aside0.mk (bb_ BK222 hb); replace BK253 := Aside0.mk (bb_ BK253 hb); clear hb hbox hg; have hnb92 := NB263_221.out; have hnc92 := NB221_263.out; have hnb93 := NB263_222.out; have hnc93 := NB222_263.out; have hnb94 := NB263_253.out; have hnc94 := NB253_263.out; have hcz95_0 := cz_ BK263 0 (.int .i64 0); have hcz95_1 := cz_ BK263 1 (.int .i64 0); have hcz95_2 := cz_ BK263 2 (.int .i64 0); have hcz95_3 := cz_ BK263 3 (.slice none 0 0); have hcz95_4 := cz_ BK263 4 (.slice none 0 0); have hfz95_0 := blk_frozen BK263.out 0; have hfz95_1 := blk_frozen BK263.out 1; have hfz95_2 := blk_frozen BK263.out 2; have hfz95_3 := blk_frozen BK263.out 3; have hfz95_4 := blk_frozen BK263.out 4; obtain ⟨Ao96, co96, eo96⟩ := Kd.R_slice HO259.out; subst eo96; obtain ⟨Ao97, co97, eo97⟩ := Kd.R_slice HO262.out; subst eo97; have hcz98_0 := cz_ BK253 0 (.int .i64 t244); have hcz98_1 := cz_ BK253 1 (.int .i64 t245); have hcz98_2 := cz_ BK253 2 (.int .i64 t246); have hcz98_3 := cz_ BK253 3 (.slice Ao87 t247.length co87); have hcz98_4 := cz_ BK253 4 (.slice Ao88 t250.length co88); have hfz98_0 := blk_frozen BK253.out 0; have hfz98_1 := blk_frozen BK253.out 1; have hfz98_2 := blk_frozen BK253.out 2; have hfz98_3 := blk_frozen BK253.out 3; have hfz98_4 := blk_frozen BK253.out 4) | ((with_reducible refine gate_callee (f := 19) rfl ?_); refine gl_ (some 31) Try.func19 #[.agg #[.int .i64 t244, .int .i64 t245, .int .i64 t246, .slice Ao87 t247.length co87, .slice Ao88 t250.length co88], .agg #[.int .i64 t254, .int .i64 t255, .int .i64 t256, .slice Ao96 t257.length co96, .slice Ao97 t260.length co97]] ?_; (with_reducible refine (impl_SameWords.calls k t244 t245 t246 _ _ t247 _ _ t250 t254 t255 t256 _ _ t257 _ _ t260 t264 _ ?side1 ?side2 ?side3 ?side4 ?side5 ?side6 ?side7 ?side8 A24.out).mono ?_); (case side1 => refine (Kd.R_reads' (e := 70) (base := w.heap.size) (ok := fun k_ => (((True ∧ some k_ ≠ (.slice Ao76 t228.length co76 : Value).ownBlock) ∧ some k_ ≠ (.slice Ao78 t237.length co78 : Value).ownBlock) ∧ some k_ ≠ (.slice Ao96 t257.length co96 : Value).ownBlock)) (n := t247.length) (c := co87) ?_).2.2; exact (hs_ HO249 BK263)); (case side2 => exact (Kd.R_reads' HO249.out).2.1); (case side3 => refine (Kd.R_reads' (e := 74) (base := w.heap.size) (ok := fun k_ => (((True ∧ some k_ ≠ (.slice Ao77 t231.length co77 : Value).ownBlock) ∧ some k_ ≠ (.slice Ao79 t240.length co79 : Value).ownBlock) ∧ some k_ ≠ (.slice Ao97 t260.length co97 : Value).ownBlock)) (n := t250.length) (c := co88) ?_).2.2; exact (hs_ HO252 BK263)); (case side4 => exact (Kd.R_reads' HO252.out).2.1); (case side5 => refine (Kd.R_reads' (e := 70) (base := w.heap.size) (ok := fun k_ => (((True ∧ some k_ ≠ (.slice Ao76 t228.length co76 : Value).ownBlock) ∧ some k_ ≠ (.slice Ao78 t237.length co78 : Value).ownBlock) ∧ some k_ ≠ (.slice Ao87 t247.length co87 : Value).ownBlock)) (n := t257.length) (c := co96) ?_).2.2; exact (hs_ HO259 BK263)); (case side6 => exact (Kd.R_reads' HO259.out).2.1); (case side7 => refine (Kd.R_reads' (e := 74) (base := w.heap.size) (ok := fun k_ => (((True ∧ some k_ ≠ (.slice Ao77 t231.length co77 : Value).ownBlock) ∧ some k_ ≠ (.slice Ao79 t240.length co79 : Value).ownBlock) ∧ some k_ ≠ (.slice Ao88 t250.length co88 : Value).ownBlock)) (n := t260.length) (c := co97) ?_).2.2; exact (hs_ HO262 BK263)); (case side8 => exact (Kd.R_reads' HO262.out).2.1); rintro e w99 ⟨rfl, hb⟩; refine ⟨_, rfl, ?_⟩; replace HO230 := rs_ HO230 BK263 hb; replace HO233 := rs_ HO233 BK263 hb; replace HO239 := rs_ HO239 BK263 hb; replace HO242 := rs_ HO242 BK263 hb; replace HO249 := rs_ HO249 BK263 hb; replace HO252 := rs_ HO252 BK263 hb; replace HO259 := rs_ HO259 BK263 hb; replace HO262 := rs_ HO262 BK263 hb; replace BK221 := bf_ BK221 NB221_263 hb; replace BK222 := bf_ BK222 NB222_263 hb; replace BK253 := bf_ BK253 NB253_263 hb; replace BK263 := Aside0.mk (blk_below (g := gb263) (o := .cells #[.int .i64 t254, .int .i64 t255, .int .i64 t256, .slice Ao96 t257.length co96, .slice Ao97 t260.length co97] 31 (0, 0)) (by (with_reducible repeat (first | refine blk_drewN ?_ _ | refine blk_drew ?_ | refine blk_alloc ?_ _)); refine blk_put (cs := #[.int .i64 t254, .int .i64 t255, .int .i64 t256, .slice Ao96 t257.length co96, .slice none 0 0]) ?_ 4 _ rfl; (with_reducible repeat (first | refine blk_drewN ?_ _ | refine blk_drew ?_ | refine blk_alloc ?_ _)); refine blk_put (cs := #[.int .i64 t254, .int .i64 t255, .int .i64 t256, .slice none 0 0, .slice none 0 0]) ?_ 3 _ rfl; (with_reducible repeat (first | refine blk_drewN ?_ _ | refine blk_drew ?_ | refine blk_alloc ?_ _)); refine blk_put (cs := #[.int .i64 t254, .int .i64 t255, .int .i64 0, .slice none 0 0, .slice none 0 0]) ?_ 2 _ rfl; (with_reducible repeat (first | refine blk_drewN ?_ _ | refine blk_drew ?_ | refine blk_alloc ?_ _)); refine blk_put (cs := #[.int .i64 t254, .int .i64 0, .int .i64 0, .slice none 0 0, .slice none 0 0]) ?_ 1 _ rfl; (with_reducible repeat (first | refine blk_drewN ?_ _ | refine blk_drew ?_ | refine blk_alloc ?_ _)); refine blk_put (cs := #[.int .i64 0, .int .i64 0, .int .i64 0, .slice none 0 0, .slice none 0 0]) ?_ 0 _ rfl; (with_reducible repeat (first | refine blk_drewN ?_ _ | refine blk_drew ?_ | refine blk_alloc ?_ _)); exact BK263.out) hb); replace HB := Aside0.mk (bt_ HB hb); (try clear hb); (try clear hb2); (try clear hk); (try clear hi)))
      replace HO230 := Aside0.mk (Kd.R_drew HO230.out)
      replace HO233 := Aside0.mk (Kd.R_drew HO233.out)
      replace HO239 := Aside0.mk (Kd.R_drew HO239.out)
      replace HO242 := Aside0.mk (Kd.R_drew HO242.out)
      replace HO249 := Aside0.mk (Kd.R_drew HO249.out)
      replace HO252 := Aside0.mk (Kd.R_drew HO252.out)
      replace HO259 := Aside0.mk (Kd.R_drew HO259.out)
      replace HO262 := Aside0.mk (Kd.R_drew HO262.out)
      replace BK221 := Aside0.mk (blk_drew BK221.out)
      replace BK222 := Aside0.mk (blk_drew BK222.out)
      replace BK253 := Aside0.mk (blk_drew BK253.out)
      replace BK263 := Aside0.mk (blk_drew BK263.out)
      replace HB := Aside0.mk (below_drew1 HB.out)
      refine start_ (n := 5) (S := fun w' => w'.cell? ⟨gb253, 0, none⟩ = some (.int .i64 t244) ∧ w'.cell? ⟨gb253, 1, none⟩ = some (.int .i64 t245) ∧ w'.cell? ⟨gb253, 2, none⟩ = some (.int .i64 t246) ∧ w'.cell? ⟨gb253, 3, none⟩ = some (.slice Ao87 t247.length co87) ∧ w'.cell? ⟨gb253, 4, none⟩ = some (.slice Ao88 t250.length co88) ∧ w'.cell? ⟨gb221, 0, none⟩ = some (.int .i64 a0_0) ∧ w'.cell? ⟨gb221, 1, none⟩ = some (.int .i64 a0_1) ∧ w'.cell? ⟨gb221, 2, none⟩ = some (.int .i64 a0_2) ∧ w'.cell? ⟨gb221, 3, none⟩ = some (.slice A0_3 l0_3.length c0_3) ∧ w'.cell? ⟨gb221, 4, none⟩ = some (.slice A0_4 l0_4.length c0_4)) (ds := []) ba13_7 (by kernel_rfl) rfl rfl ⟨(blk_cell BK253.out 0).trans rfl, (blk_cell BK253.out 1).trans rfl, (blk_cell BK253.out 2).trans rfl, (blk_cell BK253.out 3).trans rfl, (blk_cell BK253.out 4).trans rfl, (blk_cell BK221.out 0).trans rfl, (blk_cell BK221.out 1).trans rfl, (blk_cell BK221.out 2).trans rfl, (blk_cell BK221.out 3).trans rfl, (blk_cell BK221.out 4).trans rfl⟩ (fun hHeld => ?_)
      generalize w99.drew = w100 at HO230 HO233 HO239 HO242 HO249 HO252 HO259 HO262 BK221 BK222 BK253 BK263 HB hHeld ⊢
      refine take_ (i := 0) (N := some 35) (v := ?_) (a' := ?_) ba13_8 rfl rfl (by kernel_rfl) (fun _ _ _ h => h) (Or.inl ⟨by rfl, ?_⟩) hHeld ?_ ?_
      rotate_left; · rintro w' ⟨s0, s1, s2, s3, s4, s5, s6, s7, s8, s9⟩; go_simp; with_reducible rfl
      rotate_left; · simp only [Act.put, List.setIfInBounds_toArray, List.set_cons_zero, List.set_cons_succ, i64_w, i32_w]; rfl
      refine take_ (i := 1) (N := some 36) (v := ?_) (a' := ?_) ba13_9 rfl rfl (by kernel_rfl) (fun _ _ _ h => h) (Or.inl ⟨by rfl, ?_⟩) hHeld ?_ ?_
      rotate_left; · rintro w' ⟨s0, s1, s2, s3, s4, s5, s6, s7, s8, s9⟩; go_simp; with_reducible rfl
      rotate_left; · simp only [Act.put, List.setIfInBounds_toArray, List.set_cons_zero, List.set_cons_succ, i64_w, i32_w]; rfl
      refine one_ (i := 2) (N := some 37) ba13_10 rfl rfl (by kernel_rfl) (by decide) (fun K hK => ?_)
      refine gz_ Try.func15 #[.agg #[.int .i64 a0_0, .int .i64 a0_1, .int .i64 a0_2, .slice A0_3 l0_3.length c0_3, .slice A0_4 l0_4.length c0_4]] ?_
      with_reducible refine (laws_toLsa.calls k a0_0 a0_1 a0_2 _ _ l0_3 _ _ l0_4 t265 t266 t267 t268 t271 _ ?side1 ?side2 ?side3 ?side4 A60.out).mono ?_
      (case side1 => exact cb_ HR0_3 HB)
      (case side2 => exact HC0_3.out)
      (case side3 => exact cb_ HR0_4 HB)
      (case side4 => exact HC0_4.out)
      rintro e w101 ⟨v269, v272, rfl, ho0, ho1, hb⟩
      refine ⟨_, rfl, ?_⟩
      have HO270 := Aside0.mk (Kd.R_lower (Kd.R_new' (Kd.R_new' (Kd.R_new' (Kd.R_new' ho0 (Kd.R_lt (hd_ HO230))) (Kd.R_lt (hd_ HO239))) (Kd.R_lt (hd_ HO249))) (Kd.R_lt (hd_ HO259))) (bz_ HB))
      have HO273 := Aside0.mk (Kd.R_lower (Kd.R_new' (Kd.R_new' (Kd.R_new' (Kd.R_new' ho1 (Kd.R_lt (hd_ HO233))) (Kd.R_lt (hd_ HO242))) (Kd.R_lt (hd_ HO252))) (Kd.R_lt (hd_ HO262))) (bz_ HB))
      replace HO230 := Aside0.mk (Kd.R_elder' (hd_ HO230) (Kd.R_base ho0) hb)
      replace HO239 := Aside0.mk (Kd.R_elder' (hd_ HO239) (Kd.R_base ho0) hb)
      replace HO249 := Aside0.mk (Kd.R_elder' (hd_ HO249) (Kd.R_base ho0) hb)
      replace HO259 := Aside0.mk (Kd.R_elder' (hd_ HO259) (Kd.R_base ho0) hb)
      replace HO233 := Aside0.mk (Kd.R_elder' (hd_ HO233) (Kd.R_base ho1) hb)
      replace HO242 := Aside0.mk (Kd.R_elder' (hd_ HO242) (Kd.R_base ho1) hb)
      replace HO252 := Aside0.mk (Kd.R_elder' (hd_ HO252) (Kd.R_base ho1) hb)
      replace HO262 := Aside0.mk (Kd.R_elder' (hd_ HO262) (Kd.R_base ho1) hb)
      replace BK221 := Aside0.mk (bb_ BK221 hb)
      replace BK222 := Aside0.mk (bb_ BK222 hb)
      replace BK253 := Aside0.mk (bb_ BK253 hb)
      replace BK263 := Aside0.mk (bb_ BK263 hb)
      replace HB := Aside0.mk (bt_ HB hb)
      (try clear hb)
      (try clear hb2)
      (try clear hk)
      (try clear hi)
      (try clear ho0)
      (try clear ho1)
      obtain ⟨Ao102, co102, eo102⟩ := Kd.R_slice HO270.out
      (first | subst eo102 | (injection eo102 with f1_ f2_ f3_; have f4_ := f1_.symm; have f5_ := f3_.symm; clear f1_ f2_ f3_; subst f4_; subst f5_))
      obtain ⟨Ao103, co103, eo103⟩ := Kd.R_slice HO273.out
      (first | subst eo103 | (injection eo103 with f1_ f2_ f3_; have f4_ := f1_.symm; have f5_ := f3_.symm; clear f1_ f2_ f3_; subst f4_; subst f5_))
      refine hK.out _ _ ⟨(blk_cell BK253.out 0).trans rfl, (blk_cell BK253.out 1).trans rfl, (blk_cell BK253.out 2).trans rfl, (blk_cell BK253.out 3).trans rfl, (blk_cell BK253.out 4).trans rfl, (blk_cell BK221.out 0).trans rfl, (blk_cell BK221.out 1).trans rfl, (blk_cell BK221.out 2).trans rfl, (blk_cell BK221.out 3).trans rfl, (blk_cell BK221.out 4).trans rfl⟩ (fun hHeld => ?_)
      clear hK K
      refine nz_ 37 ?_
      refine one_ (i := 3) (N := some 38) ba13_11 rfl rfl (by kernel_rfl) (by decide) (fun K hK => ?_)
      refine gz_ Try.func17 #[.agg #[.int .i64 t244, .int .i64 t245, .int .i64 t246, .slice Ao87 t247.length co87, .slice Ao88 t250.length co88], .agg #[.int .i64 t265, .int .i64 t266, .int .i64 t267, .slice Ao102 t268.length co102, .slice Ao103 t271.length co103]] ?_
      with_reducible refine (laws_eqLsa.calls k t244 t245 t246 _ _ t247 _ _ t250 t265 t266 t267 _ _ t268 _ _ t271 true _ ?side1 ?side2 ?side3 ?side4 ?side5 ?side6 ?side7 ?side8 A61.out).mono ?_
      (case side1 => exact rc_ HO249)
      (case side2 => exact (Kd.R_reads' HO249.out).2.1)
      (case side3 => exact rc_ HO252)
      (case side4 => exact (Kd.R_reads' HO252.out).2.1)
      (case side5 => exact rc_ HO270)
      (case side6 => exact (Kd.R_reads' HO270.out).2.1)
      (case side7 => exact rc_ HO273)
      (case side8 => exact (Kd.R_reads' HO273.out).2.1)
      rintro e w104 ⟨rfl, hb⟩
      refine ⟨_, rfl, ?_⟩
      replace HO230 := rb_ HO230 hb
      replace HO233 := rb_ HO233 hb
      replace HO239 := rb_ HO239 hb
      replace HO242 := rb_ HO242 hb
      replace HO249 := rb_ HO249 hb
      replace HO252 := rb_ HO252 hb
      replace HO259 := rb_ HO259 hb
      replace HO262 := rb_ HO262 hb
      replace HO270 := rb_ HO270 hb
      replace HO273 := rb_ HO273 hb
      replace BK221 := Aside0.mk (bb_ BK221 hb)
      replace BK222 := Aside0.mk (bb_ BK222 hb)
      replace BK253 := Aside0.mk (bb_ BK253 hb)
      replace BK263 := Aside0.mk (bb_ BK263 hb)
      replace HB := Aside0.mk (bt_ HB hb)
      (try clear hb)
      (try clear hb2)
      (try clear hk)
      (try clear hi)
      refine hK.out _ _ ⟨(blk_cell BK253.out 0).trans rfl, (blk_cell BK253.out 1).trans rfl, (blk_cell BK253.out 2).trans rfl, (blk_cell BK253.out 3).trans rfl, (blk_cell BK253.out 4).trans rfl, (blk_cell BK221.out 0).trans rfl, (blk_cell BK221.out 1).trans rfl, (blk_cell BK221.out 2).trans rfl, (blk_cell BK221.out 3).trans rfl, (blk_cell BK221.out 4).trans rfl⟩ (fun hHeld => ?_)
      clear hK K
      refine nz_ 38 ?_
      refine pure_ (i := 4) (N := some 39) (v := ?_) (a' := ?_) ba13_12 rfl rfl (by kernel_rfl) (fun _ _ _ h => h) (Or.inl ⟨by rfl, ?_⟩) ?_ ?_
      rotate_left; · intro w'; go_simp; with_reducible rfl
      rotate_left; · simp only [Act.put, List.setIfInBounds_toArray, List.set_cons_zero, List.set_cons_succ, i64_w, i32_w]; rfl
      refine done_ (by kernel_rfl) ?_
      try go_wp2
      replace HO230 := Aside0.mk (Kd.R_drew HO230.out)
      replace HO233 := Aside0.mk (Kd.R_drew HO233.out)
      replace HO239 := Aside0.mk (Kd.R_drew HO239.out)
      replace HO242 := Aside0.mk (Kd.R_drew HO242.out)
      replace HO249 := Aside0.mk (Kd.R_drew HO249.out)
      replace HO252 := Aside0.mk (Kd.R_drew HO252.out)
      replace HO259 := Aside0.mk (Kd.R_drew HO259.out)
      replace HO262 := Aside0.mk (Kd.R_drew HO262.out)
      replace HO270 := Aside0.mk (Kd.R_drew HO270.out)
      replace HO273 := Aside0.mk (Kd.R_drew HO273.out)
      replace BK221 := Aside0.mk (blk_drew BK221.out)
      replace BK222 := Aside0.mk (blk_drew BK222.out)
      replace BK253 := Aside0.mk (blk_drew BK253.out)
      replace BK263 := Aside0.mk (blk_drew BK263.out)
      replace HB := Aside0.mk (below_drew1 HB.out)
      refine start_ (n := 5) (S := fun w' => w'.cell? ⟨gb263, 0, none⟩ = some (.int .i64 t254) ∧ w'.cell? ⟨gb263, 1, none⟩ = some (.int .i64 t255) ∧ w'.cell? ⟨gb263, 2, none⟩ = some (.int .i64 t256) ∧ w'.cell? ⟨gb263, 3, none⟩ = some (.slice Ao96 t257.length co96) ∧ w'.cell? ⟨gb263, 4, none⟩ = some (.slice Ao97 t260.length co97) ∧ w'.cell? ⟨gb222, 0, none⟩ = some (.int .i64 a1_0) ∧ w'.cell? ⟨gb222, 1, none⟩ = some (.int .i64 a1_1) ∧ w'.cell? ⟨gb222, 2, none⟩ = some (.int .i64 a1_2) ∧ w'.cell? ⟨gb222, 3, none⟩ = some (.slice A1_3 l1_3.length c1_3) ∧ w'.cell? ⟨gb222, 4, none⟩ = some (.slice A1_4 l1_4.length c1_4)) (ds := []) ba13_7 (by kernel_rfl) rfl rfl ⟨(blk_cell BK263.out 0).trans rfl, (blk_cell BK263.out 1).trans rfl, (blk_cell BK263.out 2).trans rfl, (blk_cell BK263.out 3).trans rfl, (blk_cell BK263.out 4).trans rfl, (blk_cell BK222.out 0).trans rfl, (blk_cell BK222.out 1).trans rfl, (blk_cell BK222.out 2).trans rfl, (blk_cell BK222.out 3).trans rfl, (blk_cell BK222.out 4).trans rfl⟩ (fun hHeld => ?_)
      generalize w104.drew = w105 at HO230 HO233 HO239 HO242 HO249 HO252 HO259 HO262 HO270 HO273 BK221 BK222 BK253 BK263 HB hHeld ⊢
      refine take_ (i := 0) (N := some 40) (v := ?_) (a' := ?_) ba13_8 rfl rfl (by kernel_rfl) (fun _ _ _ h => h) (Or.inl ⟨by rfl, ?_⟩) hHeld ?_ ?_
      rotate_left; · rintro w' ⟨s0, s1, s2, s3, s4, s5, s6, s7, s8, s9⟩; go_simp; with_reducible rfl
      rotate_left; · simp only [Act.put, List.setIfInBounds_toArray, List.set_cons_zero, List.set_cons_succ, i64_w, i32_w]; rfl
      refine take_ (i := 1) (N := some 41) (v := ?_) (a' := ?_) ba13_9 rfl rfl (by kernel_rfl) (fun _ _ _ h => h) (Or.inl ⟨by rfl, ?_⟩) hHeld ?_ ?_
      rotate_left; · rintro w' ⟨s0, s1, s2, s3, s4, s5, s6, s7, s8, s9⟩; go_simp; with_reducible rfl
      rotate_left; · simp only [Act.put, List.setIfInBounds_toArray, List.set_cons_zero, List.set_cons_succ, i64_w, i32_w]; rfl
      refine one_ (i := 2) (N := some 42) ba13_10 rfl rfl (by kernel_rfl) (by decide) (fun K hK => ?_)
      refine gz_ Try.func15 #[.agg #[.int .i64 a1_0, .int .i64 a1_1, .int .i64 a1_2, .slice A1_3 l1_3.length c1_3, .slice A1_4 l1_4.length c1_4]] ?_
      with_reducible refine (laws_toLsa.calls k a1_0 a1_1 a1_2 _ _ l1_3 _ _ l1_4 t275 t276 t277 t278 t281 _ ?side1 ?side2 ?side3 ?side4 A63.out).mono ?_
      (case side1 => exact cb_ HR1_3 HB)
      (case side2 => exact HC1_3.out)
      (case side3 => exact cb_ HR1_4 HB)
      (case side4 => exact HC1_4.out)
      rintro e w106 ⟨v279, v282, rfl, ho0, ho1, hb⟩
      refine ⟨_, rfl, ?_⟩
      have HO280 := Aside0.mk (Kd.R_lower (Kd.R_new' (Kd.R_new' (Kd.R_new' (Kd.R_new' (Kd.R_new' ho0 (Kd.R_lt (hd_ HO230))) (Kd.R_lt (hd_ HO239))) (Kd.R_lt (hd_ HO249))) (Kd.R_lt (hd_ HO259))) (Kd.R_lt (hd_ HO270))) (bz_ HB))
      have HO283 := Aside0.mk (Kd.R_lower (Kd.R_new' (Kd.R_new' (Kd.R_new' (Kd.R_new' (Kd.R_new' ho1 (Kd.R_lt (hd_ HO233))) (Kd.R_lt (hd_ HO242))) (Kd.R_lt (hd_ HO252))) (Kd.R_lt (hd_ HO262))) (Kd.R_lt (hd_ HO273))) (bz_ HB))
      replace HO230 := Aside0.mk (Kd.R_elder' (hd_ HO230) (Kd.R_base ho0) hb)
      replace HO239 := Aside0.mk (Kd.R_elder' (hd_ HO239) (Kd.R_base ho0) hb)
      replace HO249 := Aside0.mk (Kd.R_elder' (hd_ HO249) (Kd.R_base ho0) hb)
      replace HO259 := Aside0.mk (Kd.R_elder' (hd_ HO259) (Kd.R_base ho0) hb)
      replace HO270 := Aside0.mk (Kd.R_elder' (hd_ HO270) (Kd.R_base ho0) hb)
      replace HO233 := Aside0.mk (Kd.R_elder' (hd_ HO233) (Kd.R_base ho1) hb)
      replace HO242 := Aside0.mk (Kd.R_elder' (hd_ HO242) (Kd.R_base ho1) hb)
      replace HO252 := Aside0.mk (Kd.R_elder' (hd_ HO252) (Kd.R_base ho1) hb)
      replace HO262 := Aside0.mk (Kd.R_elder' (hd_ HO262) (Kd.R_base ho1) hb)
      replace HO273 := Aside0.mk (Kd.R_elder' (hd_ HO273) (Kd.R_base ho1) hb)
      replace BK221 := Aside0.mk (bb_ BK221 hb)
      replace BK222 := Aside0.mk (bb_ BK222 hb)
      replace BK253 := Aside0.mk (bb_ BK253 hb)
      replace BK263 := Aside0.mk (bb_ BK263 hb)
      replace HB := Aside0.mk (bt_ HB hb)
      (try clear hb)
      (try clear hb2)
      (try clear hk)
      (try clear hi)
      (try clear ho0)
      (try clear ho1)
      obtain ⟨Ao107, co107, eo107⟩ := Kd.R_slice HO280.out
      (first | subst eo107 | (injection eo107 with f1_ f2_ f3_; have f4_ := f1_.symm; have f5_ := f3_.symm; clear f1_ f2_ f3_; subst f4_; subst f5_))
      obtain ⟨Ao108, co108, eo108⟩ := Kd.R_slice HO283.out
      (first | subst eo108 | (injection eo108 with f1_ f2_ f3_; have f4_ := f1_.symm; have f5_ := f3_.symm; clear f1_ f2_ f3_; subst f4_; subst f5_))
      refine hK.out _ _ ⟨(blk_cell BK263.out 0).trans rfl, (blk_cell BK263.out 1).trans rfl, (blk_cell BK263.out 2).trans rfl, (blk_cell BK263.out 3).trans rfl, (blk_cell BK263.out 4).trans rfl, (blk_cell BK222.out 0).trans rfl, (blk_cell BK222.out 1).trans rfl, (blk_cell BK222.out 2).trans rfl, (blk_cell BK222.out 3).trans rfl, (blk_cell BK222.out 4).trans rfl⟩ (fun hHeld => ?_)
      clear hK K
      refine nz_ 42 ?_
      refine one_ (i := 3) (N := some 43) ba13_11 rfl rfl (by kernel_rfl) (by decide) (fun K hK => ?_)
      refine gz_ Try.func17 #[.agg #[.int .i64 t254, .int .i64 t255, .int .i64 t256, .slice Ao96 t257.length co96, .slice Ao97 t260.length co97], .agg #[.int .i64 t275, .int .i64 t276, .int .i64 t277, .slice Ao107 t278.length co107, .slice Ao108 t281.length co108]] ?_
      with_reducible refine (laws_eqLsa.calls k t254 t255 t256 _ _ t257 _ _ t260 t275 t276 t277 _ _ t278 _ _ t281 true _ ?side1 ?side2 ?side3 ?side4 ?side5 ?side6 ?side7 ?side8 A64.out).mono ?_
      (case side1 => exact rc_ HO259)
      (case side2 => exact (Kd.R_reads' HO259.out).2.1)
      (case side3 => exact rc_ HO262)
      (case side4 => exact (Kd.R_reads' HO262.out).2.1)
      (case side5 => exact rc_ HO280)
      (case side6 => exact (Kd.R_reads' HO280.out).2.1)
      (case side7 => exact rc_ HO283)
      (case side8 => exact (Kd.R_reads' HO283.out).2.1)
      rintro e w109 ⟨rfl, hb⟩
      refine ⟨_, rfl, ?_⟩
      replace HO230 := rb_ HO230 hb
      replace HO233 := rb_ HO233 hb
      replace HO239 := rb_ HO239 hb
      replace HO242 := rb_ HO242 hb
      replace HO249 := rb_ HO249 hb
      replace HO252 := rb_ HO252 hb
      replace HO259 := rb_ HO259 hb
      replace HO262 := rb_ HO262 hb
      replace HO270 := rb_ HO270 hb
      replace HO273 := rb_ HO273 hb
      replace HO280 := rb_ HO280 hb
      replace HO283 := rb_ HO283 hb
      replace BK221 := Aside0.mk (bb_ BK221 hb)
      replace BK222 := Aside0.mk (bb_ BK222 hb)
      replace BK253 := Aside0.mk (bb_ BK253 hb)
      replace BK263 := Aside0.mk (bb_ BK263 hb)
      replace HB := Aside0.mk (bt_ HB hb)
      (try clear hb)
      (try clear hb2)
      (try clear hk)
      (try clear hi)
      refine hK.out _ _ ⟨(blk_cell BK263.out 0).trans rfl, (blk_cell BK263.out 1).trans rfl, (blk_cell BK263.out 2).trans rfl, (blk_cell BK263.out 3).trans rfl, (blk_cell BK263.out 4).trans rfl, (blk_cell BK222.out 0).trans rfl, (blk_cell BK222.out 1).trans rfl, (blk_cell BK222.out 2).trans rfl, (blk_cell BK222.out 3).trans rfl, (blk_cell BK222.out 4).trans rfl⟩ (fun hHeld => ?_)
      clear hK K
      refine nz_ 43 ?_
      refine pure_ (i := 4) (N := some 44) (v := ?_) (a' := ?_) ba13_12 rfl rfl (by kernel_rfl) (fun _ _ _ h => h) (Or.inl ⟨by rfl, ?_⟩) ?_ ?_
      rotate_left; · intro w'; go_simp; with_reducible rfl
      rotate_left; · simp only [Act.put, List.setIfInBounds_toArray, List.set_cons_zero, List.set_cons_succ, i64_w, i32_w]; rfl
      refine done_ (by kernel_rfl) ?_
      try go_wp2
      go_ret
      exact ⟨by first | rfl | (simp [errW_none, errW_some] <;> rfl) | (simp [*, errW_none, errW_some] <;> rfl), by repeat (first | (with_reducible first | exact HB.out | apply below_alloc | apply pw_below_drewN | apply below_drew1 | refine below_set ?_ GE221.out | refine below_set ?_ GE222.out | refine below_set ?_ GE253.out | refine below_set ?_ GE263.out) | exact HB.out)⟩
     ·replace c65 := Bool.eq_false_iff.mpr c65
      subst c65
      rw [if_neg (show ¬ (false = true) by decide)] at H
      obtain rfl := Option.some.inj H
      go_enter Try.func4, Try.ntmps4
      try go_wp2_with (first | ((with_reducible refine gate_dst (N := 2) rfl ?_); refine box_event ?hg (N := 2) ?hd (cs := #[.int .i64 a0_0, .int .i64 a0_1, .int .i64 a0_2, .slice A0_3 l0_3.length c0_3, .slice A0_4 l0_4.length c0_4]) (t := 25) ?hr ?_; (case hd => rfl); (case hg => rfl); (case hr => first | (go_simp; done) | (go_simp; rfl)); intro gb221 hg w110 hbox hb; have BK221 := Aside0.mk hbox; have GW221 := ge_ HB hg; have GE221 := ge_ HB hg; replace HB := Aside0.mk (bt_ HB hb); clear hb hbox hg) | ((with_reducible refine gate_dst (N := 3) rfl ?_); refine box_event ?hg (N := 3) ?hd (cs := #[.int .i64 a1_0, .int .i64 a1_1, .int .i64 a1_2, .slice A1_3 l1_3.length c1_3, .slice A1_4 l1_4.length c1_4]) (t := 25) ?hr ?_; (case hd => rfl); (case hg => rfl); (case hr => first | (go_simp; done) | (go_simp; rfl)); intro gb222 hg w111 hbox hb; have BK222 := Aside0.mk hbox; have GW222 := ge_ HB hg; have GE222 := ge_ HB hg; have NB221_222 := nl_ BK221 hg; have NB222_221 := ng_ BK221 hg; replace HB := Aside0.mk (bt_ HB hb); replace BK221 := Aside0.mk (bb_ BK221 hb); clear hb hbox hg; have hnb112 := NB221_222.out; have hnc112 := NB222_221.out; have hcz113_0 := cz_ BK221 0 (.int .i64 a0_0); have hcz113_1 := cz_ BK221 1 (.int .i64 a0_1); have hcz113_2 := cz_ BK221 2 (.int .i64 a0_2); have hcz113_3 := cz_ BK221 3 (.slice A0_3 l0_3.length c0_3); have hcz113_4 := cz_ BK221 4 (.slice A0_4 l0_4.length c0_4); have hfz113_0 := blk_frozen BK221.out 0; have hfz113_1 := blk_frozen BK221.out 1; have hfz113_2 := blk_frozen BK221.out 2; have hfz113_3 := blk_frozen BK221.out 3; have hfz113_4 := blk_frozen BK221.out 4) | ((with_reducible refine gate_callee (f := 13) rfl ?_); refine gl_ (some 12) Try.func13 #[.agg #[.int .i64 a0_0, .int .i64 a0_1, .int .i64 a0_2, .slice A0_3 l0_3.length c0_3, .slice A0_4 l0_4.length c0_4], .int .i64 1048576] ?_; (with_reducible refine (laws_szLsa.calls a0_0 a0_1 a0_2 _ _ l0_3 _ _ l0_4 1048576 t223 _ ?side1 ?side2 ?side3 ?side4 A3.out).mono ?_); (case side1 => exact cb_ HR0_3 HB); (case side2 => exact HC0_3.out); (case side3 => exact cb_ HR0_4 HB); (case side4 => exact HC0_4.out); rintro e w114 ⟨rfl, hb⟩; refine ⟨_, rfl, ?_⟩; replace BK221 := Aside0.mk (bb_ BK221 hb); replace BK222 := Aside0.mk (bb_ BK222 hb); replace HB := Aside0.mk (bt_ HB hb); (try clear hb); (try clear hb2); (try clear hk); (try clear hi); have hcz115_0 := cz_ BK222 0 (.int .i64 a1_0); have hcz115_1 := cz_ BK222 1 (.int .i64 a1_1); have hcz115_2 := cz_ BK222 2 (.int .i64 a1_2); have hcz115_3 := cz_ BK222 3 (.slice A1_3 l1_3.length c1_3); have hcz115_4 := cz_ BK222 4 (.slice A1_4 l1_4.length c1_4); have hfz115_0 := blk_frozen BK222.out 0; have hfz115_1 := blk_frozen BK222.out 1; have hfz115_2 := blk_frozen BK222.out 2; have hfz115_3 := blk_frozen BK222.out 3; have hfz115_4 := blk_frozen BK222.out 4) | ((with_reducible refine gate_callee (f := 13) rfl ?_); refine gl_ (some 17) Try.func13 #[.agg #[.int .i64 a1_0, .int .i64 a1_1, .int .i64 a1_2, .slice A1_3 l1_3.length c1_3, .slice A1_4 l1_4.length c1_4], .int .i64 t223] ?_; (with_reducible refine (laws_szLsa.calls a1_0 a1_1 a1_2 _ _ l1_3 _ _ l1_4 t223 t224 _ ?side1 ?side2 ?side3 ?side4 A10.out).mono ?_); (case side1 => exact cb_ HR1_3 HB); (case side2 => exact HC1_3.out); (case side3 => exact cb_ HR1_4 HB); (case side4 => exact HC1_4.out); rintro e w116 ⟨rfl, hb⟩; refine ⟨_, rfl, ?_⟩; replace BK221 := Aside0.mk (bb_ BK221 hb); replace BK222 := Aside0.mk (bb_ BK222 hb); replace HB := Aside0.mk (bt_ HB hb); (try clear hb); (try clear hb2); (try clear hk); (try clear hi)))
      replace BK221 := Aside0.mk (blk_drew BK221.out)
      replace BK222 := Aside0.mk (blk_drew BK222.out)
      replace HB := Aside0.mk (below_drew1 HB.out)
      refine start_ (n := 6) (S := fun w' => w'.cell? ⟨gb221, 0, none⟩ = some (.int .i64 a0_0) ∧ w'.cell? ⟨gb221, 1, none⟩ = some (.int .i64 a0_1) ∧ w'.cell? ⟨gb221, 2, none⟩ = some (.int .i64 a0_2) ∧ w'.cell? ⟨gb221, 3, none⟩ = some (.slice A0_3 l0_3.length c0_3) ∧ w'.cell? ⟨gb221, 4, none⟩ = some (.slice A0_4 l0_4.length c0_4) ∧ w'.cell? ⟨gb222, 0, none⟩ = some (.int .i64 a1_0) ∧ w'.cell? ⟨gb222, 1, none⟩ = some (.int .i64 a1_1) ∧ w'.cell? ⟨gb222, 2, none⟩ = some (.int .i64 a1_2) ∧ w'.cell? ⟨gb222, 3, none⟩ = some (.slice A1_3 l1_3.length c1_3) ∧ w'.cell? ⟨gb222, 4, none⟩ = some (.slice A1_4 l1_4.length c1_4)) (ds := []) ba13_0 (by kernel_rfl) rfl rfl ⟨(blk_cell BK221.out 0).trans rfl, (blk_cell BK221.out 1).trans rfl, (blk_cell BK221.out 2).trans rfl, (blk_cell BK221.out 3).trans rfl, (blk_cell BK221.out 4).trans rfl, (blk_cell BK222.out 0).trans rfl, (blk_cell BK222.out 1).trans rfl, (blk_cell BK222.out 2).trans rfl, (blk_cell BK222.out 3).trans rfl, (blk_cell BK222.out 4).trans rfl⟩ (fun hHeld => ?_)
      generalize w116.drew = w117 at BK221 BK222 HB hHeld ⊢
      refine take_ (i := 0) (N := some 20) (v := ?_) (a' := ?_) ba13_1 rfl rfl (by kernel_rfl) (fun _ _ _ h => h) (Or.inl ⟨by rfl, ?_⟩) hHeld ?_ ?_
      rotate_left; · rintro w' ⟨s0, s1, s2, s3, s4, s5, s6, s7, s8, s9⟩; go_simp; with_reducible rfl
      rotate_left; · simp only [Act.put, List.setIfInBounds_toArray, List.set_cons_zero, List.set_cons_succ, i64_w, i32_w]; rfl
      refine take_ (i := 2) (N := some 22) (v := ?_) (a' := ?_) ba13_2 rfl rfl (by kernel_rfl) (fun _ _ _ h => h) (Or.inl ⟨by rfl, ?_⟩) hHeld ?_ ?_
      rotate_left; · rintro w' ⟨s0, s1, s2, s3, s4, s5, s6, s7, s8, s9⟩; go_simp; with_reducible rfl
      rotate_left; · simp only [Act.put, List.setIfInBounds_toArray, List.set_cons_zero, List.set_cons_succ, i64_w, i32_w]; rfl
      refine one_ (i := 1) (N := some 21) ba13_3 rfl rfl (by kernel_rfl) (by decide) (fun K hK => ?_)
      refine gz_ Try.func15 #[.agg #[.int .i64 a0_0, .int .i64 a0_1, .int .i64 a0_2, .slice A0_3 l0_3.length c0_3, .slice A0_4 l0_4.length c0_4]] ?_
      with_reducible refine (laws_toLsa.calls k a0_0 a0_1 a0_2 _ _ l0_3 _ _ l0_4 t225 t226 t227 t228 t231 _ ?side1 ?side2 ?side3 ?side4 A19.out).mono ?_
      (case side1 => exact cb_ HR0_3 HB)
      (case side2 => exact HC0_3.out)
      (case side3 => exact cb_ HR0_4 HB)
      (case side4 => exact HC0_4.out)
      rintro e w118 ⟨v229, v232, rfl, ho0, ho1, hb⟩
      refine ⟨_, rfl, ?_⟩
      have HO230 := Aside0.mk (Kd.R_lower ho0 (bz_ HB))
      have HO233 := Aside0.mk (Kd.R_lower ho1 (bz_ HB))
      replace BK221 := Aside0.mk (bb_ BK221 hb)
      replace BK222 := Aside0.mk (bb_ BK222 hb)
      replace HB := Aside0.mk (bt_ HB hb)
      (try clear hb)
      (try clear hb2)
      (try clear hk)
      (try clear hi)
      (try clear ho0)
      (try clear ho1)
      refine hK.out _ _ ⟨(blk_cell BK221.out 0).trans rfl, (blk_cell BK221.out 1).trans rfl, (blk_cell BK221.out 2).trans rfl, (blk_cell BK221.out 3).trans rfl, (blk_cell BK221.out 4).trans rfl, (blk_cell BK222.out 0).trans rfl, (blk_cell BK222.out 1).trans rfl, (blk_cell BK222.out 2).trans rfl, (blk_cell BK222.out 3).trans rfl, (blk_cell BK222.out 4).trans rfl⟩ (fun hHeld => ?_)
      clear hK K
      refine nz_ 21 ?_
      refine one_ (i := 3) (N := some 23) ba13_4 rfl rfl (by kernel_rfl) (by decide) (fun K hK => ?_)
      refine gz_ Try.func15 #[.agg #[.int .i64 a1_0, .int .i64 a1_1, .int .i64 a1_2, .slice A1_3 l1_3.length c1_3, .slice A1_4 l1_4.length c1_4]] ?_
      with_reducible refine (laws_toLsa.calls k a1_0 a1_1 a1_2 _ _ l1_3 _ _ l1_4 t234 t235 t236 t237 t240 _ ?side1 ?side2 ?side3 ?side4 A20.out).mono ?_
      (case side1 => exact cb_ HR1_3 HB)
      (case side2 => exact HC1_3.out)
      (case side3 => exact cb_ HR1_4 HB)
      (case side4 => exact HC1_4.out)
      rintro e w119 ⟨v238, v241, rfl, ho0, ho1, hb⟩
      refine ⟨_, rfl, ?_⟩
      have HO239 := Aside0.mk (Kd.R_lower (Kd.R_new' ho0 (Kd.R_lt (hd_ HO230))) (bz_ HB))
      have HO242 := Aside0.mk (Kd.R_lower (Kd.R_new' ho1 (Kd.R_lt (hd_ HO233))) (bz_ HB))
      replace HO230 := Aside0.mk (Kd.R_elder' (hd_ HO230) (Kd.R_base ho0) hb)
      replace HO233 := Aside0.mk (Kd.R_elder' (hd_ HO233) (Kd.R_base ho1) hb)
      replace BK221 := Aside0.mk (bb_ BK221 hb)
      replace BK222 := Aside0.mk (bb_ BK222 hb)
      replace HB := Aside0.mk (bt_ HB hb)
      (try clear hb)
      (try clear hb2)
      (try clear hk)
      (try clear hi)
      (try clear ho0)
      (try clear ho1)
      obtain ⟨Ao120, co120, eo120⟩ := Kd.R_slice HO230.out
      (first | subst eo120 | (injection eo120 with f1_ f2_ f3_; have f4_ := f1_.symm; have f5_ := f3_.symm; clear f1_ f2_ f3_; subst f4_; subst f5_))
      obtain ⟨Ao121, co121, eo121⟩ := Kd.R_slice HO233.out
      (first | subst eo121 | (injection eo121 with f1_ f2_ f3_; have f4_ := f1_.symm; have f5_ := f3_.symm; clear f1_ f2_ f3_; subst f4_; subst f5_))
      obtain ⟨Ao122, co122, eo122⟩ := Kd.R_slice HO239.out
      (first | subst eo122 | (injection eo122 with f1_ f2_ f3_; have f4_ := f1_.symm; have f5_ := f3_.symm; clear f1_ f2_ f3_; subst f4_; subst f5_))
      obtain ⟨Ao123, co123, eo123⟩ := Kd.R_slice HO242.out
      (first | subst eo123 | (injection eo123 with f1_ f2_ f3_; have f4_ := f1_.symm; have f5_ := f3_.symm; clear f1_ f2_ f3_; subst f4_; subst f5_))
      refine hK.out _ _ ⟨(blk_cell BK221.out 0).trans rfl, (blk_cell BK221.out 1).trans rfl, (blk_cell BK221.out 2).trans rfl, (blk_cell BK221.out 3).trans rfl, (blk_cell BK221.out 4).trans rfl, (blk_cell BK222.out 0).trans rfl, (blk_cell BK222.out 1).trans rfl, (blk_cell BK222.out 2).trans rfl, (blk_cell BK222.out 3).trans rfl, (blk_cell BK222.out 4).trans rfl⟩ (fun hHeld => ?_)
      clear hK K
      refine nz_ 23 ?_
      refine one_ (i := 4) (N := some 24) ba13_5 rfl rfl (by kernel_rfl) (by decide) (fun K hK => ?_)
      refine gz_ Try.func18 #[.agg #[.int .i64 t225, .int .i64 t226, .int .i64 t227, .slice Ao120 t228.length co120, .slice Ao121 t231.length co121], .agg #[.int .i64 t234, .int .i64 t235, .int .i64 t236, .slice Ao122 t237.length co122, .slice Ao123 t240.length co123]] ?_
      with_reducible refine (spec_SameWords.calls k t225 t226 t227 _ _ t228 _ _ t231 t234 t235 t236 _ _ t237 _ _ t240 t243 _ ?side1 ?side2 ?side3 ?side4 ?side5 ?side6 ?side7 ?side8 A21.out).mono ?_
      (case side1 => exact rc_ HO230)
      (case side2 => exact (Kd.R_reads' HO230.out).2.1)
      (case side3 => exact rc_ HO233)
      (case side4 => exact (Kd.R_reads' HO233.out).2.1)
      (case side5 => exact rc_ HO239)
      (case side6 => exact (Kd.R_reads' HO239.out).2.1)
      (case side7 => exact rc_ HO242)
      (case side8 => exact (Kd.R_reads' HO242.out).2.1)
      rintro e w124 ⟨rfl, hb⟩
      refine ⟨_, rfl, ?_⟩
      replace HO230 := rb_ HO230 hb
      replace HO233 := rb_ HO233 hb
      replace HO239 := rb_ HO239 hb
      replace HO242 := rb_ HO242 hb
      replace BK221 := Aside0.mk (bb_ BK221 hb)
      replace BK222 := Aside0.mk (bb_ BK222 hb)
      replace HB := Aside0.mk (bt_ HB hb)
      (try clear hb)
      (try clear hb2)
      (try clear hk)
      (try clear hi)
      refine hK.out _ _ ⟨(blk_cell BK221.out 0).trans rfl, (blk_cell BK221.out 1).trans rfl, (blk_cell BK221.out 2).trans rfl, (blk_cell BK221.out 3).trans rfl, (blk_cell BK221.out 4).trans rfl, (blk_cell BK222.out 0).trans rfl, (blk_cell BK222.out 1).trans rfl, (blk_cell BK222.out 2).trans rfl, (blk_cell BK222.out 3).trans rfl, (blk_cell BK222.out 4).trans rfl⟩ (fun hHeld => ?_)
      clear hK K
      refine nz_ 24 ?_
      refine pure_ (i := 5) (N := some 6) (v := ?_) (a' := ?_) ba13_6 rfl rfl (by kernel_rfl) (fun _ _ _ h => h) (Or.inl ⟨by rfl, ?_⟩) ?_ ?_
      rotate_left; · intro w'; go_simp; with_reducible rfl
      rotate_left; · simp only [Act.put, List.setIfInBounds_toArray, List.set_cons_zero, List.set_cons_succ, i64_w, i32_w]; rfl
      refine done_ (by kernel_rfl) ?_
      have hcz125_0 := cz_ BK221 0 (.int .i64 a0_0)
      have hcz125_1 := cz_ BK221 1 (.int .i64 a0_1)
      have hcz125_2 := cz_ BK221 2 (.int .i64 a0_2)
      have hcz125_3 := cz_ BK221 3 (.slice A0_3 l0_3.length c0_3)
      have hcz125_4 := cz_ BK221 4 (.slice A0_4 l0_4.length c0_4)
      have hfz125_0 := blk_frozen BK221.out 0
      have hfz125_1 := blk_frozen BK221.out 1
      have hfz125_2 := blk_frozen BK221.out 2
      have hfz125_3 := blk_frozen BK221.out 3
      have hfz125_4 := blk_frozen BK221.out 4
      try go_wp2_with (first | ((with_reducible refine gate_callee (f := 15) rfl ?_); refine gl_ (some 26) Try.func15 #[.agg #[.int .i64 a0_0, .int .i64 a0_1, .int .i64 a0_2, .slice A0_3 l0_3.length c0_3, .slice A0_4 l0_4.length c0_4]] ?_; (with_reducible refine (laws_toLsa.calls k a0_0 a0_1 a0_2 _ _ l0_3 _ _ l0_4 t244 t245 t246 t247 t250 _ ?side1 ?side2 ?side3 ?side4 A22.out).mono ?_); (case side1 => exact cb_ HR0_3 HB); (case side2 => exact HC0_3.out); (case side3 => exact cb_ HR0_4 HB); (case side4 => exact HC0_4.out); rintro e w126 ⟨v248, v251, rfl, ho0, ho1, hb⟩; refine ⟨_, rfl, ?_⟩; have HO249 := Aside0.mk (Kd.R_lower (Kd.R_new' (Kd.R_new' ho0 (Kd.R_lt (hd_ HO230))) (Kd.R_lt (hd_ HO239))) (bz_ HB)); have HO252 := Aside0.mk (Kd.R_lower (Kd.R_new' (Kd.R_new' ho1 (Kd.R_lt (hd_ HO233))) (Kd.R_lt (hd_ HO242))) (bz_ HB)); replace HO230 := Aside0.mk (Kd.R_elder' (hd_ HO230) (Kd.R_base ho0) hb); replace HO239 := Aside0.mk (Kd.R_elder' (hd_ HO239) (Kd.R_base ho0) hb); replace HO233 := Aside0.mk (Kd.R_elder' (hd_ HO233) (Kd.R_base ho1) hb); replace HO242 := Aside0.mk (Kd.R_elder' (hd_ HO242) (Kd.R_base ho1) hb); replace BK221 := Aside0.mk (bb_ BK221 hb); replace BK222 := Aside0.mk (bb_ BK222 hb); replace HB := Aside0.mk (bt_ HB hb); (try clear hb); (try clear hb2); (try clear hk); (try clear hi); (try clear ho0); (try clear ho1)) | ((with_reducible refine gate_dst (N := 7) rfl ?_); refine box_event ?hg (N := 7) ?hd (cs := #[.int .i64 0, .int .i64 0, .int .i64 0, .slice none 0 0, .slice none 0 0]) (t := 31) ?hr ?_; (case hd => rfl); (case hg => rfl); (case hr => first | (go_simp; done) | (go_simp; rfl)); intro gb253 hg w127 hbox hb; have BK253 := Aside0.mk hbox; have GW253 := ge_ HB hg; have GE253 := ge_ HB hg; have NB221_253 := nl_ BK221 hg; have NB253_221 := ng_ BK221 hg; have NB222_253 := nl_ BK222 hg; have NB253_222 := ng_ BK222 hg; replace HO230 := rb_ HO230 hb; replace HO233 := rb_ HO233 hb; replace HO239 := rb_ HO239 hb; replace HO242 := rb_ HO242 hb; replace HO249 := rb_ HO249 hb; replace HO252 := rb_ HO252 hb; replace HB := Aside0.mk (bt_ HB hb); replace BK221 := Aside0.mk (bb_ BK221 hb); replace BK222 := Aside0.mk (bb_ BK222 hb); clear hb hbox hg; have hnb128 := NB253_221.out; have hnc128 := NB221_253.out; have hnb129 := NB253_222.out; have hnc129 := NB222_253.out; have hcz130_0 := cz_ BK253 0 (.int .i64 0); have hcz130_1 := cz_ BK253 1 (.int .i64 0); have hcz130_2 := cz_ BK253 2 (.int .i64 0); have hcz130_3 := cz_ BK253 3 (.slice none 0 0); have hcz130_4 := cz_ BK253 4 (.slice none 0 0); have hfz130_0 := blk_frozen BK253.out 0; have hfz130_1 := blk_frozen BK253.out 1; have hfz130_2 := blk_frozen BK253.out 2; have hfz130_3 := blk_frozen BK253.out 3; have hfz130_4 := blk_frozen BK253.out 4; obtain ⟨Ao131, co131, eo131⟩ := Kd.R_slice HO249.out; subst eo131; obtain ⟨Ao132, co132, eo132⟩ := Kd.R_slice HO252.out; subst eo132; have hcz133_0 := cz_ BK222 0 (.int .i64 a1_0); have hcz133_1 := cz_ BK222 1 (.int .i64 a1_1); have hcz133_2 := cz_ BK222 2 (.int .i64 a1_2); have hcz133_3 := cz_ BK222 3 (.slice A1_3 l1_3.length c1_3); have hcz133_4 := cz_ BK222 4 (.slice A1_4 l1_4.length c1_4); have hfz133_0 := blk_frozen BK222.out 0; have hfz133_1 := blk_frozen BK222.out 1; have hfz133_2 := blk_frozen BK222.out 2; have hfz133_3 := blk_frozen BK222.out 3; have hfz133_4 := blk_frozen BK222.out 4) | ((with_reducible refine gate_callee (f := 15) rfl ?_); refine gl_ (some 28) Try.func15 #[.agg #[.int .i64 a1_0, .int .i64 a1_1, .int .i64 a1_2, .slice A1_3 l1_3.length c1_3, .slice A1_4 l1_4.length c1_4]] ?_; (with_reducible refine (laws_toLsa.calls k a1_0 a1_1 a1_2 _ _ l1_3 _ _ l1_4 t254 t255 t256 t257 t260 _ ?side1 ?side2 ?side3 ?side4 A23.out).mono ?_); (case side1 => exact Kd.C_below HR1_3.out (by repeat (first | (with_reducible first | exact HB.out | apply below_alloc | apply pw_below_drewN | apply below_drew1 | refine below_set ?_ GE221.out | refine below_set ?_ GE222.out | refine below_set ?_ GE253.out) | exact HB.out))); (case side2 => exact HC1_3.out); (case side3 => exact Kd.C_below HR1_4.out (by repeat (first | (with_reducible first | exact HB.out | apply below_alloc | apply pw_below_drewN | apply below_drew1 | refine below_set ?_ GE221.out | refine below_set ?_ GE222.out | refine below_set ?_ GE253.out) | exact HB.out))); (case side4 => exact HC1_4.out); rintro e w134 ⟨v258, v261, rfl, ho0, ho1, hb⟩; refine ⟨_, rfl, ?_⟩; have HO259 := Aside0.mk (Kd.R_lower (Kd.R_new' (Kd.R_new' (Kd.R_new' ho0 (Kd.R_lt (hs_ HO230 BK253))) (Kd.R_lt (hs_ HO239 BK253))) (Kd.R_lt (hs_ HO249 BK253))) (bz_ HB)); have HO262 := Aside0.mk (Kd.R_lower (Kd.R_new' (Kd.R_new' (Kd.R_new' ho1 (Kd.R_lt (hs_ HO233 BK253))) (Kd.R_lt (hs_ HO242 BK253))) (Kd.R_lt (hs_ HO252 BK253))) (bz_ HB)); replace HO230 := Aside0.mk (Kd.R_elder' (hs_ HO230 BK253) (Kd.R_base ho0) hb); replace HO239 := Aside0.mk (Kd.R_elder' (hs_ HO239 BK253) (Kd.R_base ho0) hb); replace HO249 := Aside0.mk (Kd.R_elder' (hs_ HO249 BK253) (Kd.R_base ho0) hb); replace HO233 := Aside0.mk (Kd.R_elder' (hs_ HO233 BK253) (Kd.R_base ho1) hb); replace HO242 := Aside0.mk (Kd.R_elder' (hs_ HO242 BK253) (Kd.R_base ho1) hb); replace HO252 := Aside0.mk (Kd.R_elder' (hs_ HO252 BK253) (Kd.R_base ho1) hb); replace BK221 := bf_ BK221 NB221_253 hb; replace BK222 := bf_ BK222 NB222_253 hb; replace BK253 := Aside0.mk (blk_below (g := gb253) (o := .cells #[.int .i64 t244, .int .i64 t245, .int .i64 t246, .slice Ao131 t247.length co131, .slice Ao132 t250.length co132] 31 (0, 0)) (by (with_reducible repeat (first | refine blk_drewN ?_ _ | refine blk_drew ?_ | refine blk_alloc ?_ _)); refine blk_put (cs := #[.int .i64 t244, .int .i64 t245, .int .i64 t246, .slice Ao131 t247.length co131, .slice none 0 0]) ?_ 4 _ rfl; (with_reducible repeat (first | refine blk_drewN ?_ _ | refine blk_drew ?_ | refine blk_alloc ?_ _)); refine blk_put (cs := #[.int .i64 t244, .int .i64 t245, .int .i64 t246, .slice none 0 0, .slice none 0 0]) ?_ 3 _ rfl; (with_reducible repeat (first | refine blk_drewN ?_ _ | refine blk_drew ?_ | refine blk_alloc ?_ _)); refine blk_put (cs := #[.int .i64 t244, .int .i64 t245, .int .i64 0, .slice none 0 0, .slice none 0 0]) ?_ 2 _ rfl; (with_reducible repeat (first | refine blk_drewN ?_ _ | refine blk_drew ?_ | refine blk_alloc ?_ _)); refine blk_put (cs := #[.int .i64 t244, .int .i64 0, .int .i64 0, .slice none 0 0, .slice none 0 0]) ?_ 1 _ rfl; (with_reducible repeat (first | refine blk_drewN ?_ _ | refine blk_drew ?_ | refine blk_alloc ?_ _)); refine blk_put (cs := #[.int .i64 0, .int .i64 0, .int .i64 0, .slice none 0 0, .slice none 0 0]) ?_ 0 _ rfl; (with_reducible repeat (first | refine blk_drewN ?_ _ | refine blk_drew ?_ | refine blk_alloc ?_ _)); exact BK253.out) hb); replace HB := Aside0.mk (bt_ HB hb); (try clear hb); (try clear hb2); (try clear hk); (try clear hi); (try clear ho0); (try clear ho1)) | ((with_reducible refine gate_dst (N := 8) rfl ?_); refine box_event ?hg (N := 8) ?hd (cs := #[.int .i64 0, .int .i64 0, .int .i64 0, .slice none 0 0, .slice none 0 0]) (t := 31) ?hr ?_; (case hd => rfl); (case hg => rfl); (case hr => first | (go_simp; done) | (go_simp; rfl)); intro gb263 hg w135 hbox hb; have BK263 := Aside0.mk hbox; have GW263 := ge_ HB hg; have GE263 := ge_ HB hg; have NB221_263 := nl_ BK221 hg; have NB263_221 := ng_ BK221 hg; have NB222_263 := nl_ BK222 hg; have NB263_222 := ng_ BK222 hg; have NB253_263 := nl_ BK253 hg; have NB263_253 := ng_ BK253 hg; replace HO230 := rb_ HO230 hb; replace HO233 := rb_ HO233 hb; replace HO239 := rb_ HO239 hb; replace HO242 := rb_ HO242 hb; replace HO249 := rb_ HO249 hb; replace HO252 := rb_ HO252 hb; replace HO259 := rb_ HO259 hb; replace HO262 := rb_ HO262 hb; replace HB := Aside0.mk (bt_ HB hb); replace BK221 := Aside0.mk (bb_ BK221 hb); replace BK222 := Aside0.mk (bb_ BK222 hb); replace BK253 := Aside0.mk (bb_ BK253 hb); clear hb hbox hg; have hnb136 := NB263_221.out; have hnc136 := NB221_263.out; have hnb137 := NB263_222.out; have hnc137 := NB222_263.out; have hnb138 := NB263_253.out; have hnc138 := NB253_263.out; have hcz139_0 := cz_ BK263 0 (.int .i64 0); have hcz139_1 := cz_ BK263 1 (.int .i64 0); have hcz139_2 := cz_ BK263 2 (.int .i64 0); have hcz139_3 := cz_ BK263 3 (.slice none 0 0); have hcz139_4 := cz_ BK263 4 (.slice none 0 0); have hfz139_0 := blk_frozen BK263.out 0; have hfz139_1 := blk_frozen BK263.out 1; have hfz139_2 := blk_frozen BK263.out 2; have hfz139_3 := blk_frozen BK263.out 3; have hfz139_4 := blk_frozen BK263.out 4; obtain ⟨Ao140, co140, eo140⟩ := Kd.R_slice HO259.out; subst eo140; obtain ⟨Ao141, co141, eo141⟩ := Kd.R_slice HO262.out; subst eo141; have hcz142_0 := cz_ BK253 0 (.int .i64 t244); have hcz142_1 := cz_ BK253 1 (.int .i64 t245); have hcz142_2 := cz_ BK253 2 (.int .i64 t246); have hcz142_3 := cz_ BK253 3 (.slice Ao131 t247.length co131); have hcz142_4 := cz_ BK253 4 (.slice Ao132 t250.length co132); have hfz142_0 := blk_frozen BK253.out 0; have hfz142_1 := blk_frozen BK253.out 1; have hfz142_2 := blk_frozen BK253.out 2; have hfz142_3 := blk_frozen BK253.out 3; have hfz142_4 := blk_frozen BK253.out 4) | ((with_reducible refine gate_callee (f := 19) rfl ?_); refine gl_ (some 31) Try.func19 #[.agg #[.int .i64 t244, .int .i64 t245, .int .i64 t246, .slice Ao131 t247.length co131, .slice Ao132 t250.length co132], .agg #[.int .i64 t254, .int .i64 t255, .int .i64 t256, .slice Ao140 t257.length co140, .slice Ao141 t260.length co141]] ?_; (with_reducible refine (impl_SameWords.calls k t244 t245 t246 _ _ t247 _ _ t250 t254 t255 t256 _ _ t257 _ _ t260 t264 _ ?side1 ?side2 ?side3 ?side4 ?side5 ?side6 ?side7 ?side8 A24.out).mono ?_); (case side1 => refine (Kd.R_reads' (e := 70) (base := w.heap.size) (ok := fun k_ => (((True ∧ some k_ ≠ (.slice Ao120 t228.length co120 : Value).ownBlock) ∧ some k_ ≠ (.slice Ao122 t237.length co122 : Value).ownBlock) ∧ some k_ ≠ (.slice Ao140 t257.length co140 : Value).ownBlock)) (n := t247.length) (c := co131) ?_).2.2; exact (hs_ HO249 BK263)); (case side2 => exact (Kd.R_reads' HO249.out).2.1); (case side3 => refine (Kd.R_reads' (e := 74) (base := w.heap.size) (ok := fun k_ => (((True ∧ some k_ ≠ (.slice Ao121 t231.length co121 : Value).ownBlock) ∧ some k_ ≠ (.slice Ao123 t240.length co123 : Value).ownBlock) ∧ some k_ ≠ (.slice Ao141 t260.length co141 : Value).ownBlock)) (n := t250.length) (c := co132) ?_).2.2; exact (hs_ HO252 BK263)); (case side4 => exact (Kd.R_reads' HO252.out).2.1); (case side5 => refine (Kd.R_reads' (e := 70) (base := w.heap.size) (ok := fun k_ => (((True ∧ some k_ ≠ (.slice Ao120 t228.length co120 : Value).ownBlock) ∧ some k_ ≠ (.slice Ao122 t237.length co122 : Value).ownBlock) ∧ some k_ ≠ (.slice Ao131 t247.length co131 : Value).ownBlock)) (n := t257.length) (c := co140) ?_).2.2; exact (hs_ HO259 BK263)); (case side6 => exact (Kd.R_reads' HO259.out).2.1); (case side7 => refine (Kd.R_reads' (e := 74) (base := w.heap.size) (ok := fun k_ => (((True ∧ some k_ ≠ (.slice Ao121 t231.length co121 : Value).ownBlock) ∧ some k_ ≠ (.slice Ao123 t240.length co123 : Value).ownBlock) ∧ some k_ ≠ (.slice Ao132 t250.length co132 : Value).ownBlock)) (n := t260.length) (c := co141) ?_).2.2; exact (hs_ HO262 BK263)); (case side8 => exact (Kd.R_reads' HO262.out).2.1); rintro e w143 ⟨rfl, hb⟩; refine ⟨_, rfl, ?_⟩; replace HO230 := rs_ HO230 BK263 hb; replace HO233 := rs_ HO233 BK263 hb; replace HO239 := rs_ HO239 BK263 hb; replace HO242 := rs_ HO242 BK263 hb; replace HO249 := rs_ HO249 BK263 hb; replace HO252 := rs_ HO252 BK263 hb; replace HO259 := rs_ HO259 BK263 hb; replace HO262 := rs_ HO262 BK263 hb; replace BK221 := bf_ BK221 NB221_263 hb; replace BK222 := bf_ BK222 NB222_263 hb; replace BK253 := bf_ BK253 NB253_263 hb; replace BK263 := Aside0.mk (blk_below (g := gb263) (o := .cells #[.int .i64 t254, .int .i64 t255, .int .i64 t256, .slice Ao140 t257.length co140, .slice Ao141 t260.length co141] 31 (0, 0)) (by (with_reducible repeat (first | refine blk_drewN ?_ _ | refine blk_drew ?_ | refine blk_alloc ?_ _)); refine blk_put (cs := #[.int .i64 t254, .int .i64 t255, .int .i64 t256, .slice Ao140 t257.length co140, .slice none 0 0]) ?_ 4 _ rfl; (with_reducible repeat (first | refine blk_drewN ?_ _ | refine blk_drew ?_ | refine blk_alloc ?_ _)); refine blk_put (cs := #[.int .i64 t254, .int .i64 t255, .int .i64 t256, .slice none 0 0, .slice none 0 0]) ?_ 3 _ rfl; (with_reducible repeat (first | refine blk_drewN ?_ _ | refine blk_drew ?_ | refine blk_alloc ?_ _)); refine blk_put (cs := #[.int .i64 t254, .int .i64 t255, .int .i64 0, .slice none 0 0, .slice none 0 0]) ?_ 2 _ rfl; (with_reducible repeat (first | refine blk_drewN ?_ _ | refine blk_drew ?_ | refine blk_alloc ?_ _)); refine blk_put (cs := #[.int .i64 t254, .int .i64 0, .int .i64 0, .slice none 0 0, .slice none 0 0]) ?_ 1 _ rfl; (with_reducible repeat (first | refine blk_drewN ?_ _ | refine blk_drew ?_ | refine blk_alloc ?_ _)); refine blk_put (cs := #[.int .i64 0, .int .i64 0, .int .i64 0, .slice none 0 0, .slice none 0 0]) ?_ 0 _ rfl; (with_reducible repeat (first | refine blk_drewN ?_ _ | refine blk_drew ?_ | refine blk_alloc ?_ _)); exact BK263.out) hb); replace HB := Aside0.mk (bt_ HB hb); (try clear hb); (try clear hb2); (try clear hk); (try clear hi)))
      replace HO230 := Aside0.mk (Kd.R_drew HO230.out)
      replace HO233 := Aside0.mk (Kd.R_drew HO233.out)
      replace HO239 := Aside0.mk (Kd.R_drew HO239.out)
      replace HO242 := Aside0.mk (Kd.R_drew HO242.out)
      replace HO249 := Aside0.mk (Kd.R_drew HO249.out)
      replace HO252 := Aside0.mk (Kd.R_drew HO252.out)
      replace HO259 := Aside0.mk (Kd.R_drew HO259.out)
      replace HO262 := Aside0.mk (Kd.R_drew HO262.out)
      replace BK221 := Aside0.mk (blk_drew BK221.out)
      replace BK222 := Aside0.mk (blk_drew BK222.out)
      replace BK253 := Aside0.mk (blk_drew BK253.out)
      replace BK263 := Aside0.mk (blk_drew BK263.out)
      replace HB := Aside0.mk (below_drew1 HB.out)
      refine start_ (n := 5) (S := fun w' => w'.cell? ⟨gb253, 0, none⟩ = some (.int .i64 t244) ∧ w'.cell? ⟨gb253, 1, none⟩ = some (.int .i64 t245) ∧ w'.cell? ⟨gb253, 2, none⟩ = some (.int .i64 t246) ∧ w'.cell? ⟨gb253, 3, none⟩ = some (.slice Ao131 t247.length co131) ∧ w'.cell? ⟨gb253, 4, none⟩ = some (.slice Ao132 t250.length co132) ∧ w'.cell? ⟨gb221, 0, none⟩ = some (.int .i64 a0_0) ∧ w'.cell? ⟨gb221, 1, none⟩ = some (.int .i64 a0_1) ∧ w'.cell? ⟨gb221, 2, none⟩ = some (.int .i64 a0_2) ∧ w'.cell? ⟨gb221, 3, none⟩ = some (.slice A0_3 l0_3.length c0_3) ∧ w'.cell? ⟨gb221, 4, none⟩ = some (.slice A0_4 l0_4.length c0_4)) (ds := []) ba13_7 (by kernel_rfl) rfl rfl ⟨(blk_cell BK253.out 0).trans rfl, (blk_cell BK253.out 1).trans rfl, (blk_cell BK253.out 2).trans rfl, (blk_cell BK253.out 3).trans rfl, (blk_cell BK253.out 4).trans rfl, (blk_cell BK221.out 0).trans rfl, (blk_cell BK221.out 1).trans rfl, (blk_cell BK221.out 2).trans rfl, (blk_cell BK221.out 3).trans rfl, (blk_cell BK221.out 4).trans rfl⟩ (fun hHeld => ?_)
      generalize w143.drew = w144 at HO230 HO233 HO239 HO242 HO249 HO252 HO259 HO262 BK221 BK222 BK253 BK263 HB hHeld ⊢
      refine take_ (i := 0) (N := some 35) (v := ?_) (a' := ?_) ba13_8 rfl rfl (by kernel_rfl) (fun _ _ _ h => h) (Or.inl ⟨by rfl, ?_⟩) hHeld ?_ ?_
      rotate_left; · rintro w' ⟨s0, s1, s2, s3, s4, s5, s6, s7, s8, s9⟩; go_simp; with_reducible rfl
      rotate_left; · simp only [Act.put, List.setIfInBounds_toArray, List.set_cons_zero, List.set_cons_succ, i64_w, i32_w]; rfl
      refine take_ (i := 1) (N := some 36) (v := ?_) (a' := ?_) ba13_9 rfl rfl (by kernel_rfl) (fun _ _ _ h => h) (Or.inl ⟨by rfl, ?_⟩) hHeld ?_ ?_
      rotate_left; · rintro w' ⟨s0, s1, s2, s3, s4, s5, s6, s7, s8, s9⟩; go_simp; with_reducible rfl
      rotate_left; · simp only [Act.put, List.setIfInBounds_toArray, List.set_cons_zero, List.set_cons_succ, i64_w, i32_w]; rfl
      refine one_ (i := 2) (N := some 37) ba13_10 rfl rfl (by kernel_rfl) (by decide) (fun K hK => ?_)
      refine gz_ Try.func15 #[.agg #[.int .i64 a0_0, .int .i64 a0_1, .int .i64 a0_2, .slice A0_3 l0_3.length c0_3, .slice A0_4 l0_4.length c0_4]] ?_
      with_reducible refine (laws_toLsa.calls k a0_0 a0_1 a0_2 _ _ l0_3 _ _ l0_4 t265 t266 t267 t268 t271 _ ?side1 ?side2 ?side3 ?side4 A60.out).mono ?_
      (case side1 => exact cb_ HR0_3 HB)
      (case side2 => exact HC0_3.out)
      (case side3 => exact cb_ HR0_4 HB)
      (case side4 => exact HC0_4.out)
      rintro e w145 ⟨v269, v272, rfl, ho0, ho1, hb⟩
      refine ⟨_, rfl, ?_⟩
      have HO270 := Aside0.mk (Kd.R_lower (Kd.R_new' (Kd.R_new' (Kd.R_new' (Kd.R_new' ho0 (Kd.R_lt (hd_ HO230))) (Kd.R_lt (hd_ HO239))) (Kd.R_lt (hd_ HO249))) (Kd.R_lt (hd_ HO259))) (bz_ HB))
      have HO273 := Aside0.mk (Kd.R_lower (Kd.R_new' (Kd.R_new' (Kd.R_new' (Kd.R_new' ho1 (Kd.R_lt (hd_ HO233))) (Kd.R_lt (hd_ HO242))) (Kd.R_lt (hd_ HO252))) (Kd.R_lt (hd_ HO262))) (bz_ HB))
      replace HO230 := Aside0.mk (Kd.R_elder' (hd_ HO230) (Kd.R_base ho0) hb)
      replace HO239 := Aside0.mk (Kd.R_elder' (hd_ HO239) (Kd.R_base ho0) hb)
      replace HO249 := Aside0.mk (Kd.R_elder' (hd_ HO249) (Kd.R_base ho0) hb)
      replace HO259 := Aside0.mk (Kd.R_elder' (hd_ HO259) (Kd.R_base ho0) hb)
      replace HO233 := Aside0.mk (Kd.R_elder' (hd_ HO233) (Kd.R_base ho1) hb)
      replace HO242 := Aside0.mk (Kd.R_elder' (hd_ HO242) (Kd.R_base ho1) hb)
      replace HO252 := Aside0.mk (Kd.R_elder' (hd_ HO252) (Kd.R_base ho1) hb)
      replace HO262 := Aside0.mk (Kd.R_elder' (hd_ HO262) (Kd.R_base ho1) hb)
      replace BK221 := Aside0.mk (bb_ BK221 hb)
      replace BK222 := Aside0.mk (bb_ BK222 hb)
      replace BK253 := Aside0.mk (bb_ BK253 hb)
      replace BK263 := Aside0.mk (bb_ BK263 hb)
      replace HB := Aside0.mk (bt_ HB hb)
      (try clear hb)
      (try clear hb2)
      (try clear hk)
      (try clear hi)
      (try clear ho0)
      (try clear ho1)
      obtain ⟨Ao146, co146, eo146⟩ := Kd.R_slice HO270.out
      (first | subst eo146 | (injection eo146 with f1_ f2_ f3_; have f4_ := f1_.symm; have f5_ := f3_.symm; clear f1_ f2_ f3_; subst f4_; subst f5_))
      obtain ⟨Ao147, co147, eo147⟩ := Kd.R_slice HO273.out
      (first | subst eo147 | (injection eo147 with f1_ f2_ f3_; have f4_ := f1_.symm; have f5_ := f3_.symm; clear f1_ f2_ f3_; subst f4_; subst f5_))
      refine hK.out _ _ ⟨(blk_cell BK253.out 0).trans rfl, (blk_cell BK253.out 1).trans rfl, (blk_cell BK253.out 2).trans rfl, (blk_cell BK253.out 3).trans rfl, (blk_cell BK253.out 4).trans rfl, (blk_cell BK221.out 0).trans rfl, (blk_cell BK221.out 1).trans rfl, (blk_cell BK221.out 2).trans rfl, (blk_cell BK221.out 3).trans rfl, (blk_cell BK221.out 4).trans rfl⟩ (fun hHeld => ?_)
      clear hK K
      refine nz_ 37 ?_
      refine one_ (i := 3) (N := some 38) ba13_11 rfl rfl (by kernel_rfl) (by decide) (fun K hK => ?_)
      refine gz_ Try.func17 #[.agg #[.int .i64 t244, .int .i64 t245, .int .i64 t246, .slice Ao131 t247.length co131, .slice Ao132 t250.length co132], .agg #[.int .i64 t265, .int .i64 t266, .int .i64 t267, .slice Ao146 t268.length co146, .slice Ao147 t271.length co147]] ?_
      with_reducible refine (laws_eqLsa.calls k t244 t245 t246 _ _ t247 _ _ t250 t265 t266 t267 _ _ t268 _ _ t271 true _ ?side1 ?side2 ?side3 ?side4 ?side5 ?side6 ?side7 ?side8 A61.out).mono ?_
      (case side1 => exact rc_ HO249)
      (case side2 => exact (Kd.R_reads' HO249.out).2.1)
      (case side3 => exact rc_ HO252)
      (case side4 => exact (Kd.R_reads' HO252.out).2.1)
      (case side5 => exact rc_ HO270)
      (case side6 => exact (Kd.R_reads' HO270.out).2.1)
      (case side7 => exact rc_ HO273)
      (case side8 => exact (Kd.R_reads' HO273.out).2.1)
      rintro e w148 ⟨rfl, hb⟩
      refine ⟨_, rfl, ?_⟩
      replace HO230 := rb_ HO230 hb
      replace HO233 := rb_ HO233 hb
      replace HO239 := rb_ HO239 hb
      replace HO242 := rb_ HO242 hb
      replace HO249 := rb_ HO249 hb
      replace HO252 := rb_ HO252 hb
      replace HO259 := rb_ HO259 hb
      replace HO262 := rb_ HO262 hb
      replace HO270 := rb_ HO270 hb
      replace HO273 := rb_ HO273 hb
      replace BK221 := Aside0.mk (bb_ BK221 hb)
      replace BK222 := Aside0.mk (bb_ BK222 hb)
      replace BK253 := Aside0.mk (bb_ BK253 hb)
      replace BK263 := Aside0.mk (bb_ BK263 hb)
      replace HB := Aside0.mk (bt_ HB hb)
      (try clear hb)
      (try clear hb2)
      (try clear hk)
      (try clear hi)
      refine hK.out _ _ ⟨(blk_cell BK253.out 0).trans rfl, (blk_cell BK253.out 1).trans rfl, (blk_cell BK253.out 2).trans rfl, (blk_cell BK253.out 3).trans rfl, (blk_cell BK253.out 4).trans rfl, (blk_cell BK221.out 0).trans rfl, (blk_cell BK221.out 1).trans rfl, (blk_cell BK221.out 2).trans rfl, (blk_cell BK221.out 3).trans rfl, (blk_cell BK221.out 4).trans rfl⟩ (fun hHeld => ?_)
      clear hK K
      refine nz_ 38 ?_
      refine pure_ (i := 4) (N := some 39) (v := ?_) (a' := ?_) ba13_12 rfl rfl (by kernel_rfl) (fun _ _ _ h => h) (Or.inl ⟨by rfl, ?_⟩) ?_ ?_
      rotate_left; · intro w'; go_simp; with_reducible rfl
      rotate_left; · simp only [Act.put, List.setIfInBounds_toArray, List.set_cons_zero, List.set_cons_succ, i64_w, i32_w]; rfl
      refine done_ (by kernel_rfl) ?_
      try go_wp2
      replace HO230 := Aside0.mk (Kd.R_drew HO230.out)
      replace HO233 := Aside0.mk (Kd.R_drew HO233.out)
      replace HO239 := Aside0.mk (Kd.R_drew HO239.out)
      replace HO242 := Aside0.mk (Kd.R_drew HO242.out)
      replace HO249 := Aside0.mk (Kd.R_drew HO249.out)
      replace HO252 := Aside0.mk (Kd.R_drew HO252.out)
      replace HO259 := Aside0.mk (Kd.R_drew HO259.out)
      replace HO262 := Aside0.mk (Kd.R_drew HO262.out)
      replace HO270 := Aside0.mk (Kd.R_drew HO270.out)
      replace HO273 := Aside0.mk (Kd.R_drew HO273.out)
      replace BK221 := Aside0.mk (blk_drew BK221.out)
      replace BK222 := Aside0.mk (blk_drew BK222.out)
      replace BK253 := Aside0.mk (blk_drew BK253.out)
      replace BK263 := Aside0.mk (blk_drew BK263.out)
      replace HB := Aside0.mk (below_drew1 HB.out)
      refine start_ (n := 5) (S := fun w' => w'.cell? ⟨gb263, 0, none⟩ = some (.int .i64 t254) ∧ w'.cell? ⟨gb263, 1, none⟩ = some (.int .i64 t255) ∧ w'.cell? ⟨gb263, 2, none⟩ = some (.int .i64 t256) ∧ w'.cell? ⟨gb263, 3, none⟩ = some (.slice Ao140 t257.length co140) ∧ w'.cell? ⟨gb263, 4, none⟩ = some (.slice Ao141 t260.length co141) ∧ w'.cell? ⟨gb222, 0, none⟩ = some (.int .i64 a1_0) ∧ w'.cell? ⟨gb222, 1, none⟩ = some (.int .i64 a1_1) ∧ w'.cell? ⟨gb222, 2, none⟩ = some (.int .i64 a1_2) ∧ w'.cell? ⟨gb222, 3, none⟩ = some (.slice A1_3 l1_3.length c1_3) ∧ w'.cell? ⟨gb222, 4, none⟩ = some (.slice A1_4 l1_4.length c1_4)) (ds := []) ba13_7 (by kernel_rfl) rfl rfl ⟨(blk_cell BK263.out 0).trans rfl, (blk_cell BK263.out 1).trans rfl, (blk_cell BK263.out 2).trans rfl, (blk_cell BK263.out 3).trans rfl, (blk_cell BK263.out 4).trans rfl, (blk_cell BK222.out 0).trans rfl, (blk_cell BK222.out 1).trans rfl, (blk_cell BK222.out 2).trans rfl, (blk_cell BK222.out 3).trans rfl, (blk_cell BK222.out 4).trans rfl⟩ (fun hHeld => ?_)
      generalize w148.drew = w149 at HO230 HO233 HO239 HO242 HO249 HO252 HO259 HO262 HO270 HO273 BK221 BK222 BK253 BK263 HB hHeld ⊢
      refine take_ (i := 0) (N := some 40) (v := ?_) (a' := ?_) ba13_8 rfl rfl (by kernel_rfl) (fun _ _ _ h => h) (Or.inl ⟨by rfl, ?_⟩) hHeld ?_ ?_
      rotate_left; · rintro w' ⟨s0, s1, s2, s3, s4, s5, s6, s7, s8, s9⟩; go_simp; with_reducible rfl
      rotate_left; · simp only [Act.put, List.setIfInBounds_toArray, List.set_cons_zero, List.set_cons_succ, i64_w, i32_w]; rfl
      refine take_ (i := 1) (N := some 41) (v := ?_) (a' := ?_) ba13_9 rfl rfl (by kernel_rfl) (fun _ _ _ h => h) (Or.inl ⟨by rfl, ?_⟩) hHeld ?_ ?_
      rotate_left; · rintro w' ⟨s0, s1, s2, s3, s4, s5, s6, s7, s8, s9⟩; go_simp; with_reducible rfl
      rotate_left; · simp only [Act.put, List.setIfInBounds_toArray, List.set_cons_zero, List.set_cons_succ, i64_w, i32_w]; rfl
      refine one_ (i := 2) (N := some 42) ba13_10 rfl rfl (by kernel_rfl) (by decide) (fun K hK => ?_)
      refine gz_ Try.func15 #[.agg #[.int .i64 a1_0, .int .i64 a1_1, .int .i64 a1_2, .slice A1_3 l1_3.length c1_3, .slice A1_4 l1_4.length c1_4]] ?_
      with_reducible refine (laws_toLsa.calls k a1_0 a1_1 a1_2 _ _ l1_3 _ _ l1_4 t275 t276 t277 t278 t281 _ ?side1 ?side2 ?side3 ?side4 A63.out).mono ?_
      (case side1 => exact cb_ HR1_3 HB)
      (case side2 => exact HC1_3.out)
      (case side3 => exact cb_ HR1_4 HB)
      (case side4 => exact HC1_4.out)
      rintro e w150 ⟨v279, v282, rfl, ho0, ho1, hb⟩
      refine ⟨_, rfl, ?_⟩
      have HO280 := Aside0.mk (Kd.R_lower (Kd.R_new' (Kd.R_new' (Kd.R_new' (Kd.R_new' (Kd.R_new' ho0 (Kd.R_lt (hd_ HO230))) (Kd.R_lt (hd_ HO239))) (Kd.R_lt (hd_ HO249))) (Kd.R_lt (hd_ HO259))) (Kd.R_lt (hd_ HO270))) (bz_ HB))
      have HO283 := Aside0.mk (Kd.R_lower (Kd.R_new' (Kd.R_new' (Kd.R_new' (Kd.R_new' (Kd.R_new' ho1 (Kd.R_lt (hd_ HO233))) (Kd.R_lt (hd_ HO242))) (Kd.R_lt (hd_ HO252))) (Kd.R_lt (hd_ HO262))) (Kd.R_lt (hd_ HO273))) (bz_ HB))
      replace HO230 := Aside0.mk (Kd.R_elder' (hd_ HO230) (Kd.R_base ho0) hb)
      replace HO239 := Aside0.mk (Kd.R_elder' (hd_ HO239) (Kd.R_base ho0) hb)
      replace HO249 := Aside0.mk (Kd.R_elder' (hd_ HO249) (Kd.R_base ho0) hb)
      replace HO259 := Aside0.mk (Kd.R_elder' (hd_ HO259) (Kd.R_base ho0) hb)
      replace HO270 := Aside0.mk (Kd.R_elder' (hd_ HO270) (Kd.R_base ho0) hb)
      replace HO233 := Aside0.mk (Kd.R_elder' (hd_ HO233) (Kd.R_base ho1) hb)
      replace HO242 := Aside0.mk (Kd.R_elder' (hd_ HO242) (Kd.R_base ho1) hb)
      replace HO252 := Aside0.mk (Kd.R_elder' (hd_ HO252) (Kd.R_base ho1) hb)
      replace HO262 := Aside0.mk (Kd.R_elder' (hd_ HO262) (Kd.R_base ho1) hb)
      replace HO273 := Aside0.mk (Kd.R_elder' (hd_ HO273) (Kd.R_base ho1) hb)
      replace BK221 := Aside0.mk (bb_ BK221 hb)
      replace BK222 := Aside0.mk (bb_ BK222 hb)
      replace BK253 := Aside0.mk (bb_ BK253 hb)
      replace BK263 := Aside0.mk (bb_ BK263 hb)
      replace HB := Aside0.mk (bt_ HB hb)
      (try clear hb)
      (try clear hb2)
      (try clear hk)
      (try clear hi)
      (try clear ho0)
      (try clear ho1)
      obtain ⟨Ao151, co151, eo151⟩ := Kd.R_slice HO280.out
      (first | subst eo151 | (injection eo151 with f1_ f2_ f3_; have f4_ := f1_.symm; have f5_ := f3_.symm; clear f1_ f2_ f3_; subst f4_; subst f5_))
      obtain ⟨Ao152, co152, eo152⟩ := Kd.R_slice HO283.out
      (first | subst eo152 | (injection eo152 with f1_ f2_ f3_; have f4_ := f1_.symm; have f5_ := f3_.symm; clear f1_ f2_ f3_; subst f4_; subst f5_))
      refine hK.out _ _ ⟨(blk_cell BK263.out 0).trans rfl, (blk_cell BK263.out 1).trans rfl, (blk_cell BK263.out 2).trans rfl, (blk_cell BK263.out 3).trans rfl, (blk_cell BK263.out 4).trans rfl, (blk_cell BK222.out 0).trans rfl, (blk_cell BK222.out 1).trans rfl, (blk_cell BK222.out 2).trans rfl, (blk_cell BK222.out 3).trans rfl, (blk_cell BK222.out 4).trans rfl⟩ (fun hHeld => ?_)
      clear hK K
      refine nz_ 42 ?_
      refine one_ (i := 3) (N := some 43) ba13_11 rfl rfl (by kernel_rfl) (by decide) (fun K hK => ?_)
      refine gz_ Try.func17 #[.agg #[.int .i64 t254, .int .i64 t255, .int .i64 t256, .slice Ao140 t257.length co140, .slice Ao141 t260.length co141], .agg #[.int .i64 t275, .int .i64 t276, .int .i64 t277, .slice Ao151 t278.length co151, .slice Ao152 t281.length co152]] ?_
      with_reducible refine (laws_eqLsa.calls k t254 t255 t256 _ _ t257 _ _ t260 t275 t276 t277 _ _ t278 _ _ t281 false _ ?side1 ?side2 ?side3 ?side4 ?side5 ?side6 ?side7 ?side8 A64.out).mono ?_
      (case side1 => exact rc_ HO259)
      (case side2 => exact (Kd.R_reads' HO259.out).2.1)
      (case side3 => exact rc_ HO262)
      (case side4 => exact (Kd.R_reads' HO262.out).2.1)
      (case side5 => exact rc_ HO280)
      (case side6 => exact (Kd.R_reads' HO280.out).2.1)
      (case side7 => exact rc_ HO283)
      (case side8 => exact (Kd.R_reads' HO283.out).2.1)
      rintro e w153 ⟨rfl, hb⟩
      refine ⟨_, rfl, ?_⟩
      replace HO230 := rb_ HO230 hb
      replace HO233 := rb_ HO233 hb
      replace HO239 := rb_ HO239 hb
      replace HO242 := rb_ HO242 hb
      replace HO249 := rb_ HO249 hb
      replace HO252 := rb_ HO252 hb
      replace HO259 := rb_ HO259 hb
      replace HO262 := rb_ HO262 hb
      replace HO270 := rb_ HO270 hb
      replace HO273 := rb_ HO273 hb
      replace HO280 := rb_ HO280 hb
      replace HO283 := rb_ HO283 hb
      replace BK221 := Aside0.mk (bb_ BK221 hb)
      replace BK222 := Aside0.mk (bb_ BK222 hb)
      replace BK253 := Aside0.mk (bb_ BK253 hb)
      replace BK263 := Aside0.mk (bb_ BK263 hb)
      replace HB := Aside0.mk (bt_ HB hb)
      (try clear hb)
      (try clear hb2)
      (try clear hk)
      (try clear hi)
      refine hK.out _ _ ⟨(blk_cell BK263.out 0).trans rfl, (blk_cell BK263.out 1).trans rfl, (blk_cell BK263.out 2).trans rfl, (blk_cell BK263.out 3).trans rfl, (blk_cell BK263.out 4).trans rfl, (blk_cell BK222.out 0).trans rfl, (blk_cell BK222.out 1).trans rfl, (blk_cell BK222.out 2).trans rfl, (blk_cell BK222.out 3).trans rfl, (blk_cell BK222.out 4).trans rfl⟩ (fun hHeld => ?_)
      clear hK K
      refine nz_ 43 ?_
      refine pure_ (i := 4) (N := some 44) (v := ?_) (a' := ?_) ba13_12 rfl rfl (by kernel_rfl) (fun _ _ _ h => h) (Or.inl ⟨by rfl, ?_⟩) ?_ ?_
      rotate_left; · intro w'; go_simp; with_reducible rfl
      rotate_left; · simp only [Act.put, List.setIfInBounds_toArray, List.set_cons_zero, List.set_cons_succ, i64_w, i32_w]; rfl
      refine done_ (by kernel_rfl) ?_
      try go_wp2
      go_ret
      exact ⟨by first | rfl | (simp [errW_none, errW_some] <;> rfl) | (simp [*, errW_none, errW_some] <;> rfl), by repeat (first | (with_reducible first | exact HB.out | apply below_alloc | apply pw_below_drewN | apply below_drew1 | refine below_set ?_ GE221.out | refine below_set ?_ GE222.out | refine below_set ?_ GE253.out | refine below_set ?_ GE263.out) | exact HB.out)⟩
    ·replace c62 := Bool.eq_false_iff.mpr c62
     subst c62
     rw [if_neg (show ¬ (false = true) by decide)] at H
     obtain rfl := Option.some.inj H
     go_enter Try.func4, Try.ntmps4
     try go_wp2_with (first | ((with_reducible refine gate_dst (N := 2) rfl ?_); refine box_event ?hg (N := 2) ?hd (cs := #[.int .i64 a0_0, .int .i64 a0_1, .int .i64 a0_2, .slice A0_3 l0_3.length c0_3, .slice A0_4 l0_4.length c0_4]) (t := 25) ?hr ?_; (case hd => rfl); (case hg => rfl); (case hr => first | (go_simp; done) | (go_simp; rfl)); intro gb221 hg w154 hbox hb; have BK221 := Aside0.mk hbox; have GW221 := ge_ HB hg; have GE221 := ge_ HB hg; replace HB := Aside0.mk (bt_ HB hb); clear hb hbox hg) | ((with_reducible refine gate_dst (N := 3) rfl ?_); refine box_event ?hg (N := 3) ?hd (cs := #[.int .i64 a1_0, .int .i64 a1_1, .int .i64 a1_2, .slice A1_3 l1_3.length c1_3, .slice A1_4 l1_4.length c1_4]) (t := 25) ?hr ?_; (case hd => rfl); (case hg => rfl); (case hr => first | (go_simp; done) | (go_simp; rfl)); intro gb222 hg w155 hbox hb; have BK222 := Aside0.mk hbox; have GW222 := ge_ HB hg; have GE222 := ge_ HB hg; have NB221_222 := nl_ BK221 hg; have NB222_221 := ng_ BK221 hg; replace HB := Aside0.mk (bt_ HB hb); replace BK221 := Aside0.mk (bb_ BK221 hb); clear hb hbox hg; have hnb156 := NB221_222.out; have hnc156 := NB222_221.out; have hcz157_0 := cz_ BK221 0 (.int .i64 a0_0); have hcz157_1 := cz_ BK221 1 (.int .i64 a0_1); have hcz157_2 := cz_ BK221 2 (.int .i64 a0_2); have hcz157_3 := cz_ BK221 3 (.slice A0_3 l0_3.length c0_3); have hcz157_4 := cz_ BK221 4 (.slice A0_4 l0_4.length c0_4); have hfz157_0 := blk_frozen BK221.out 0; have hfz157_1 := blk_frozen BK221.out 1; have hfz157_2 := blk_frozen BK221.out 2; have hfz157_3 := blk_frozen BK221.out 3; have hfz157_4 := blk_frozen BK221.out 4) | ((with_reducible refine gate_callee (f := 13) rfl ?_); refine gl_ (some 12) Try.func13 #[.agg #[.int .i64 a0_0, .int .i64 a0_1, .int .i64 a0_2, .slice A0_3 l0_3.length c0_3, .slice A0_4 l0_4.length c0_4], .int .i64 1048576] ?_; (with_reducible refine (laws_szLsa.calls a0_0 a0_1 a0_2 _ _ l0_3 _ _ l0_4 1048576 t223 _ ?side1 ?side2 ?side3 ?side4 A3.out).mono ?_); (case side1 => exact cb_ HR0_3 HB); (case side2 => exact HC0_3.out); (case side3 => exact cb_ HR0_4 HB); (case side4 => exact HC0_4.out); rintro e w158 ⟨rfl, hb⟩; refine ⟨_, rfl, ?_⟩; replace BK221 := Aside0.mk (bb_ BK221 hb); replace BK222 := Aside0.mk (bb_ BK222 hb); replace HB := Aside0.mk (bt_ HB hb); (try clear hb); (try clear hb2); (try clear hk); (try clear hi); have hcz159_0 := cz_ BK222 0 (.int .i64 a1_0); have hcz159_1 := cz_ BK222 1 (.int .i64 a1_1); have hcz159_2 := cz_ BK222 2 (.int .i64 a1_2); have hcz159_3 := cz_ BK222 3 (.slice A1_3 l1_3.length c1_3); have hcz159_4 := cz_ BK222 4 (.slice A1_4 l1_4.length c1_4); have hfz159_0 := blk_frozen BK222.out 0; have hfz159_1 := blk_frozen BK222.out 1; have hfz159_2 := blk_frozen BK222.out 2; have hfz159_3 := blk_frozen BK222.out 3; have hfz159_4 := blk_frozen BK222.out 4) | ((with_reducible refine gate_callee (f := 13) rfl ?_); refine gl_ (some 17) Try.func13 #[.agg #[.int .i64 a1_0, .int .i64 a1_1, .int .i64 a1_2, .slice A1_3 l1_3.length c1_3, .slice A1_4 l1_4.length c1_4], .int .i64 t223] ?_; (with_reducible refine (laws_szLsa.calls a1_0 a1_1 a1_2 _ _ l1_3 _ _ l1_4 t223 t224 _ ?side1 ?side2 ?side3 ?side4 A10.out).mono ?_); (case side1 => exact cb_ HR1_3 HB); (case side2 => exact HC1_3.out); (case side3 => exact cb_ HR1_4 HB); (case side4 => exact HC1_4.out); rintro e w160 ⟨rfl, hb⟩; refine ⟨_, rfl, ?_⟩; replace BK221 := Aside0.mk (bb_ BK221 hb); replace BK222 := Aside0.mk (bb_ BK222 hb); replace HB := Aside0.mk (bt_ HB hb); (try clear hb); (try clear hb2); (try clear hk); (try clear hi)))
     replace BK221 := Aside0.mk (blk_drew BK221.out)
     replace BK222 := Aside0.mk (blk_drew BK222.out)
     replace HB := Aside0.mk (below_drew1 HB.out)
     refine start_ (n := 6) (S := fun w' => w'.cell? ⟨gb221, 0, none⟩ = some (.int .i64 a0_0) ∧ w'.cell? ⟨gb221, 1, none⟩ = some (.int .i64 a0_1) ∧ w'.cell? ⟨gb221, 2, none⟩ = some (.int .i64 a0_2) ∧ w'.cell? ⟨gb221, 3, none⟩ = some (.slice A0_3 l0_3.length c0_3) ∧ w'.cell? ⟨gb221, 4, none⟩ = some (.slice A0_4 l0_4.length c0_4) ∧ w'.cell? ⟨gb222, 0, none⟩ = some (.int .i64 a1_0) ∧ w'.cell? ⟨gb222, 1, none⟩ = some (.int .i64 a1_1) ∧ w'.cell? ⟨gb222, 2, none⟩ = some (.int .i64 a1_2) ∧ w'.cell? ⟨gb222, 3, none⟩ = some (.slice A1_3 l1_3.length c1_3) ∧ w'.cell? ⟨gb222, 4, none⟩ = some (.slice A1_4 l1_4.length c1_4)) (ds := []) ba13_0 (by kernel_rfl) rfl rfl ⟨(blk_cell BK221.out 0).trans rfl, (blk_cell BK221.out 1).trans rfl, (blk_cell BK221.out 2).trans rfl, (blk_cell BK221.out 3).trans rfl, (blk_cell BK221.out 4).trans rfl, (blk_cell BK222.out 0).trans rfl, (blk_cell BK222.out 1).trans rfl, (blk_cell BK222.out 2).trans rfl, (blk_cell BK222.out 3).trans rfl, (blk_cell BK222.out 4).trans rfl⟩ (fun hHeld => ?_)
     generalize w160.drew = w161 at BK221 BK222 HB hHeld ⊢
     refine take_ (i := 0) (N := some 20) (v := ?_) (a' := ?_) ba13_1 rfl rfl (by kernel_rfl) (fun _ _ _ h => h) (Or.inl ⟨by rfl, ?_⟩) hHeld ?_ ?_
     rotate_left; · rintro w' ⟨s0, s1, s2, s3, s4, s5, s6, s7, s8, s9⟩; go_simp; with_reducible rfl
     rotate_left; · simp only [Act.put, List.setIfInBounds_toArray, List.set_cons_zero, List.set_cons_succ, i64_w, i32_w]; rfl
     refine take_ (i := 2) (N := some 22) (v := ?_) (a' := ?_) ba13_2 rfl rfl (by kernel_rfl) (fun _ _ _ h => h) (Or.inl ⟨by rfl, ?_⟩) hHeld ?_ ?_
     rotate_left; · rintro w' ⟨s0, s1, s2, s3, s4, s5, s6, s7, s8, s9⟩; go_simp; with_reducible rfl
     rotate_left; · simp only [Act.put, List.setIfInBounds_toArray, List.set_cons_zero, List.set_cons_succ, i64_w, i32_w]; rfl
     refine one_ (i := 1) (N := some 21) ba13_3 rfl rfl (by kernel_rfl) (by decide) (fun K hK => ?_)
     refine gz_ Try.func15 #[.agg #[.int .i64 a0_0, .int .i64 a0_1, .int .i64 a0_2, .slice A0_3 l0_3.length c0_3, .slice A0_4 l0_4.length c0_4]] ?_
     with_reducible refine (laws_toLsa.calls k a0_0 a0_1 a0_2 _ _ l0_3 _ _ l0_4 t225 t226 t227 t228 t231 _ ?side1 ?side2 ?side3 ?side4 A19.out).mono ?_
     (case side1 => exact cb_ HR0_3 HB)
     (case side2 => exact HC0_3.out)
     (case side3 => exact cb_ HR0_4 HB)
     (case side4 => exact HC0_4.out)
     rintro e w162 ⟨v229, v232, rfl, ho0, ho1, hb⟩
     refine ⟨_, rfl, ?_⟩
     have HO230 := Aside0.mk (Kd.R_lower ho0 (bz_ HB))
     have HO233 := Aside0.mk (Kd.R_lower ho1 (bz_ HB))
     replace BK221 := Aside0.mk (bb_ BK221 hb)
     replace BK222 := Aside0.mk (bb_ BK222 hb)
     replace HB := Aside0.mk (bt_ HB hb)
     (try clear hb)
     (try clear hb2)
     (try clear hk)
     (try clear hi)
     (try clear ho0)
     (try clear ho1)
     refine hK.out _ _ ⟨(blk_cell BK221.out 0).trans rfl, (blk_cell BK221.out 1).trans rfl, (blk_cell BK221.out 2).trans rfl, (blk_cell BK221.out 3).trans rfl, (blk_cell BK221.out 4).trans rfl, (blk_cell BK222.out 0).trans rfl, (blk_cell BK222.out 1).trans rfl, (blk_cell BK222.out 2).trans rfl, (blk_cell BK222.out 3).trans rfl, (blk_cell BK222.out 4).trans rfl⟩ (fun hHeld => ?_)
     clear hK K
     refine nz_ 21 ?_
     refine one_ (i := 3) (N := some 23) ba13_4 rfl rfl (by kernel_rfl) (by decide) (fun K hK => ?_)
     refine gz_ Try.func15 #[.agg #[.int .i64 a1_0, .int .i64 a1_1, .int .i64 a1_2, .slice A1_3 l1_3.length c1_3, .slice A1_4 l1_4.length c1_4]] ?_
     with_reducible refine (laws_toLsa.calls k a1_0 a1_1 a1_2 _ _ l1_3 _ _ l1_4 t234 t235 t236 t237 t240 _ ?side1 ?side2 ?side3 ?side4 A20.out).mono ?_
     (case side1 => exact cb_ HR1_3 HB)
     (case side2 => exact HC1_3.out)
     (case side3 => exact cb_ HR1_4 HB)
     (case side4 => exact HC1_4.out)
     rintro e w163 ⟨v238, v241, rfl, ho0, ho1, hb⟩
     refine ⟨_, rfl, ?_⟩
     have HO239 := Aside0.mk (Kd.R_lower (Kd.R_new' ho0 (Kd.R_lt (hd_ HO230))) (bz_ HB))
     have HO242 := Aside0.mk (Kd.R_lower (Kd.R_new' ho1 (Kd.R_lt (hd_ HO233))) (bz_ HB))
     replace HO230 := Aside0.mk (Kd.R_elder' (hd_ HO230) (Kd.R_base ho0) hb)
     replace HO233 := Aside0.mk (Kd.R_elder' (hd_ HO233) (Kd.R_base ho1) hb)
     replace BK221 := Aside0.mk (bb_ BK221 hb)
     replace BK222 := Aside0.mk (bb_ BK222 hb)
     replace HB := Aside0.mk (bt_ HB hb)
     (try clear hb)
     (try clear hb2)
     (try clear hk)
     (try clear hi)
     (try clear ho0)
     (try clear ho1)
     obtain ⟨Ao164, co164, eo164⟩ := Kd.R_slice HO230.out
     (first | subst eo164 | (injection eo164 with f1_ f2_ f3_; have f4_ := f1_.symm; have f5_ := f3_.symm; clear f1_ f2_ f3_; subst f4_; subst f5_))
     obtain ⟨Ao165, co165, eo165⟩ := Kd.R_slice HO233.out
     (first | subst eo165 | (injection eo165 with f1_ f2_ f3_; have f4_ := f1_.symm; have f5_ := f3_.symm; clear f1_ f2_ f3_; subst f4_; subst f5_))
     obtain ⟨Ao166, co166, eo166⟩ := Kd.R_slice HO239.out
     (first | subst eo166 | (injection eo166 with f1_ f2_ f3_; have f4_ := f1_.symm; have f5_ := f3_.symm; clear f1_ f2_ f3_; subst f4_; subst f5_))
     obtain ⟨Ao167, co167, eo167⟩ := Kd.R_slice HO242.out
     (first | subst eo167 | (injection eo167 with f1_ f2_ f3_; have f4_ := f1_.symm; have f5_ := f3_.symm; clear f1_ f2_ f3_; subst f4_; subst f5_))
     refine hK.out _ _ ⟨(blk_cell BK221.out 0).trans rfl, (blk_cell BK221.out 1).trans rfl, (blk_cell BK221.out 2).trans rfl, (blk_cell BK221.out 3).trans rfl, (blk_cell BK221.out 4).trans rfl, (blk_cell BK222.out 0).trans rfl, (blk_cell BK222.out 1).trans rfl, (blk_cell BK222.out 2).trans rfl, (blk_cell BK222.out 3).trans rfl, (blk_cell BK222.out 4).trans rfl⟩ (fun hHeld => ?_)
     clear hK K
     refine nz_ 23 ?_
     refine one_ (i := 4) (N := some 24) ba13_5 rfl rfl (by kernel_rfl) (by decide) (fun K hK => ?_)
     refine gz_ Try.func18 #[.agg #[.int .i64 t225, .int .i64 t226, .int .i64 t227, .slice Ao164 t228.length co164, .slice Ao165 t231.length co165], .agg #[.int .i64 t234, .int .i64 t235, .int .i64 t236, .slice Ao166 t237.length co166, .slice Ao167 t240.length co167]] ?_
     with_reducible refine (spec_SameWords.calls k t225 t226 t227 _ _ t228 _ _ t231 t234 t235 t236 _ _ t237 _ _ t240 t243 _ ?side1 ?side2 ?side3 ?side4 ?side5 ?side6 ?side7 ?side8 A21.out).mono ?_
     (case side1 => exact rc_ HO230)
     (case side2 => exact (Kd.R_reads' HO230.out).2.1)
     (case side3 => exact rc_ HO233)
     (case side4 => exact (Kd.R_reads' HO233.out).2.1)
     (case side5 => exact rc_ HO239)
     (case side6 => exact (Kd.R_reads' HO239.out).2.1)
     (case side7 => exact rc_ HO242)
     (case side8 => exact (Kd.R_reads' HO242.out).2.1)
     rintro e w168 ⟨rfl, hb⟩
     refine ⟨_, rfl, ?_⟩
     replace HO230 := rb_ HO230 hb
     replace HO233 := rb_ HO233 hb
     replace HO239 := rb_ HO239 hb
     replace HO242 := rb_ HO242 hb
     replace BK221 := Aside0.mk (bb_ BK221 hb)
     replace BK222 := Aside0.mk (bb_ BK222 hb)
     replace HB := Aside0.mk (bt_ HB hb)
     (try clear hb)
     (try clear hb2)
     (try clear hk)
     (try clear hi)
     refine hK.out _ _ ⟨(blk_cell BK221.out 0).trans rfl, (blk_cell BK221.out 1).trans rfl, (blk_cell BK221.out 2).trans rfl, (blk_cell BK221.out 3).trans rfl, (blk_cell BK221.out 4).trans rfl, (blk_cell BK222.out 0).trans rfl, (blk_cell BK222.out 1).trans rfl, (blk_cell BK222.out 2).trans rfl, (blk_cell BK222.out 3).trans rfl, (blk_cell BK222.out 4).trans rfl⟩ (fun hHeld => ?_)
     clear hK K
     refine nz_ 24 ?_
     refine pure_ (i := 5) (N := some 6) (v := ?_) (a' := ?_) ba13_6 rfl rfl (by kernel_rfl) (fun _ _ _ h => h) (Or.inl ⟨by rfl, ?_⟩) ?_ ?_
     rotate_left; · intro w'; go_simp; with_reducible rfl
     rotate_left; · simp only [Act.put, List.setIfInBounds_toArray, List.set_cons_zero, List.set_cons_succ, i64_w, i32_w]; rfl
     refine done_ (by kernel_rfl) ?_
     have hcz169_0 := cz_ BK221 0 (.int .i64 a0_0)
     have hcz169_1 := cz_ BK221 1 (.int .i64 a0_1)
     have hcz169_2 := cz_ BK221 2 (.int .i64 a0_2)
     have hcz169_3 := cz_ BK221 3 (.slice A0_3 l0_3.length c0_3)
     have hcz169_4 := cz_ BK221 4 (.slice A0_4 l0_4.length c0_4)
     have hfz169_0 := blk_frozen BK221.out 0
     have hfz169_1 := blk_frozen BK221.out 1
     have hfz169_2 := blk_frozen BK221.out 2
     have hfz169_3 := blk_frozen BK221.out 3
     have hfz169_4 := blk_frozen BK221.out 4
     try go_wp2_with (first | ((with_reducible refine gate_callee (f := 15) rfl ?_); refine gl_ (some 26) Try.func15 #[.agg #[.int .i64 a0_0, .int .i64 a0_1, .int .i64 a0_2, .slice A0_3 l0_3.length c0_3, .slice A0_4 l0_4.length c0_4]] ?_; (with_reducible refine (laws_toLsa.calls k a0_0 a0_1 a0_2 _ _ l0_3 _ _ l0_4 t244 t245 t246 t247 t250 _ ?side1 ?side2 ?side3 ?side4 A22.out).mono ?_); (case side1 => exact cb_ HR0_3 HB); (case side2 => exact HC0_3.out); (case side3 => exact cb_ HR0_4 HB); (case side4 => exact HC0_4.out); rintro e w170 ⟨v248, v251, rfl, ho0, ho1, hb⟩; refine ⟨_, rfl, ?_⟩; have HO249 := Aside0.mk (Kd.R_lower (Kd.R_new' (Kd.R_new' ho0 (Kd.R_lt (hd_ HO230))) (Kd.R_lt (hd_ HO239))) (bz_ HB)); have HO252 := Aside0.mk (Kd.R_lower (Kd.R_new' (Kd.R_new' ho1 (Kd.R_lt (hd_ HO233))) (Kd.R_lt (hd_ HO242))) (bz_ HB)); replace HO230 := Aside0.mk (Kd.R_elder' (hd_ HO230) (Kd.R_base ho0) hb); replace HO239 := Aside0.mk (Kd.R_elder' (hd_ HO239) (Kd.R_base ho0) hb); replace HO233 := Aside0.mk (Kd.R_elder' (hd_ HO233) (Kd.R_base ho1) hb); replace HO242 := Aside0.mk (Kd.R_elder' (hd_ HO242) (Kd.R_base ho1) hb); replace BK221 := Aside0.mk (bb_ BK221 hb); replace BK222 := Aside0.mk (bb_ BK222 hb); replace HB := Aside0.mk (bt_ HB hb); (try clear hb); (try clear hb2); (try clear hk); (try clear hi); (try clear ho0); (try clear ho1)) | ((with_reducible refine gate_dst (N := 7) rfl ?_); refine box_event ?hg (N := 7) ?hd (cs := #[.int .i64 0, .int .i64 0, .int .i64 0, .slice none 0 0, .slice none 0 0]) (t := 31) ?hr ?_; (case hd => rfl); (case hg => rfl); (case hr => first | (go_simp; done) | (go_simp; rfl)); intro gb253 hg w171 hbox hb; have BK253 := Aside0.mk hbox; have GW253 := ge_ HB hg; have GE253 := ge_ HB hg; have NB221_253 := nl_ BK221 hg; have NB253_221 := ng_ BK221 hg; have NB222_253 := nl_ BK222 hg; have NB253_222 := ng_ BK222 hg; replace HO230 := rb_ HO230 hb; replace HO233 := rb_ HO233 hb; replace HO239 := rb_ HO239 hb; replace HO242 := rb_ HO242 hb; replace HO249 := rb_ HO249 hb; replace HO252 := rb_ HO252 hb; replace HB := Aside0.mk (bt_ HB hb); replace BK221 := Aside0.mk (bb_ BK221 hb); replace BK222 := Aside0.mk (bb_ BK222 hb); clear hb hbox hg; have hnb172 := NB253_221.out; have hnc172 := NB221_253.out; have hnb173 := NB253_222.out; have hnc173 := NB222_253.out; have hcz174_0 := cz_ BK253 0 (.int .i64 0); have hcz174_1 := cz_ BK253 1 (.int .i64 0); have hcz174_2 := cz_ BK253 2 (.int .i64 0); have hcz174_3 := cz_ BK253 3 (.slice none 0 0); have hcz174_4 := cz_ BK253 4 (.slice none 0 0); have hfz174_0 := blk_frozen BK253.out 0; have hfz174_1 := blk_frozen BK253.out 1; have hfz174_2 := blk_frozen BK253.out 2; have hfz174_3 := blk_frozen BK253.out 3; have hfz174_4 := blk_frozen BK253.out 4; obtain ⟨Ao175, co175, eo175⟩ := Kd.R_slice HO249.out; subst eo175; obtain ⟨Ao176, co176, eo176⟩ := Kd.R_slice HO252.out; subst eo176; have hcz177_0 := cz_ BK222 0 (.int .i64 a1_0); have hcz177_1 := cz_ BK222 1 (.int .i64 a1_1); have hcz177_2 := cz_ BK222 2 (.int .i64 a1_2); have hcz177_3 := cz_ BK222 3 (.slice A1_3 l1_3.length c1_3); have hcz177_4 := cz_ BK222 4 (.slice A1_4 l1_4.length c1_4); have hfz177_0 := blk_frozen BK222.out 0; have hfz177_1 := blk_frozen BK222.out 1; have hfz177_2 := blk_frozen BK222.out 2; have hfz177_3 := blk_frozen BK222.out 3; have hfz177_4 := blk_frozen BK222.out 4) | ((with_reducible refine gate_callee (f := 15) rfl ?_); refine gl_ (some 28) Try.func15 #[.agg #[.int .i64 a1_0, .int .i64 a1_1, .int .i64 a1_2, .slice A1_3 l1_3.length c1_3, .slice A1_4 l1_4.length c1_4]] ?_; (with_reducible refine (laws_toLsa.calls k a1_0 a1_1 a1_2 _ _ l1_3 _ _ l1_4 t254 t255 t256 t257 t260 _ ?side1 ?side2 ?side3 ?side4 A23.out).mono ?_); (case side1 => exact Kd.C_below HR1_3.out (by repeat (first | (with_reducible first | exact HB.out | apply below_alloc | apply pw_below_drewN | apply below_drew1 | refine below_set ?_ GE221.out | refine below_set ?_ GE222.out | refine below_set ?_ GE253.out) | exact HB.out))); (case side2 => exact HC1_3.out); (case side3 => exact Kd.C_below HR1_4.out (by repeat (first | (with_reducible first | exact HB.out | apply below_alloc | apply pw_below_drewN | apply below_drew1 | refine below_set ?_ GE221.out | refine below_set ?_ GE222.out | refine below_set ?_ GE253.out) | exact HB.out))); (case side4 => exact HC1_4.out); rintro e w178 ⟨v258, v261, rfl, ho0, ho1, hb⟩; refine ⟨_, rfl, ?_⟩; have HO259 := Aside0.mk (Kd.R_lower (Kd.R_new' (Kd.R_new' (Kd.R_new' ho0 (Kd.R_lt (hs_ HO230 BK253))) (Kd.R_lt (hs_ HO239 BK253))) (Kd.R_lt (hs_ HO249 BK253))) (bz_ HB)); have HO262 := Aside0.mk (Kd.R_lower (Kd.R_new' (Kd.R_new' (Kd.R_new' ho1 (Kd.R_lt (hs_ HO233 BK253))) (Kd.R_lt (hs_ HO242 BK253))) (Kd.R_lt (hs_ HO252 BK253))) (bz_ HB)); replace HO230 := Aside0.mk (Kd.R_elder' (hs_ HO230 BK253) (Kd.R_base ho0) hb); replace HO239 := Aside0.mk (Kd.R_elder' (hs_ HO239 BK253) (Kd.R_base ho0) hb); replace HO249 := Aside0.mk (Kd.R_elder' (hs_ HO249 BK253) (Kd.R_base ho0) hb); replace HO233 := Aside0.mk (Kd.R_elder' (hs_ HO233 BK253) (Kd.R_base ho1) hb); replace HO242 := Aside0.mk (Kd.R_elder' (hs_ HO242 BK253) (Kd.R_base ho1) hb); replace HO252 := Aside0.mk (Kd.R_elder' (hs_ HO252 BK253) (Kd.R_base ho1) hb); replace BK221 := bf_ BK221 NB221_253 hb; replace BK222 := bf_ BK222 NB222_253 hb; replace BK253 := Aside0.mk (blk_below (g := gb253) (o := .cells #[.int .i64 t244, .int .i64 t245, .int .i64 t246, .slice Ao175 t247.length co175, .slice Ao176 t250.length co176] 31 (0, 0)) (by (with_reducible repeat (first | refine blk_drewN ?_ _ | refine blk_drew ?_ | refine blk_alloc ?_ _)); refine blk_put (cs := #[.int .i64 t244, .int .i64 t245, .int .i64 t246, .slice Ao175 t247.length co175, .slice none 0 0]) ?_ 4 _ rfl; (with_reducible repeat (first | refine blk_drewN ?_ _ | refine blk_drew ?_ | refine blk_alloc ?_ _)); refine blk_put (cs := #[.int .i64 t244, .int .i64 t245, .int .i64 t246, .slice none 0 0, .slice none 0 0]) ?_ 3 _ rfl; (with_reducible repeat (first | refine blk_drewN ?_ _ | refine blk_drew ?_ | refine blk_alloc ?_ _)); refine blk_put (cs := #[.int .i64 t244, .int .i64 t245, .int .i64 0, .slice none 0 0, .slice none 0 0]) ?_ 2 _ rfl; (with_reducible repeat (first | refine blk_drewN ?_ _ | refine blk_drew ?_ | refine blk_alloc ?_ _)); refine blk_put (cs := #[.int .i64 t244, .int .i64 0, .int .i64 0, .slice none 0 0, .slice none 0 0]) ?_ 1 _ rfl; (with_reducible repeat (first | refine blk_drewN ?_ _ | refine blk_drew ?_ | refine blk_alloc ?_ _)); refine blk_put (cs := #[.int .i64 0, .int .i64 0, .int .i64 0, .slice none 0 0, .slice none 0 0]) ?_ 0 _ rfl; (with_reducible repeat (first | refine blk_drewN ?_ _ | refine blk_drew ?_ | refine blk_alloc ?_ _)); exact BK253.out) hb); replace HB := Aside0.mk (bt_ HB hb); (try clear hb); (try clear hb2); (try clear hk); (try clear hi); (try clear ho0); (try clear ho1)) | ((with_reducible refine gate_dst (N := 8) rfl ?_); refine box_event ?hg (N := 8) ?hd (cs := #[.int .i64 0, .int .i64 0, .int .i64 0, .slice none 0 0, .slice none 0 0]) (t := 31) ?hr ?_; (case hd => rfl); (case hg => rfl); (case hr => first | (go_simp; done) | (go_simp; rfl)); intro gb263 hg w179 hbox hb; have BK263 := Aside0.mk hbox; have GW263 := ge_ HB hg; have GE263 := ge_ HB hg; have NB221_263 := nl_ BK221 hg; have NB263_221 := ng_ BK221 hg; have NB222_263 := nl_ BK222 hg; have NB263_222 := ng_ BK222 hg; have NB253_263 := nl_ BK253 hg; have NB263_253 := ng_ BK253 hg; replace HO230 := rb_ HO230 hb; replace HO233 := rb_ HO233 hb; replace HO239 := rb_ HO239 hb; replace HO242 := rb_ HO242 hb; replace HO249 := rb_ HO249 hb; replace HO252 := rb_ HO252 hb; replace HO259 := rb_ HO259 hb; replace HO262 := rb_ HO262 hb; replace HB := Aside0.mk (bt_ HB hb); replace BK221 := Aside0.mk (bb_ BK221 hb); replace BK222 := Aside0.mk (bb_ BK222 hb); replace BK253 := Aside0.mk (bb_ BK253 hb); clear hb hbox hg; have hnb180 := NB263_221.out; have hnc180 := NB221_263.out; have hnb181 := NB263_222.out; have hnc181 := NB222_263.out; have hnb182 := NB263_253.out; have hnc182 := NB253_263.out; have hcz183_0 := cz_ BK263 0 (.int .i64 0); have hcz183_1 := cz_ BK263 1 (.int .i64 0); have hcz183_2 := cz_ BK263 2 (.int .i64 0); have hcz183_3 := cz_ BK263 3 (.slice none 0 0); have hcz183_4 := cz_ BK263 4 (.slice none 0 0); have hfz183_0 := blk_frozen BK263.out 0; have hfz183_1 := blk_frozen BK263.out 1; have hfz183_2 := blk_frozen BK263.out 2; have hfz183_3 := blk_frozen BK263.out 3; have hfz183_4 := blk_frozen BK263.out 4; obtain ⟨Ao184, co184, eo184⟩ := Kd.R_slice HO259.out; subst eo184; obtain ⟨Ao185, co185, eo185⟩ := Kd.R_slice HO262.out; subst eo185; have hcz186_0 := cz_ BK253 0 (.int .i64 t244); have hcz186_1 := cz_ BK253 1 (.int .i64 t245); have hcz186_2 := cz_ BK253 2 (.int .i64 t246); have hcz186_3 := cz_ BK253 3 (.slice Ao175 t247.length co175); have hcz186_4 := cz_ BK253 4 (.slice Ao176 t250.length co176); have hfz186_0 := blk_frozen BK253.out 0; have hfz186_1 := blk_frozen BK253.out 1; have hfz186_2 := blk_frozen BK253.out 2; have hfz186_3 := blk_frozen BK253.out 3; have hfz186_4 := blk_frozen BK253.out 4) | ((with_reducible refine gate_callee (f := 19) rfl ?_); refine gl_ (some 31) Try.func19 #[.agg #[.int .i64 t244, .int .i64 t245, .int .i64 t246, .slice Ao175 t247.length co175, .slice Ao176 t250.length co176], .agg #[.int .i64 t254, .int .i64 t255, .int .i64 t256, .slice Ao184 t257.length co184, .slice Ao185 t260.length co185]] ?_; (with_reducible refine (impl_SameWords.calls k t244 t245 t246 _ _ t247 _ _ t250 t254 t255 t256 _ _ t257 _ _ t260 t264 _ ?side1 ?side2 ?side3 ?side4 ?side5 ?side6 ?side7 ?side8 A24.out).mono ?_); (case side1 => refine (Kd.R_reads' (e := 70) (base := w.heap.size) (ok := fun k_ => (((True ∧ some k_ ≠ (.slice Ao164 t228.length co164 : Value).ownBlock) ∧ some k_ ≠ (.slice Ao166 t237.length co166 : Value).ownBlock) ∧ some k_ ≠ (.slice Ao184 t257.length co184 : Value).ownBlock)) (n := t247.length) (c := co175) ?_).2.2; exact (hs_ HO249 BK263)); (case side2 => exact (Kd.R_reads' HO249.out).2.1); (case side3 => refine (Kd.R_reads' (e := 74) (base := w.heap.size) (ok := fun k_ => (((True ∧ some k_ ≠ (.slice Ao165 t231.length co165 : Value).ownBlock) ∧ some k_ ≠ (.slice Ao167 t240.length co167 : Value).ownBlock) ∧ some k_ ≠ (.slice Ao185 t260.length co185 : Value).ownBlock)) (n := t250.length) (c := co176) ?_).2.2; exact (hs_ HO252 BK263)); (case side4 => exact (Kd.R_reads' HO252.out).2.1); (case side5 => refine (Kd.R_reads' (e := 70) (base := w.heap.size) (ok := fun k_ => (((True ∧ some k_ ≠ (.slice Ao164 t228.length co164 : Value).ownBlock) ∧ some k_ ≠ (.slice Ao166 t237.length co166 : Value).ownBlock) ∧ some k_ ≠ (.slice Ao175 t247.length co175 : Value).ownBlock)) (n := t257.length) (c := co184) ?_).2.2; exact (hs_ HO259 BK263)); (case side6 => exact (Kd.R_reads' HO259.out).2.1); (case side7 => refine (Kd.R_reads' (e := 74) (base := w.heap.size) (ok := fun k_ => (((True ∧ some k_ ≠ (.slice Ao165 t231.length co165 : Value).ownBlock) ∧ some k_ ≠ (.slice Ao167 t240.length co167 : Value).ownBlock) ∧ some k_ ≠ (.slice Ao176 t250.length co176 : Value).ownBlock)) (n := t260.length) (c := co185) ?_).2.2; exact (hs_ HO262 BK263)); (case side8 => exact (Kd.R_reads' HO262.out).2.1); rintro e w187 ⟨rfl, hb⟩; refine ⟨_, rfl, ?_⟩; replace HO230 := rs_ HO230 BK263 hb; replace HO233 := rs_ HO233 BK263 hb; replace HO239 := rs_ HO239 BK263 hb; replace HO242 := rs_ HO242 BK263 hb; replace HO249 := rs_ HO249 BK263 hb; replace HO252 := rs_ HO252 BK263 hb; replace HO259 := rs_ HO259 BK263 hb; replace HO262 := rs_ HO262 BK263 hb; replace BK221 := bf_ BK221 NB221_263 hb; replace BK222 := bf_ BK222 NB222_263 hb; replace BK253 := bf_ BK253 NB253_263 hb; replace BK263 := Aside0.mk (blk_below (g := gb263) (o := .cells #[.int .i64 t254, .int .i64 t255, .int .i64 t256, .slice Ao184 t257.length co184, .slice Ao185 t260.length co185] 31 (0, 0)) (by (with_reducible repeat (first | refine blk_drewN ?_ _ | refine blk_drew ?_ | refine blk_alloc ?_ _)); refine blk_put (cs := #[.int .i64 t254, .int .i64 t255, .int .i64 t256, .slice Ao184 t257.length co184, .slice none 0 0]) ?_ 4 _ rfl; (with_reducible repeat (first | refine blk_drewN ?_ _ | refine blk_drew ?_ | refine blk_alloc ?_ _)); refine blk_put (cs := #[.int .i64 t254, .int .i64 t255, .int .i64 t256, .slice none 0 0, .slice none 0 0]) ?_ 3 _ rfl; (with_reducible repeat (first | refine blk_drewN ?_ _ | refine blk_drew ?_ | refine blk_alloc ?_ _)); refine blk_put (cs := #[.int .i64 t254, .int .i64 t255, .int .i64 0, .slice none 0 0, .slice none 0 0]) ?_ 2 _ rfl; (with_reducible repeat (first | refine blk_drewN ?_ _ | refine blk_drew ?_ | refine blk_alloc ?_ _)); refine blk_put (cs := #[.int .i64 t254, .int .i64 0, .int .i64 0, .slice none 0 0, .slice none 0 0]) ?_ 1 _ rfl; (with_reducible repeat (first | refine blk_drewN ?_ _ | refine blk_drew ?_ | refine blk_alloc ?_ _)); refine blk_put (cs := #[.int .i64 0, .int .i64 0, .int .i64 0, .slice none 0 0, .slice none 0 0]) ?_ 0 _ rfl; (with_reducible repeat (first | refine blk_drewN ?_ _ | refine blk_drew ?_ | refine blk_alloc ?_ _)); exact BK263.out) hb); replace HB := Aside0.mk (bt_ HB hb); (try clear hb); (try clear hb2); (try clear hk); (try clear hi)))
     replace HO230 := Aside0.mk (Kd.R_drew HO230.out)
     replace HO233 := Aside0.mk (Kd.R_drew HO233.out)
     replace HO239 := Aside0.mk (Kd.R_drew HO239.out)
     replace HO242 := Aside0.mk (Kd.R_drew HO242.out)
     replace HO249 := Aside0.mk (Kd.R_drew HO249.out)
     replace HO252 := Aside0.mk (Kd.R_drew HO252.out)
     replace HO259 := Aside0.mk (Kd.R_drew HO259.out)
     replace HO262 := Aside0.mk (Kd.R_drew HO262.out)
     replace BK221 := Aside0.mk (blk_drew BK221.out)
     replace BK222 := Aside0.mk (blk_drew BK222.out)
     replace BK253 := Aside0.mk (blk_drew BK253.out)
     replace BK263 := Aside0.mk (blk_drew BK263.out)
     replace HB := Aside0.mk (below_drew1 HB.out)
     refine start_ (n := 5) (S := fun w' => w'.cell? ⟨gb253, 0, none⟩ = some (.int .i64 t244) ∧ w'.cell? ⟨gb253, 1, none⟩ = some (.int .i64 t245) ∧ w'.cell? ⟨gb253, 2, none⟩ = some (.int .i64 t246) ∧ w'.cell? ⟨gb253, 3, none⟩ = some (.slice Ao175 t247.length co175) ∧ w'.cell? ⟨gb253, 4, none⟩ = some (.slice Ao176 t250.length co176) ∧ w'.cell? ⟨gb221, 0, none⟩ = some (.int .i64 a0_0) ∧ w'.cell? ⟨gb221, 1, none⟩ = some (.int .i64 a0_1) ∧ w'.cell? ⟨gb221, 2, none⟩ = some (.int .i64 a0_2) ∧ w'.cell? ⟨gb221, 3, none⟩ = some (.slice A0_3 l0_3.length c0_3) ∧ w'.cell? ⟨gb221, 4, none⟩ = some (.slice A0_4 l0_4.length c0_4)) (ds := []) ba13_7 (by kernel_rfl) rfl rfl ⟨(blk_cell BK253.out 0).trans rfl, (blk_cell BK253.out 1).trans rfl, (blk_cell BK253.out 2).trans rfl, (blk_cell BK253.out 3).trans rfl, (blk_cell BK253.out 4).trans rfl, (blk_cell BK221.out 0).trans rfl, (blk_cell BK221.out 1).trans rfl, (blk_cell BK221.out 2).trans rfl, (blk_cell BK221.out 3).trans rfl, (blk_cell BK221.out 4).trans rfl⟩ (fun hHeld => ?_)
     generalize w187.drew = w188 at HO230 HO233 HO239 HO242 HO249 HO252 HO259 HO262 BK221 BK222 BK253 BK263 HB hHeld ⊢
     refine take_ (i := 0) (N := some 35) (v := ?_) (a' := ?_) ba13_8 rfl rfl (by kernel_rfl) (fun _ _ _ h => h) (Or.inl ⟨by rfl, ?_⟩) hHeld ?_ ?_
     rotate_left; · rintro w' ⟨s0, s1, s2, s3, s4, s5, s6, s7, s8, s9⟩; go_simp; with_reducible rfl
     rotate_left; · simp only [Act.put, List.setIfInBounds_toArray, List.set_cons_zero, List.set_cons_succ, i64_w, i32_w]; rfl
     refine take_ (i := 1) (N := some 36) (v := ?_) (a' := ?_) ba13_9 rfl rfl (by kernel_rfl) (fun _ _ _ h => h) (Or.inl ⟨by rfl, ?_⟩) hHeld ?_ ?_
     rotate_left; · rintro w' ⟨s0, s1, s2, s3, s4, s5, s6, s7, s8, s9⟩; go_simp; with_reducible rfl
     rotate_left; · simp only [Act.put, List.setIfInBounds_toArray, List.set_cons_zero, List.set_cons_succ, i64_w, i32_w]; rfl
     refine one_ (i := 2) (N := some 37) ba13_10 rfl rfl (by kernel_rfl) (by decide) (fun K hK => ?_)
     refine gz_ Try.func15 #[.agg #[.int .i64 a0_0, .int .i64 a0_1, .int .i64 a0_2, .slice A0_3 l0_3.length c0_3, .slice A0_4 l0_4.length c0_4]] ?_
     with_reducible refine (laws_toLsa.calls k a0_0 a0_1 a0_2 _ _ l0_3 _ _ l0_4 t265 t266 t267 t268 t271 _ ?side1 ?side2 ?side3 ?side4 A60.out).mono ?_
     (case side1 => exact cb_ HR0_3 HB)
     (case side2 => exact HC0_3.out)
     (case side3 => exact cb_ HR0_4 HB)
     (case side4 => exact HC0_4.out)
     rintro e w189 ⟨v269, v272, rfl, ho0, ho1, hb⟩
     refine ⟨_, rfl, ?_⟩
     have HO270 := Aside0.mk (Kd.R_lower (Kd.R_new' (Kd.R_new' (Kd.R_new' (Kd.R_new' ho0 (Kd.R_lt (hd_ HO230))) (Kd.R_lt (hd_ HO239))) (Kd.R_lt (hd_ HO249))) (Kd.R_lt (hd_ HO259))) (bz_ HB))
     have HO273 := Aside0.mk (Kd.R_lower (Kd.R_new' (Kd.R_new' (Kd.R_new' (Kd.R_new' ho1 (Kd.R_lt (hd_ HO233))) (Kd.R_lt (hd_ HO242))) (Kd.R_lt (hd_ HO252))) (Kd.R_lt (hd_ HO262))) (bz_ HB))
     replace HO230 := Aside0.mk (Kd.R_elder' (hd_ HO230) (Kd.R_base ho0) hb)
     replace HO239 := Aside0.mk (Kd.R_elder' (hd_ HO239) (Kd.R_base ho0) hb)
     replace HO249 := Aside0.mk (Kd.R_elder' (hd_ HO249) (Kd.R_base ho0) hb)
     replace HO259 := Aside0.mk (Kd.R_elder' (hd_ HO259) (Kd.R_base ho0) hb)
     replace HO233 := Aside0.mk (Kd.R_elder' (hd_ HO233) (Kd.R_base ho1) hb)
     replace HO242 := Aside0.mk (Kd.R_elder' (hd_ HO242) (Kd.R_base ho1) hb)
     replace HO252 := Aside0.mk (Kd.R_elder' (hd_ HO252) (Kd.R_base ho1) hb)
     replace HO262 := Aside0.mk (Kd.R_elder' (hd_ HO262) (Kd.R_base ho1) hb)
     replace BK221 := Aside0.mk (bb_ BK221 hb)
     replace BK222 := Aside0.mk (bb_ BK222 hb)
     replace BK253 := Aside0.mk (bb_ BK253 hb)
     replace BK263 := Aside0.mk (bb_ BK263 hb)
     replace HB := Aside0.mk (bt_ HB hb)
     (try clear hb)
     (try clear hb2)
     (try clear hk)
     (try clear hi)
     (try clear ho0)
     (try clear ho1)
     obtain ⟨Ao190, co190, eo190⟩ := Kd.R_slice HO270.out
     (first | subst eo190 | (injection eo190 with f1_ f2_ f3_; have f4_ := f1_.symm; have f5_ := f3_.symm; clear f1_ f2_ f3_; subst f4_; subst f5_))
     obtain ⟨Ao191, co191, eo191⟩ := Kd.R_slice HO273.out
     (first | subst eo191 | (injection eo191 with f1_ f2_ f3_; have f4_ := f1_.symm; have f5_ := f3_.symm; clear f1_ f2_ f3_; subst f4_; subst f5_))
     refine hK.out _ _ ⟨(blk_cell BK253.out 0).trans rfl, (blk_cell BK253.out 1).trans rfl, (blk_cell BK253.out 2).trans rfl, (blk_cell BK253.out 3).trans rfl, (blk_cell BK253.out 4).trans rfl, (blk_cell BK221.out 0).trans rfl, (blk_cell BK221.out 1).trans rfl, (blk_cell BK221.out 2).trans rfl, (blk_cell BK221.out 3).trans rfl, (blk_cell BK221.out 4).trans rfl⟩ (fun hHeld => ?_)
     clear hK K
     refine nz_ 37 ?_
     refine one_ (i := 3) (N := some 38) ba13_11 rfl rfl (by kernel_rfl) (by decide) (fun K hK => ?_)
     refine gz_ Try.func17 #[.agg #[.int .i64 t244, .int .i64 t245, .int .i64 t246, .slice Ao175 t247.length co175, .slice Ao176 t250.length co176], .agg #[.int .i64 t265, .int .i64 t266, .int .i64 t267, .slice Ao190 t268.length co190, .slice Ao191 t271.length co191]] ?_
     with_reducible refine (laws_eqLsa.calls k t244 t245 t246 _ _ t247 _ _ t250 t265 t266 t267 _ _ t268 _ _ t271 false _ ?side1 ?side2 ?side3 ?side4 ?side5 ?side6 ?side7 ?side8 A61.out).mono ?_
     (case side1 => exact rc_ HO249)
     (case side2 => exact (Kd.R_reads' HO249.out).2.1)
     (case side3 => exact rc_ HO252)
     (case side4 => exact (Kd.R_reads' HO252.out).2.1)
     (case side5 => exact rc_ HO270)
     (case side6 => exact (Kd.R_reads' HO270.out).2.1)
     (case side7 => exact rc_ HO273)
     (case side8 => exact (Kd.R_reads' HO273.out).2.1)
     rintro e w192 ⟨rfl, hb⟩
     refine ⟨_, rfl, ?_⟩
     replace HO230 := rb_ HO230 hb
     replace HO233 := rb_ HO233 hb
     replace HO239 := rb_ HO239 hb
     replace HO242 := rb_ HO242 hb
     replace HO249 := rb_ HO249 hb
     replace HO252 := rb_ HO252 hb
     replace HO259 := rb_ HO259 hb
     replace HO262 := rb_ HO262 hb
     replace HO270 := rb_ HO270 hb
     replace HO273 := rb_ HO273 hb
     replace BK221 := Aside0.mk (bb_ BK221 hb)
     replace BK222 := Aside0.mk (bb_ BK222 hb)
     replace BK253 := Aside0.mk (bb_ BK253 hb)
     replace BK263 := Aside0.mk (bb_ BK263 hb)
     replace HB := Aside0.mk (bt_ HB hb)
     (try clear hb)
     (try clear hb2)
     (try clear hk)
     (try clear hi)
     refine hK.out _ _ ⟨(blk_cell BK253.out 0).trans rfl, (blk_cell BK253.out 1).trans rfl, (blk_cell BK253.out 2).trans rfl, (blk_cell BK253.out 3).trans rfl, (blk_cell BK253.out 4).trans rfl, (blk_cell BK221.out 0).trans rfl, (blk_cell BK221.out 1).trans rfl, (blk_cell BK221.out 2).trans rfl, (blk_cell BK221.out 3).trans rfl, (blk_cell BK221.out 4).trans rfl⟩ (fun hHeld => ?_)
     clear hK K
     refine nz_ 38 ?_
     refine pure_ (i := 4) (N := some 39) (v := ?_) (a' := ?_) ba13_12 rfl rfl (by kernel_rfl) (fun _ _ _ h => h) (Or.inl ⟨by rfl, ?_⟩) ?_ ?_
     rotate_left; · intro w'; go_simp; with_reducible rfl
     rotate_left; · simp only [Act.put, List.setIfInBounds_toArray, List.set_cons_zero, List.set_cons_succ, i64_w, i32_w]; rfl
     refine done_ (by kernel_rfl) ?_
     try go_wp2
     go_ret
     exact ⟨by first | rfl | (simp [errW_none, errW_some] <;> rfl) | (simp [*, errW_none, errW_some] <;> rfl), by repeat (first | (with_reducible first | exact HB.out | apply below_alloc | apply pw_below_drewN | apply below_drew1 | refine below_set ?_ GE221.out | refine below_set ?_ GE222.out | refine below_set ?_ GE253.out | refine below_set ?_ GE263.out) | exact HB.out)⟩

end Go.Proofs.Ytiikcfaodkiakaa.QFnExactSameWords
