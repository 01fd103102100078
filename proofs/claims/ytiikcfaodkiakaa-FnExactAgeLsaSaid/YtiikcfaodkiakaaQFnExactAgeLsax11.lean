/- Contracts of functions that the law reaches: what each call returns and what it leaves in memory. Made by this session over the print of the kit. -/
import Derived.Test.YtiikcfaodkiakaaQFnExactAgeLsax0
import Derived.Test.YtiikcfaodkiakaaQFnExactAgeLsax7
import Derived.Test.YtiikcfaodkiakaaQFnExactAgeLsax8
import Derived.Test.YtiikcfaodkiakaaQFnExactAgeLsax10
namespace Go.Proofs.Ytiikcfaodkiakaa.QFnExactAgeLsa
open Go.RowKit Go.Proofs.YtiikcfaodkiakaaU.PrintWords Go.Proofs.YtiikcfaodkiakaaU.PrintLast Go.Proofs.YtiikcfaodkiakaaU.PrintMore
attribute [local go_sem] max2_int min2_int max_two min_two max_three min_three max_four min_four   -- for this text's walks alone
set_option linter.unusedVariables false
set_option linter.unusedSimpArgs false
def ba11_0 : Array Bool := #[false, false, false, false, false, false, false, false, false, false]
def ba11_1 : Array Bool := #[true, false, false, false, false, false, false, false, false, false]
def ba11_2 : Array Bool := #[true, false, false, true, false, false, false, false, false, false]
def ba11_3 : Array Bool := #[true, true, false, true, false, false, false, false, false, false]
def ba11_4 : Array Bool := #[true, true, false, true, true, false, false, false, false, false]
def ba11_5 : Array Bool := #[true, true, true, true, true, false, false, false, false, false]
def ba11_6 : Array Bool := #[true, true, true, true, true, false, true, false, false, false]
def ba11_7 : Array Bool := #[true, true, true, true, true, true, true, false, false, false]
def ba11_8 : Array Bool := #[true, true, true, true, true, true, true, true, false, false]
def ba11_9 : Array Bool := #[true, true, true, true, true, true, true, true, true, false]
def ba11_10 : Array Bool := #[true, true, true, true, true, true, true, true, true, true]

/-! ### impl_LsaOk: function 16 -/
def impl_LsaOk.f (k : Nat) (a0_0 : Int) (a0_1 : Int) (a0_2 : Int) (l0_3 : List (S70)) (l0_4 : List (S74)) : Option (Bool) := (impl_within.f a0_0 0 9).bind fun t241 => (if t241 = true then ((impl_within.f a0_1 1 1000000).bind fun t242 => (if t242 = true then ((impl_within.f a0_2 0 60).bind fun t243 => (if t243 = true then ((impl_areLinks.f k a0_0 l0_3).bind fun t244 => (if t244 = true then ((impl_areStubs.f k l0_4).bind fun t245 => (some t245)) else (some false))) else (some false))) else (some false))) else (some false))
theorem impl_LsaOk.mono : ∀ a0 a1 a2 a3 a4 k, LeO (impl_LsaOk.f k a0 a1 a2 a3 a4) (impl_LsaOk.f (k + 1) a0 a1 a2 a3 a4) := by
 intro a0 a1 a2 a3 a4 k
 unfold impl_LsaOk.f
 repeat' first
   | (with_reducible exact impl_areLinks.mono _ _ _)
   | (with_reducible exact impl_areStubs.mono _ _)
   | (with_reducible exact LeO.refl _)
   | (with_reducible exact LeO.none _)
   | (with_reducible refine LeO.ite ?_ ?_)
   | (with_reducible refine LeO.bind ?_ (fun _ => ?_))
   | exact impl_areLinks.mono _ _ _
   | exact impl_areStubs.mono _ _
   | exact LeO.none _
   | refine LeO.ite ?_ ?_
   | refine LeO.bind ?_ (fun _ => ?_)
set_option maxHeartbeats 8000000 in
set_option maxRecDepth 100000 in
theorem impl_LsaOk.calls (k : Nat) (a0_0 : Int) (a0_1 : Int) (a0_2 : Int) (A0_3 : Option Addr) (c0_3 : Nat) (l0_3 : List (S70)) (A0_4 : Option Addr) (c0_4 : Nat) (l0_4 : List (S74)) (r : Bool) (w : World) (hr0_3 : Kd.C k70 w A0_3 l0_3.length l0_3) (hc0_3 : l0_3.length ≤ c0_3) (hr0_4 : Kd.C k74 w A0_4 l0_4.length l0_4) (hc0_4 : l0_4.length ≤ c0_4) (h : impl_LsaOk.f k a0_0 a0_1 a0_2 l0_3 l0_4 = some r) :
  Calls Try.prog 16 #[.agg #[.int .i64 a0_0, .int .i64 a0_1, .int .i64 a0_2, .slice A0_3 l0_3.length c0_3, .slice A0_4 l0_4.length c0_4]] w fun e w' => e = .returned (.bool r) ∧ Below w.heap.size w w' := by
 have hu31 := Try.underlying31
 have HR0_3 := Aside0.mk hr0_3
 have HC0_3 := Aside0.mk hc0_3
 clear hr0_3 hc0_3
 have HR0_4 := Aside0.mk hr0_4
 have HC0_4 := Aside0.mk hc0_4
 clear hr0_4 hc0_4
 have HB := Aside0.mk (Below.refl w.heap.size w)
 have H : ((impl_within.f a0_0 0 9).bind fun t241 => (if t241 = true then ((impl_within.f a0_1 1 1000000).bind fun t242 => (if t242 = true then ((impl_within.f a0_2 0 60).bind fun t243 => (if t243 = true then ((impl_areLinks.f k a0_0 l0_3).bind fun t244 => (if t244 = true then ((impl_areStubs.f k l0_4).bind fun t245 => (some t245)) else (some false))) else (some false))) else (some false))) else (some false))) = some r := h
 clear h
 replace H := Option.bind_eq_some_iff.mp H
 obtain ⟨t241, A20, H⟩ := H
 have A2 := Aside0.mk A20
 clear A20
 by_cases c3 : t241 = true
 ·subst c3
  rw [if_pos rfl] at H
  replace H := Option.bind_eq_some_iff.mp H
  obtain ⟨t242, A40, H⟩ := H
  have A4 := Aside0.mk A40
  clear A40
  by_cases c5 : t242 = true
  ·subst c5
   rw [if_pos rfl] at H
   replace H := Option.bind_eq_some_iff.mp H
   obtain ⟨t243, A60, H⟩ := H
   have A6 := Aside0.mk A60
   clear A60
   by_cases c7 : t243 = true
   ·subst c7
    rw [if_pos rfl] at H
    replace H := Option.bind_eq_some_iff.mp H
    obtain ⟨t244, A80, H⟩ := H
    have A8 := Aside0.mk A80
    clear A80
    by_cases c9 : t244 = true
    ·subst c9
     rw [if_pos rfl] at H
     replace H := Option.bind_eq_some_iff.mp H
     obtain ⟨t245, A100, H⟩ := H
     have A10 := Aside0.mk A100
     clear A100
     obtain rfl := Option.some.inj H
     go_enter Try.func16, Try.ntmps16
     go_wp2_with (first | ((with_reducible refine gate_dst (N := 1) rfl ?_); refine box_event ?hg (N := 1) ?hd (cs := #[.int .i64 a0_0, .int .i64 a0_1, .int .i64 a0_2, .slice A0_3 l0_3.length c0_3, .slice A0_4 l0_4.length c0_4]) (t := 31) ?hr ?_; (case hd => rfl); (case hg => rfl); (case hr => first | (go_simp; done) | (go_simp; rfl)); intro gb240 hg w11 hbox hb; have BK240 := Aside0.mk hbox; have GW240 := ge_ HB hg; have GE240 := ge_ HB hg; replace HB := Aside0.mk (bt_ HB hb); clear hb hbox hg; have hcz12_0 := cz_ BK240 0 (.int .i64 a0_0); have hcz12_1 := cz_ BK240 1 (.int .i64 a0_1); have hcz12_2 := cz_ BK240 2 (.int .i64 a0_2); have hcz12_3 := cz_ BK240 3 (.slice A0_3 l0_3.length c0_3); have hcz12_4 := cz_ BK240 4 (.slice A0_4 l0_4.length c0_4); have hfz12_0 := blk_frozen BK240.out 0; have hfz12_1 := blk_frozen BK240.out 1; have hfz12_2 := blk_frozen BK240.out 2; have hfz12_3 := blk_frozen BK240.out 3; have hfz12_4 := blk_frozen BK240.out 4) | ((with_reducible refine gate_callee (f := 55) rfl ?_); refine gl_ (some 5) Try.func55 #[.int .i64 a0_0, .int .i64 0, .int .i64 9] ?_; (with_reducible refine (impl_within.calls a0_0 0 9 true _ A2.out).mono ?_); rintro e w' ⟨rfl, ⟨nd, rfl⟩⟩; refine ⟨_, rfl, ?_⟩) | (go_at_call 55; (with_reducible refine (impl_within.calls a0_1 1 1000000 true _ A4.out).mono ?_); rintro e w' ⟨rfl, ⟨nd, rfl⟩⟩) | (go_at_call 55; (with_reducible refine (impl_within.calls a0_2 0 60 true _ A6.out).mono ?_); rintro e w' ⟨rfl, ⟨nd, rfl⟩⟩) | (go_at_call 56; (with_reducible refine (impl_areLinks.calls k a0_0 _ _ l0_3 true _ ?side1 ?side2 A8.out).mono ?_); (case side1 => exact cc_ HR0_3 HB); (case side2 => exact HC0_3.out); rintro e w13 ⟨rfl, hb⟩; replace BK240 := Aside0.mk (bb_ BK240 hb); replace HB := Aside0.mk (bt_ HB hb); (try clear hb); (try clear hb2); (try clear hk); (try clear hi); have hcz14_0 := cz_ BK240 0 (.int .i64 a0_0); have hcz14_1 := cz_ BK240 1 (.int .i64 a0_1); have hcz14_2 := cz_ BK240 2 (.int .i64 a0_2); have hcz14_3 := cz_ BK240 3 (.slice A0_3 l0_3.length c0_3); have hcz14_4 := cz_ BK240 4 (.slice A0_4 l0_4.length c0_4); have hfz14_0 := blk_frozen BK240.out 0; have hfz14_1 := blk_frozen BK240.out 1; have hfz14_2 := blk_frozen BK240.out 2; have hfz14_3 := blk_frozen BK240.out 3; have hfz14_4 := blk_frozen BK240.out 4) | (go_at_call 57; (with_reducible refine (impl_areStubs.calls k _ _ l0_4 t245 _ ?side1 ?side2 A10.out).mono ?_); (case side1 => exact cb_ HR0_4 HB); (case side2 => exact HC0_4.out); rintro e w15 ⟨rfl, hb⟩; replace BK240 := Aside0.mk (bb_ BK240 hb); replace HB := Aside0.mk (bt_ HB hb); (try clear hb); (try clear hb2); (try clear hk); (try clear hi)))
     go_ret
     exact ⟨by first | rfl | (simp [errW_none, errW_some] <;> rfl) | (simp [*, errW_none, errW_some] <;> rfl), by repeat (first | (with_reducible first | exact HB.out | apply below_alloc | apply pw_below_drewN | apply below_drew1 | refine below_set ?_ GE240.out) | exact HB.out)⟩
    ·replace c9 := Bool.eq_false_iff.mpr c9
     subst c9
     rw [if_neg (show ¬ (false = true) by decide)] at H
     obtain rfl := Option.some.inj H
     go_enter Try.func16, Try.ntmps16
     go_wp2_with (first | ((with_reducible refine gate_dst (N := 1) rfl ?_); refine box_event ?hg (N := 1) ?hd (cs := #[.int .i64 a0_0, .int .i64 a0_1, .int .i64 a0_2, .slice A0_3 l0_3.length c0_3, .slice A0_4 l0_4.length c0_4]) (t := 31) ?hr ?_; (case hd => rfl); (case hg => rfl); (case hr => first | (go_simp; done) | (go_simp; rfl)); intro gb240 hg w16 hbox hb; have BK240 := Aside0.mk hbox; have GW240 := ge_ HB hg; have GE240 := ge_ HB hg; replace HB := Aside0.mk (bt_ HB hb); clear hb hbox hg; have hcz17_0 := cz_ BK240 0 (.int .i64 a0_0); have hcz17_1 := cz_ BK240 1 (.int .i64 a0_1); have hcz17_2 := cz_ BK240 2 (.int .i64 a0_2); have hcz17_3 := cz_ BK240 3 (.slice A0_3 l0_3.length c0_3); have hcz17_4 := cz_ BK240 4 (.slice A0_4 l0_4.length c0_4); have hfz17_0 := blk_frozen BK240.out 0; have hfz17_1 := blk_frozen BK240.out 1; have hfz17_2 := blk_frozen BK240.out 2; have hfz17_3 := blk_frozen BK240.out 3; have hfz17_4 := blk_frozen BK240.out 4) | ((with_reducible refine gate_callee (f := 55) rfl ?_); refine gl_ (some 5) Try.func55 #[.int .i64 a0_0, .int .i64 0, .int .i64 9] ?_; (with_reducible refine (impl_within.calls a0_0 0 9 true _ A2.out).mono ?_); rintro e w' ⟨rfl, ⟨nd, rfl⟩⟩; refine ⟨_, rfl, ?_⟩) | (go_at_call 55; (with_reducible refine (impl_within.calls a0_1 1 1000000 true _ A4.out).mono ?_); rintro e w' ⟨rfl, ⟨nd, rfl⟩⟩) | (go_at_call 55; (with_reducible refine (impl_within.calls a0_2 0 60 true _ A6.out).mono ?_); rintro e w' ⟨rfl, ⟨nd, rfl⟩⟩) | (go_at_call 56; (with_reducible refine (impl_areLinks.calls k a0_0 _ _ l0_3 false _ ?side1 ?side2 A8.out).mono ?_); (case side1 => exact cc_ HR0_3 HB); (case side2 => exact HC0_3.out); rintro e w18 ⟨rfl, hb⟩; replace BK240 := Aside0.mk (bb_ BK240 hb); replace HB := Aside0.mk (bt_ HB hb); (try clear hb); (try clear hb2); (try clear hk); (try clear hi)))
     go_ret
     exact ⟨by first | rfl | (simp [errW_none, errW_some] <;> rfl) | (simp [*, errW_none, errW_some] <;> rfl), by repeat (first | (with_reducible first | exact HB.out | apply below_alloc | apply pw_below_drewN | apply below_drew1 | refine below_set ?_ GE240.out) | exact HB.out)⟩
   ·replace c7 := Bool.eq_false_iff.mpr c7
    subst c7
    rw [if_neg (show ¬ (false = true) by decide)] at H
    obtain rfl := Option.some.inj H
    go_enter Try.func16, Try.ntmps16
    go_wp2_with (first | ((with_reducible refine gate_dst (N := 1) rfl ?_); refine box_event ?hg (N := 1) ?hd (cs := #[.int .i64 a0_0, .int .i64 a0_1, .int .i64 a0_2, .slice A0_3 l0_3.length c0_3, .slice A0_4 l0_4.length c0_4]) (t := 31) ?hr ?_; (case hd => rfl); (case hg => rfl); (case hr => first | (go_simp; done) | (go_simp; rfl)); intro gb240 hg w19 hbox hb; have BK240 := Aside0.mk hbox; have GW240 := ge_ HB hg; have GE240 := ge_ HB hg; replace HB := Aside0.mk (bt_ HB hb); clear hb hbox hg; have hcz20_0 := cz_ BK240 0 (.int .i64 a0_0); have hcz20_1 := cz_ BK240 1 (.int .i64 a0_1); have hcz20_2 := cz_ BK240 2 (.int .i64 a0_2); have hcz20_3 := cz_ BK240 3 (.slice A0_3 l0_3.length c0_3); have hcz20_4 := cz_ BK240 4 (.slice A0_4 l0_4.length c0_4); have hfz20_0 := blk_frozen BK240.out 0; have hfz20_1 := blk_frozen BK240.out 1; have hfz20_2 := blk_frozen BK240.out 2; have hfz20_3 := blk_frozen BK240.out 3; have hfz20_4 := blk_frozen BK240.out 4) | ((with_reducible refine gate_callee (f := 55) rfl ?_); refine gl_ (some 5) Try.func55 #[.int .i64 a0_0, .int .i64 0, .int .i64 9] ?_; (with_reducible refine (impl_within.calls a0_0 0 9 true _ A2.out).mono ?_); rintro e w' ⟨rfl, ⟨nd, rfl⟩⟩; refine ⟨_, rfl, ?_⟩) | (go_at_call 55; (with_reducible refine (impl_within.calls a0_1 1 1000000 true _ A4.out).mono ?_); rintro e w' ⟨rfl, ⟨nd, rfl⟩⟩) | (go_at_call 55; (with_reducible refine (impl_within.calls a0_2 0 60 false _ A6.out).mono ?_); rintro e w' ⟨rfl, ⟨nd, rfl⟩⟩))
    go_ret
    exact ⟨by first | rfl | (simp [errW_none, errW_some] <;> rfl) | (simp [*, errW_none, errW_some] <;> rfl), by repeat (first | (with_reducible first | exact HB.out | apply below_alloc | apply pw_below_drewN | apply below_drew1 | refine below_set ?_ GE240.out) | exact HB.out)⟩
  ·replace c5 := Bool.eq_false_iff.mpr c5
   subst c5
   rw [if_neg (show ¬ (false = true) by decide)] at H
   obtain rfl := Option.some.inj H
   go_enter Try.func16, Try.ntmps16
   go_wp2_with (first | ((with_reducible refine gate_dst (N := 1) rfl ?_); refine box_event ?hg (N := 1) ?hd (cs := #[.int .i64 a0_0, .int .i64 a0_1, .int .i64 a0_2, .slice A0_3 l0_3.length c0_3, .slice A0_4 l0_4.length c0_4]) (t := 31) ?hr ?_; (case hd => rfl); (case hg => rfl); (case hr => first | (go_simp; done) | (go_simp; rfl)); intro gb240 hg w21 hbox hb; have BK240 := Aside0.mk hbox; have GW240 := ge_ HB hg; have GE240 := ge_ HB hg; replace HB := Aside0.mk (bt_ HB hb); clear hb hbox hg; have hcz22_0 := cz_ BK240 0 (.int .i64 a0_0); have hcz22_1 := cz_ BK240 1 (.int .i64 a0_1); have hcz22_2 := cz_ BK240 2 (.int .i64 a0_2); have hcz22_3 := cz_ BK240 3 (.slice A0_3 l0_3.length c0_3); have hcz22_4 := cz_ BK240 4 (.slice A0_4 l0_4.length c0_4); have hfz22_0 := blk_frozen BK240.out 0; have hfz22_1 := blk_frozen BK240.out 1; have hfz22_2 := blk_frozen BK240.out 2; have hfz22_3 := blk_frozen BK240.out 3; have hfz22_4 := blk_frozen BK240.out 4) | ((with_reducible refine gate_callee (f := 55) rfl ?_); refine gl_ (some 5) Try.func55 #[.int .i64 a0_0, .int .i64 0, .int .i64 9] ?_; (with_reducible refine (impl_within.calls a0_0 0 9 true _ A2.out).mono ?_); rintro e w' ⟨rfl, ⟨nd, rfl⟩⟩; refine ⟨_, rfl, ?_⟩) | (go_at_call 55; (with_reducible refine (impl_within.calls a0_1 1 1000000 false _ A4.out).mono ?_); rintro e w' ⟨rfl, ⟨nd, rfl⟩⟩))
   go_ret
   exact ⟨by first | rfl | (simp [errW_none, errW_some] <;> rfl) | (simp [*, errW_none, errW_some] <;> rfl), by repeat (first | (with_reducible first | exact HB.out | apply below_alloc | apply pw_below_drewN | apply below_drew1 | refine below_set ?_ GE240.out) | exact HB.out)⟩
 ·replace c3 := Bool.eq_false_iff.mpr c3
  subst c3
  rw [if_neg (show ¬ (false = true) by decide)] at H
  obtain rfl := Option.some.inj H
  go_enter Try.func16, Try.ntmps16
  go_wp2_with (first | ((with_reducible refine gate_dst (N := 1) rfl ?_); refine box_event ?hg (N := 1) ?hd (cs := #[.int .i64 a0_0, .int .i64 a0_1, .int .i64 a0_2, .slice A0_3 l0_3.length c0_3, .slice A0_4 l0_4.length c0_4]) (t := 31) ?hr ?_; (case hd => rfl); (case hg => rfl); (case hr => first | (go_simp; done) | (go_simp; rfl)); intro gb240 hg w23 hbox hb; have BK240 := Aside0.mk hbox; have GW240 := ge_ HB hg; have GE240 := ge_ HB hg; replace HB := Aside0.mk (bt_ HB hb); clear hb hbox hg; have hcz24_0 := cz_ BK240 0 (.int .i64 a0_0); have hcz24_1 := cz_ BK240 1 (.int .i64 a0_1); have hcz24_2 := cz_ BK240 2 (.int .i64 a0_2); have hcz24_3 := cz_ BK240 3 (.slice A0_3 l0_3.length c0_3); have hcz24_4 := cz_ BK240 4 (.slice A0_4 l0_4.length c0_4); have hfz24_0 := blk_frozen BK240.out 0; have hfz24_1 := blk_frozen BK240.out 1; have hfz24_2 := blk_frozen BK240.out 2; have hfz24_3 := blk_frozen BK240.out 3; have hfz24_4 := blk_frozen BK240.out 4) | ((with_reducible refine gate_callee (f := 55) rfl ?_); refine gl_ (some 5) Try.func55 #[.int .i64 a0_0, .int .i64 0, .int .i64 9] ?_; (with_reducible refine (impl_within.calls a0_0 0 9 false _ A2.out).mono ?_); rintro e w' ⟨rfl, ⟨nd, rfl⟩⟩; refine ⟨_, rfl, ?_⟩))
  go_ret
  exact ⟨by first | rfl | (simp [errW_none, errW_some] <;> rfl) | (simp [*, errW_none, errW_some] <;> rfl), by repeat (first | (with_reducible first | exact HB.out | apply below_alloc | apply pw_below_drewN | apply below_drew1 | refine below_set ?_ GE240.out) | exact HB.out)⟩

/-! ### slices_Clone_impl_Link_impl_Link: function 67 -/
theorem nilq28 (w : World) (a : Option Addr) (n c n' c' : Nat) : (binOp .eql 28 (.slice a n c) (.slice none n' c')).run Try.prog w = .ok (.bool a.isNone) w := Lib.run_eql_slice_nil w _ _ a n c n' c' Try.underlying28
attribute [local go_sem] nilq28
def slices_Clone_impl_Link_impl_Link.f (l0 : List S70) : Option (List S70) := if l0.length ≤ 1048576 then some l0 else none
set_option maxHeartbeats 1000000 in
set_option maxRecDepth 100000 in
theorem slices_Clone_impl_Link_impl_Link.calls (A0 : Option Addr) (c0 : Nat) (l0 : List S70) (r : List S70) (w : World) (hr0 : Kd.C k70 w A0 l0.length l0) (hc0 : l0.length ≤ c0) (h : slices_Clone_impl_Link_impl_Link.f l0 = some r) :
  Calls Try.prog 67 #[.slice A0 l0.length c0] w fun e w' => ∃ v0_ : Value, e = .returned (v0_) ∧ Kd.R k70 70 w' w.heap.size (fun _ => True) v0_ r ∧ Below w.heap.size w w' := by
 unfold slices_Clone_impl_Link_impl_Link.f at h
 by_cases hl : l0.length ≤ 1048576
 ·rw [if_pos hl] at h
  obtain rfl := Option.some.inj h
  have HB := Aside0.mk (Below.refl w.heap.size w)
  rcases A0 with _ | ad
  ·have h0 : l0.length = 0 := by
    rcases Nat.eq_zero_or_pos l0.length with h0 | h0
    ·exact h0
    ·obtain ⟨ad, c, e, _⟩ := Kd.C_get hr0 z70 0 (by omega) (by omega)
     cases e
   obtain rfl : l0 = [] := List.eq_nil_of_length_eq_zero h0
   go_enter Try.func67, Try.ntmps67
   go_wp2
   go_ret
   exact ⟨_, rfl, Kd.R_nil _ _ _ _ _, HB.out⟩
  ·have HR0 := Aside0.mk hr0
   go_enter Try.func67, Try.ntmps67
   go_wp2_with (first | ((with_reducible refine gate_dst (N := 5) rfl ?_); refine Kd.R_lit k70 (w0 := w) w.heap.size 70 ?hg (N := 5) ?hd (xs := ([] : List S70)) (inner := []) (ok := fun _ => True) (okp := fun _ => True) ?hr ?hp (fun _ hk => hk) trivial (Below.refl _ _) (Nat.le_refl _) (by simp) ?_; (case hd => rfl); (case hg => rfl); (case hr => first | (go_simp; done) | (go_simp; rfl)); (case hp => exact (Reps.none _ _)); intro v1 w1 ho1 hb1 hg_ hnew_; clear hg_ hnew_; have HO1 := Aside0.mk ho1; have HB1 := Aside0.mk hb1; clear ho1 hb1 HB) | ((with_reducible refine gate_builtin (b := .append) (xs := #[.tmp 5, .tmp 6]) rfl ?_); at_builtin; refine Kd.R_append_rows k70 (w0 := w) w.heap.size rfl (.tmp 5) (.tmp 6) 28 70 (.agg #[(.int .i64 0), (.int .i64 0)]) 16 rfl Try.underlying28 info70 rfl (by decide) (by omega) v1 [] l0 _ _ _ (fun _ => True) (fun _ => False) rfl rfl ?aO ?aR (fun _ _ h => h) (fun _ h => h.elim) ?aF ?aB ?aS ?aL ?_; (case aR => exact Kd.C_below HR0.out HB1.out); (case aB => exact HB1.out); (case aF => exact (fun _ _ => trivial)); (case aO => exact HO1.out); (case aS => exact below_size HB1.out); (case aL => simp; omega); intro v2 w2 ho2 hb2 hg hat; have HO2 := Aside0.mk ho2; have HB2 := Aside0.mk hb2; clear ho2 hb2 hg hat))
   go_ret
   exact ⟨_, rfl, HO2.out, HB2.out⟩
 ·rw [if_neg hl] at h; cases h

/-! ### slices_Clone_impl_Stub_impl_Stub: function 68 -/
theorem nilq29 (w : World) (a : Option Addr) (n c n' c' : Nat) : (binOp .eql 29 (.slice a n c) (.slice none n' c')).run Try.prog w = .ok (.bool a.isNone) w := Lib.run_eql_slice_nil w _ _ a n c n' c' Try.underlying29
attribute [local go_sem] nilq29
def slices_Clone_impl_Stub_impl_Stub.f (l0 : List S74) : Option (List S74) := if l0.length ≤ 1048576 then some l0 else none
set_option maxHeartbeats 1000000 in
set_option maxRecDepth 100000 in
theorem slices_Clone_impl_Stub_impl_Stub.calls (A0 : Option Addr) (c0 : Nat) (l0 : List S74) (r : List S74) (w : World) (hr0 : Kd.C k74 w A0 l0.length l0) (hc0 : l0.length ≤ c0) (h : slices_Clone_impl_Stub_impl_Stub.f l0 = some r) :
  Calls Try.prog 68 #[.slice A0 l0.length c0] w fun e w' => ∃ v0_ : Value, e = .returned (v0_) ∧ Kd.R k74 74 w' w.heap.size (fun _ => True) v0_ r ∧ Below w.heap.size w w' := by
 unfold slices_Clone_impl_Stub_impl_Stub.f at h
 by_cases hl : l0.length ≤ 1048576
 ·rw [if_pos hl] at h
  obtain rfl := Option.some.inj h
  have HB := Aside0.mk (Below.refl w.heap.size w)
  rcases A0 with _ | ad
  ·have h0 : l0.length = 0 := by
    rcases Nat.eq_zero_or_pos l0.length with h0 | h0
    ·exact h0
    ·obtain ⟨ad, c, e, _⟩ := Kd.C_get hr0 z74 0 (by omega) (by omega)
     cases e
   obtain rfl : l0 = [] := List.eq_nil_of_length_eq_zero h0
   go_enter Try.func68, Try.ntmps68
   go_wp2
   go_ret
   exact ⟨_, rfl, Kd.R_nil _ _ _ _ _, HB.out⟩
  ·have HR0 := Aside0.mk hr0
   go_enter Try.func68, Try.ntmps68
   go_wp2_with (first | ((with_reducible refine gate_dst (N := 5) rfl ?_); refine Kd.R_lit k74 (w0 := w) w.heap.size 74 ?hg (N := 5) ?hd (xs := ([] : List S74)) (inner := []) (ok := fun _ => True) (okp := fun _ => True) ?hr ?hp (fun _ hk => hk) trivial (Below.refl _ _) (Nat.le_refl _) (by simp) ?_; (case hd => rfl); (case hg => rfl); (case hr => first | (go_simp; done) | (go_simp; rfl)); (case hp => exact (Reps.none _ _)); intro v1 w1 ho1 hb1 hg_ hnew_; clear hg_ hnew_; have HO1 := Aside0.mk ho1; have HB1 := Aside0.mk hb1; clear ho1 hb1 HB) | ((with_reducible refine gate_builtin (b := .append) (xs := #[.tmp 5, .tmp 6]) rfl ?_); at_builtin; refine Kd.R_append_rows k74 (w0 := w) w.heap.size rfl (.tmp 5) (.tmp 6) 29 74 (.agg #[(.int .i64 0), (.int .i64 0), (.int .i64 0)]) 24 rfl Try.underlying29 info74 rfl (by decide) (by omega) v1 [] l0 _ _ _ (fun _ => True) (fun _ => False) rfl rfl ?aO ?aR (fun _ _ h => h) (fun _ h => h.elim) ?aF ?aB ?aS ?aL ?_; (case aR => exact Kd.C_below HR0.out HB1.out); (case aB => exact HB1.out); (case aF => exact (fun _ _ => trivial)); (case aO => exact HO1.out); (case aS => exact below_size HB1.out); (case aL => simp; omega); intro v2 w2 ho2 hb2 hg hat; have HO2 := Aside0.mk ho2; have HB2 := Aside0.mk hb2; clear ho2 hb2 hg hat))
   go_ret
   exact ⟨_, rfl, HO2.out, HB2.out⟩
 ·rw [if_neg hl] at h; cases h

/-! ### impl_ownLsa: function 73 -/
def impl_ownLsa.f (a0_0 : Int) (a0_1 : Int) (a0_2 : Int) (l0_3 : List (S70)) (l0_4 : List (S74)) : Option (Int × Int × Int × (List (S70)) × (List (S74))) := (slices_Clone_impl_Link_impl_Link.f l0_3).bind fun t248 => ((slices_Clone_impl_Stub_impl_Stub.f l0_4).bind fun t251 => (some (a0_0, a0_1, a0_2, t248, t251)))
def impl_ownLsa.T1 : Bool × List (List Nat × List Nat) := (true, [([], []), ([0], [0]), ([1], [1]), ([], []), ([3], [3]), ([4, 2], [4]), ([0, 1, 2, 3, 4], []), ([6, 2, 5, 0, 1, 2, 3, 4], [2, 6]), ([0, 1, 2, 3, 4, 5, 6, 7], []), ([8, 5, 7, 0, 1, 2, 3, 4, 5, 6, 7], [5, 8])])
def impl_ownLsa.B1 : List Nat := [0, 1, 3, 0, 8, 31, 31, 127, 255, 511]
theorem impl_ownLsa.tab1 : rtab .any (opsOf Try.f73 1) = impl_ownLsa.T1 := by kernel_rfl
theorem impl_ownLsa.bits1 : waitsOk impl_ownLsa.T1.2 impl_ownLsa.B1 = true := by kernel_rfl
set_option maxHeartbeats 8000000 in
set_option maxRecDepth 100000 in
theorem impl_ownLsa.calls (a0_0 : Int) (a0_1 : Int) (a0_2 : Int) (A0_3 : Option Addr) (c0_3 : Nat) (l0_3 : List (S70)) (A0_4 : Option Addr) (c0_4 : Nat) (l0_4 : List (S74)) (r1 : Int) (r2 : Int) (r3 : Int) (r4 : List (S70)) (r5 : List (S74)) (w : World) (hr0_3 : Kd.C k70 w A0_3 l0_3.length l0_3) (hc0_3 : l0_3.length ≤ c0_3) (hr0_4 : Kd.C k74 w A0_4 l0_4.length l0_4) (hc0_4 : l0_4.length ≤ c0_4) (h : impl_ownLsa.f a0_0 a0_1 a0_2 l0_3 l0_4 = some (r1, r2, r3, r4, r5)) :
  Calls Try.prog 73 #[.agg #[.int .i64 a0_0, .int .i64 a0_1, .int .i64 a0_2, .slice A0_3 l0_3.length c0_3, .slice A0_4 l0_4.length c0_4]] w fun e w' => ∃ v3_ v4_ : Value, e = .returned (.agg #[.int .i64 r1, .int .i64 r2, .int .i64 r3, v3_, v4_]) ∧ Kd.R k70 70 w' w.heap.size (fun _ => True) v3_ r4 ∧ Kd.R k74 74 w' w.heap.size (fun _ => True) v4_ r5 ∧ Below w.heap.size w w' := by
 have hu31 := Try.underlying31
 have HR0_3 := Aside0.mk hr0_3
 have HC0_3 := Aside0.mk hc0_3
 clear hr0_3 hc0_3
 have HR0_4 := Aside0.mk hr0_4
 have HC0_4 := Aside0.mk hc0_4
 clear hr0_4 hc0_4
 have HB := Aside0.mk (Below.refl w.heap.size w)
 have H : ((slices_Clone_impl_Link_impl_Link.f l0_3).bind fun t248 => ((slices_Clone_impl_Stub_impl_Stub.f l0_4).bind fun t251 => (some (a0_0, a0_1, a0_2, t248, t251)))) = some (r1, r2, r3, r4, r5) := h
 clear h
 replace H := Option.bind_eq_some_iff.mp H
 obtain ⟨t248, A20, H⟩ := H
 have A2 := Aside0.mk A20
 clear A20
 replace H := Option.bind_eq_some_iff.mp H
 obtain ⟨t251, A30, H⟩ := H
 have A3 := Aside0.mk A30
 clear A30
 simp only [Option.some.injEq, Prod.mk.injEq] at H
 obtain ⟨rfl, rfl, rfl, rfl, rfl⟩ := H
 go_enter Try.func73, Try.ntmps73
 try go_wp2_with (first | ((with_reducible refine gate_dst (N := 1) rfl ?_); refine box_event ?hg (N := 1) ?hd (cs := #[.int .i64 a0_0, .int .i64 a0_1, .int .i64 a0_2, .slice A0_3 l0_3.length c0_3, .slice A0_4 l0_4.length c0_4]) (t := 31) ?hr ?_; (case hd => rfl); (case hg => rfl); (case hr => first | (go_simp; done) | (go_simp; rfl)); intro gb246 hg w4 hbox hb; have BK246 := Aside0.mk hbox; have GW246 := ge_ HB hg; have GE246 := ge_ HB hg; replace HB := Aside0.mk (bt_ HB hb); clear hb hbox hg) | ((with_reducible refine gate_dst (N := 2) rfl ?_); refine box_event ?hg (N := 2) ?hd (cs := #[.int .i64 0, .int .i64 0, .int .i64 0, .slice none 0 0, .slice none 0 0]) (t := 31) ?hr ?_; (case hd => rfl); (case hg => rfl); (case hr => first | (go_simp; done) | (go_simp; rfl)); intro gb247 hg w5 hbox hb; have BK247 := Aside0.mk hbox; have GW247 := ge_ HB hg; have GE247 := ge_ HB hg; have NB246_247 := nl_ BK246 hg; have NB247_246 := ng_ BK246 hg; replace HB := Aside0.mk (bt_ HB hb); replace BK246 := Aside0.mk (bb_ BK246 hb); clear hb hbox hg))
 replace BK246 := Aside0.mk (blk_drew BK246.out)
 replace BK247 := Aside0.mk (blk_drew BK247.out)
 replace HB := Aside0.mk (below_drew1 HB.out)
 refine start_ (n := 10) (S := fun w' => w'.cell? ⟨gb246, 0, none⟩ = some (.int .i64 a0_0) ∧ w'.cell? ⟨gb246, 1, none⟩ = some (.int .i64 a0_1) ∧ w'.cell? ⟨gb246, 2, none⟩ = some (.int .i64 a0_2) ∧ w'.cell? ⟨gb246, 3, none⟩ = some (.slice A0_3 l0_3.length c0_3) ∧ w'.cell? ⟨gb246, 4, none⟩ = some (.slice A0_4 l0_4.length c0_4)) (ds := [7, 9]) ba11_0 (by kernel_rfl) rfl rfl ⟨(blk_cell BK246.out 0).trans rfl, (blk_cell BK246.out 1).trans rfl, (blk_cell BK246.out 2).trans rfl, (blk_cell BK246.out 3).trans rfl, (blk_cell BK246.out 4).trans rfl⟩ (fun hHeld => ?_); refine with_tabW impl_ownLsa.tab1 impl_ownLsa.bits1 (fun HT_ HW_ => ?_)
 generalize w5.drew = w6 at BK246 BK247 HB hHeld ⊢
 refine pz_ 0 3 ba11_1 HT_ ?_
 refine pz_ 3 6 ba11_2 HT_ ?_
 refine pt_ 1 4 ba11_3 HT_ HW_ hHeld ?_
 refine pt_ 4 7 ba11_4 HT_ HW_ hHeld ?_
 refine one_ (i := 2) (N := some 5) ba11_5 rfl rfl (one_of HT_.out (by kernel_rfl)) (by decide) (fun K hK => ?_)
 refine gz_ Try.func67 #[.slice A0_3 l0_3.length c0_3] ?_
 with_reducible refine (slices_Clone_impl_Link_impl_Link.calls _ _ l0_3 t248 _ ?side1 ?side2 A2.out).mono ?_
 (case side1 => exact cb_ HR0_3 HB)
 (case side2 => exact HC0_3.out)
 rintro e w7 ⟨v249, rfl, ho0, hb⟩
 refine ⟨_, rfl, ?_⟩
 have HO250 := Aside0.mk (Kd.R_lower ho0 (bz_ HB))
 replace BK246 := Aside0.mk (bb_ BK246 hb)
 replace BK247 := Aside0.mk (bb_ BK247 hb)
 replace HB := Aside0.mk (bt_ HB hb)
 (try clear hb)
 (try clear hb2)
 (try clear hk)
 (try clear hi)
 (try clear ho0)
 refine hK.out _ _ ⟨(blk_cell BK246.out 0).trans rfl, (blk_cell BK246.out 1).trans rfl, (blk_cell BK246.out 2).trans rfl, (blk_cell BK246.out 3).trans rfl, (blk_cell BK246.out 4).trans rfl⟩ (fun hHeld => ?_)
 clear hK K
 refine nz_ 5 ?_
 refine pz_ 6 9 ba11_6 HT_ ?_
 refine one_ (i := 5) (N := some 8) ba11_7 rfl rfl (one_of HT_.out (by kernel_rfl)) (by decide) (fun K hK => ?_)
 refine gz_ Try.func68 #[.slice A0_4 l0_4.length c0_4] ?_
 with_reducible refine (slices_Clone_impl_Stub_impl_Stub.calls _ _ l0_4 t251 _ ?side1 ?side2 A3.out).mono ?_
 (case side1 => exact cb_ HR0_4 HB)
 (case side2 => exact HC0_4.out)
 rintro e w8 ⟨v252, rfl, ho0, hb⟩
 refine ⟨_, rfl, ?_⟩
 have HO253 := Aside0.mk (Kd.R_lower ho0 (bz_ HB))
 replace HO250 := rb_ HO250 hb
 replace BK246 := Aside0.mk (bb_ BK246 hb)
 replace BK247 := Aside0.mk (bb_ BK247 hb)
 replace HB := Aside0.mk (bt_ HB hb)
 (try clear hb)
 (try clear hb2)
 (try clear hk)
 (try clear hi)
 (try clear ho0)
 obtain ⟨Ao9, co9, eo9⟩ := Kd.R_slice HO250.out
 (first | subst eo9 | (injection eo9 with f1_ f2_ f3_; have f4_ := f1_.symm; have f5_ := f3_.symm; clear f1_ f2_ f3_; subst f4_; subst f5_))
 obtain ⟨Ao11, co11, eo11⟩ := Kd.R_slice HO253.out
 (first | subst eo11 | (injection eo11 with f1_ f2_ f3_; have f4_ := f1_.symm; have f5_ := f3_.symm; clear f1_ f2_ f3_; subst f4_; subst f5_))
 refine hK.out _ _ ⟨(blk_cell BK246.out 0).trans rfl, (blk_cell BK246.out 1).trans rfl, (blk_cell BK246.out 2).trans rfl, (blk_cell BK246.out 3).trans rfl, (blk_cell BK246.out 4).trans rfl⟩ (fun hHeld => ?_)
 clear hK K
 refine nz_ 8 ?_
 refine last_ (i := 7) (N := none) ba11_8 rfl rfl (one_of HT_.out (by kernel_rfl)) (by decide) (fun K hK => ?_)
 have hs10 : w8.cell? ⟨gb246, 3, none⟩ = some (.slice A0_3 l0_3.length c0_3) := (blk_cell BK246.out 3).trans rfl
 have hfs10 := blk_frozen BK246.out 3
 have hns10_1 := NB247_246.out
 have hms10_1 := NB246_247.out
 refine skip_ (w1 := ?_) (by rfl) rfl ?_ ?_
 rotate_left; · go_simp; rfl
 refine hK.out _ _ ?_
 clear hK K
 refine pz_ 8 10 ba11_9 HT_ ?_
 refine last_ (i := 9) (N := none) ba11_10 rfl rfl (one_of HT_.out (by kernel_rfl)) (by decide) (fun K hK => ?_)
 have hs12 : w8.cell? ⟨gb246, 4, none⟩ = some (.slice A0_4 l0_4.length c0_4) := (blk_cell BK246.out 4).trans rfl
 have hfs12 := blk_frozen BK246.out 4
 have hns12_1 := NB247_246.out
 have hms12_1 := NB246_247.out
 refine skip_ (w1 := ?_) (by rfl) rfl ?_ ?_
 rotate_left; · go_simp; rfl
 refine hK.out _ _ ?_
 clear hK K
 refine done_ (done_of HT_.out (by kernel_rfl)) ?_
 have hnb13 := NB246_247.out
 have hnc13 := NB247_246.out
 have hcz14_0 := cz_ BK246 0 (.int .i64 a0_0)
 have hcz14_1 := cz_ BK246 1 (.int .i64 a0_1)
 have hcz14_2 := cz_ BK246 2 (.int .i64 a0_2)
 have hcz14_3 := cz_ BK246 3 (.slice A0_3 l0_3.length c0_3)
 have hcz14_4 := cz_ BK246 4 (.slice A0_4 l0_4.length c0_4)
 have hfz14_0 := blk_frozen BK246.out 0
 have hfz14_1 := blk_frozen BK246.out 1
 have hfz14_2 := blk_frozen BK246.out 2
 have hfz14_3 := blk_frozen BK246.out 3
 have hfz14_4 := blk_frozen BK246.out 4
 have hcz15_0 := cz_ BK247 0 (.int .i64 0)
 have hcz15_1 := cz_ BK247 1 (.int .i64 0)
 have hcz15_2 := cz_ BK247 2 (.int .i64 0)
 have hcz15_3 := cz_ BK247 3 (.slice none 0 0)
 have hcz15_4 := cz_ BK247 4 (.slice none 0 0)
 have hfz15_0 := blk_frozen BK247.out 0
 have hfz15_1 := blk_frozen BK247.out 1
 have hfz15_2 := blk_frozen BK247.out 2
 have hfz15_3 := blk_frozen BK247.out 3
 have hfz15_4 := blk_frozen BK247.out 4
 try go_wp2
 refine bodyPost_ret (results_cell_row rfl _ _ gb247 31 #[.int .i64 a0_0, .int .i64 a0_1, .int .i64 a0_2, .slice Ao9 t248.length co9, .slice Ao11 t251.length co11] (0, 0) _ rfl (by (with_reducible repeat (first | refine blk_drewN ?_ _ | refine blk_drew ?_ | refine blk_alloc ?_ _)); refine blk_put (cs := #[.int .i64 a0_0, .int .i64 a0_1, .int .i64 a0_2, .slice Ao9 t248.length co9, .slice none 0 0]) ?_ 4 _ rfl; (with_reducible repeat (first | refine blk_drewN ?_ _ | refine blk_drew ?_ | refine blk_alloc ?_ _)); refine blk_put (cs := #[.int .i64 a0_0, .int .i64 a0_1, .int .i64 a0_2, .slice none 0 0, .slice none 0 0]) ?_ 3 _ rfl; (with_reducible repeat (first | refine blk_drewN ?_ _ | refine blk_drew ?_ | refine blk_alloc ?_ _)); refine blk_put (cs := #[.int .i64 a0_0, .int .i64 a0_1, .int .i64 0, .slice none 0 0, .slice none 0 0]) ?_ 2 _ rfl; (with_reducible repeat (first | refine blk_drewN ?_ _ | refine blk_drew ?_ | refine blk_alloc ?_ _)); refine blk_put (cs := #[.int .i64 a0_0, .int .i64 0, .int .i64 0, .slice none 0 0, .slice none 0 0]) ?_ 1 _ rfl; (with_reducible repeat (first | refine blk_drewN ?_ _ | refine blk_drew ?_ | refine blk_alloc ?_ _)); refine blk_put (cs := #[.int .i64 0, .int .i64 0, .int .i64 0, .slice none 0 0, .slice none 0 0]) ?_ 0 _ rfl; (with_reducible repeat (first | refine blk_drewN ?_ _ | refine blk_drew ?_ | refine blk_alloc ?_ _)); refine blk_far ?_ NB247_246.out _; (with_reducible repeat (first | refine blk_drewN ?_ _ | refine blk_drew ?_ | refine blk_alloc ?_ _)); refine blk_far ?_ NB247_246.out _; (with_reducible repeat (first | refine blk_drewN ?_ _ | refine blk_drew ?_ | refine blk_alloc ?_ _)); exact BK247.out) Try.underlying31 rfl (by kernel_rfl)) rfl ?_
 exact ⟨_, _, by first | rfl | (simp [errW_none, errW_some] <;> rfl) | (simp [*, errW_none, errW_some] <;> rfl), by (with_reducible repeat (first | apply Kd.R_alloc | apply Kd.R_drewN | apply Kd.R_drew)); exact Kd.R_mono (Kd.R_far (p := ⟨gb247, 4, none⟩) (Kd.R_far (p := ⟨gb247, 3, none⟩) (Kd.R_far (p := ⟨gb247, 2, none⟩) (Kd.R_far (p := ⟨gb247, 1, none⟩) (Kd.R_far (p := ⟨gb247, 0, none⟩) (Kd.R_far (p := ⟨gb246, 4, none⟩) (Kd.R_far (p := ⟨gb246, 3, none⟩) (Kd.R_types (Kd.R_types HO250.out BK246.out (by decide)) BK247.out (by decide)) (fun _ hk => hk.1.2) (.slice Ao9 t248.length co9)) (fun _ hk => hk.1.2) (.slice Ao11 t251.length co11)) (fun _ hk => hk.2) (.int .i64 a0_0)) (fun _ hk => hk.2) (.int .i64 a0_1)) (fun _ hk => hk.2) (.int .i64 a0_2)) (fun _ hk => hk.2) (.slice Ao9 t248.length co9)) (fun _ hk => hk.2) (.slice Ao11 t251.length co11)) (fun _ hk => trivial), by (with_reducible repeat (first | apply Kd.R_alloc | apply Kd.R_drewN | apply Kd.R_drew)); exact Kd.R_mono (Kd.R_far (p := ⟨gb247, 4, none⟩) (Kd.R_far (p := ⟨gb247, 3, none⟩) (Kd.R_far (p := ⟨gb247, 2, none⟩) (Kd.R_far (p := ⟨gb247, 1, none⟩) (Kd.R_far (p := ⟨gb247, 0, none⟩) (Kd.R_far (p := ⟨gb246, 4, none⟩) (Kd.R_far (p := ⟨gb246, 3, none⟩) (Kd.R_types (Kd.R_types HO253.out BK246.out (by decide)) BK247.out (by decide)) (fun _ hk => hk.1.2) (.slice Ao9 t248.length co9)) (fun _ hk => hk.1.2) (.slice Ao11 t251.length co11)) (fun _ hk => hk.2) (.int .i64 a0_0)) (fun _ hk => hk.2) (.int .i64 a0_1)) (fun _ hk => hk.2) (.int .i64 a0_2)) (fun _ hk => hk.2) (.slice Ao9 t248.length co9)) (fun _ hk => hk.2) (.slice Ao11 t251.length co11)) (fun _ hk => trivial), by repeat (first | (with_reducible first | exact HB.out | apply below_alloc | apply pw_below_drewN | apply below_drew1 | refine below_set ?_ GE246.out | refine below_set ?_ GE247.out) | exact HB.out)⟩

/-! ### impl_Lsa_aged: function 74 -/
def impl_Lsa_aged.f (a0_0 : Int) (a0_1 : Int) (a0_2 : Int) (l0_3 : List (S70)) (l0_4 : List (S74)) (a1 : Int) : Option (Int × Int × Int × (List (S70)) × (List (S74))) := (impl_ownLsa.f a0_0 a0_1 a0_2 l0_3 l0_4).bind fun bt256 => (some (bt256.1, bt256.2.1, mn 60 (wrap64 (a0_2 + a1)), bt256.2.2.2.1, bt256.2.2.2.2))
theorem hw_ {α : Type} {d : Kd α} {e base g t : Nat} {cells : Array Value} {ok : Nat → Prop} {w w1 W : World} {v : Value} {xs : List α} (HO : Aside0 (d.R e w base ok v xs)) (BK : Aside0 (w.heap[g]? = some (.cells cells t (0, 0)))) (hw : w1 = W) (ht : ∀ q, q ∈ e :: d.E → q ≠ t := by decide) (h : d.R e w base (fun k => ok k ∧ k ≠ g) v xs → d.R e W base (fun k => ok k ∧ k ≠ g) v xs := by intro h_; repeat (first | (with_reducible exact h_) | refine Kd.R_far ?_ (fun _ hk => hk.2) _)) : Aside0 (d.R e w1 base ok v xs) := by
 subst hw; exact Aside0.mk (hs_ HO BK ht h)
theorem fw_ {w0 w1 w : World} {g g' t : Nat} {cs : Array Value} (BK : Aside0 (w0.heap[g]? = some (.cells cs t (0, 0)))) (NB : Aside0 (g ≠ g')) (hw : w1 = w) (h : w0.heap[g]? = some (.cells cs t (0, 0)) → g ≠ g' → w.heap[g]? = some (.cells cs t (0, 0)) := by intro h_ n_; repeat (first | (with_reducible exact h_) | refine blk_far ?_ n_ _)) : Aside0 (w1.heap[g]? = some (.cells cs t (0, 0))) := by
 subst hw; exact Aside0.mk (h BK.out NB.out)
theorem yw_ {w W1 W w1 : World} (HB : Aside0 (Below w.heap.size w W1)) (hw : w1 = W) (h : Below w.heap.size w W1 → Below w.heap.size w W := by intro hB_; repeat (first | (with_reducible exact hB_) | refine below_set ?_ (Aside0.out (by assumption)))) : Aside0 (Below w.heap.size w w1) := by
 subst hw; exact Aside0.mk (h HB.out)
set_option maxHeartbeats 8000000 in
set_option maxRecDepth 100000 in
theorem impl_Lsa_aged.calls (a0_0 : Int) (a0_1 : Int) (a0_2 : Int) (A0_3 : Option Addr) (c0_3 : Nat) (l0_3 : List (S70)) (A0_4 : Option Addr) (c0_4 : Nat) (l0_4 : List (S74)) (a1 : Int) (r1 : Int) (r2 : Int) (r3 : Int) (r4 : List (S70)) (r5 : List (S74)) (w : World) (hr0_3 : Kd.C k70 w A0_3 l0_3.length l0_3) (hc0_3 : l0_3.length ≤ c0_3) (hr0_4 : Kd.C k74 w A0_4 l0_4.length l0_4) (hc0_4 : l0_4.length ≤ c0_4) (h : impl_Lsa_aged.f a0_0 a0_1 a0_2 l0_3 l0_4 a1 = some (r1, r2, r3, r4, r5)) :
  Calls Try.prog 74 #[.agg #[.int .i64 a0_0, .int .i64 a0_1, .int .i64 a0_2, .slice A0_3 l0_3.length c0_3, .slice A0_4 l0_4.length c0_4], .int .i64 a1] w fun e w' => ∃ v3_ v4_ : Value, e = .returned (.agg #[.int .i64 r1, .int .i64 r2, .int .i64 r3, v3_, v4_]) ∧ Kd.R k70 70 w' w.heap.size (fun _ => True) v3_ r4 ∧ Kd.R k74 74 w' w.heap.size (fun _ => True) v4_ r5 ∧ Below w.heap.size w w' := by
 have hu31 := Try.underlying31
 have HR0_3 := Aside0.mk hr0_3
 have HC0_3 := Aside0.mk hc0_3
 clear hr0_3 hc0_3
 have HR0_4 := Aside0.mk hr0_4
 have HC0_4 := Aside0.mk hc0_4
 clear hr0_4 hc0_4
 have HB := Aside0.mk (Below.refl w.heap.size w)
 have H : ((impl_ownLsa.f a0_0 a0_1 a0_2 l0_3 l0_4).bind fun bt256 => (some (bt256.1, bt256.2.1, mn 60 (wrap64 (a0_2 + a1)), bt256.2.2.2.1, bt256.2.2.2.2))) = some (r1, r2, r3, r4, r5) := h
 clear h
 replace H := Option.bind_eq_some_iff.mp H
 obtain ⟨⟨t256, t257, t258, t259, t262⟩, A30, H⟩ := H
 have A3 := Aside0.mk A30
 clear A30
 obtain ⟨ji4, hji4⟩ : ∃ j_ : Int, (mn 60 (wrap64 (a0_2 + a1))) = j_ := ⟨_, rfl⟩
 first | rw [hji4] at H | simp only [hji4] at H
 (try rw [hji4] at A3)
 (try (have hji4h : ji4 ≤ 60 := by (rw [← hji4]; unfold mn; (repeat' split) <;> omega)))
 (try (have hji4g : ji4 ≤ 64 := by omega))
 have hji4_ : (if (wrap64 (a0_2 + a1)) < 60 then (wrap64 (a0_2 + a1)) else 60) = ji4 := hji4
 simp only [Option.some.injEq, Prod.mk.injEq] at H
 obtain ⟨rfl, rfl, rfl, rfl, rfl⟩ := H
 go_enter Try.func74, Try.ntmps74
 go_wp2_with (first | ((with_reducible refine gate_dst (N := 2) rfl ?_); refine box_event ?hg (N := 2) ?hd (cs := #[.int .i64 a0_0, .int .i64 a0_1, .int .i64 a0_2, .slice A0_3 l0_3.length c0_3, .slice A0_4 l0_4.length c0_4]) (t := 31) ?hr ?_; (case hd => rfl); (case hg => rfl); (case hr => first | (go_simp; done) | (go_simp; rfl)); intro gb254 hg w5 hbox hb; have BK254 := Aside0.mk hbox; have GW254 := ge_ HB hg; have GE254 := ge_ HB hg; replace HB := Aside0.mk (bt_ HB hb); clear hb hbox hg) | ((with_reducible refine gate_dst (N := 4) rfl ?_); refine box_event ?hg (N := 4) ?hd (cs := #[.int .i64 0, .int .i64 0, .int .i64 0, .slice none 0 0, .slice none 0 0]) (t := 31) ?hr ?_; (case hd => rfl); (case hg => rfl); (case hr => first | (go_simp; done) | (go_simp; rfl)); intro gb255 hg w6 hbox hb; have BK255 := Aside0.mk hbox; have GW255 := ge_ HB hg; have GE255 := ge_ HB hg; have NB254_255 := nl_ BK254 hg; have NB255_254 := ng_ BK254 hg; replace HB := Aside0.mk (bt_ HB hb); replace BK254 := Aside0.mk (bb_ BK254 hb); clear hb hbox hg; have hnb7 := NB254_255.out; have hnc7 := NB255_254.out; have hcz8_0 := cz_ BK254 0 (.int .i64 a0_0); have hcz8_1 := cz_ BK254 1 (.int .i64 a0_1); have hcz8_2 := cz_ BK254 2 (.int .i64 a0_2); have hcz8_3 := cz_ BK254 3 (.slice A0_3 l0_3.length c0_3); have hcz8_4 := cz_ BK254 4 (.slice A0_4 l0_4.length c0_4); have hfz8_0 := blk_frozen BK254.out 0; have hfz8_1 := blk_frozen BK254.out 1; have hfz8_2 := blk_frozen BK254.out 2; have hfz8_3 := blk_frozen BK254.out 3; have hfz8_4 := blk_frozen BK254.out 4) | ((with_reducible refine gate_callee (f := 73) rfl ?_); refine gl_ (some 7) Try.func73 #[.agg #[.int .i64 a0_0, .int .i64 a0_1, .int .i64 a0_2, .slice A0_3 l0_3.length c0_3, .slice A0_4 l0_4.length c0_4]] ?_; (with_reducible refine (impl_ownLsa.calls a0_0 a0_1 a0_2 _ _ l0_3 _ _ l0_4 t256 t257 t258 t259 t262 _ ?side1 ?side2 ?side3 ?side4 A3.out).mono ?_); (case side1 => exact cb_ HR0_3 HB); (case side2 => exact HC0_3.out); (case side3 => exact cb_ HR0_4 HB); (case side4 => exact HC0_4.out); rintro e w9 ⟨v260, v263, rfl, ho0, ho1, hb⟩; refine ⟨_, rfl, ?_⟩; have HO261 := Aside0.mk (Kd.R_lower ho0 (bz_ HB)); have HO264 := Aside0.mk (Kd.R_lower ho1 (bz_ HB)); replace BK254 := Aside0.mk (bb_ BK254 hb); replace BK255 := Aside0.mk (bb_ BK255 hb); replace HB := Aside0.mk (bt_ HB hb); (try clear hb); (try clear hb2); (try clear hk); (try clear hi); (try clear ho0); (try clear ho1)) | ((with_reducible refine gate_dst (N := 5) rfl ?_); refine box_event ?hg (N := 5) ?hd (cs := #[.int .i64 0, .int .i64 0, .int .i64 0, .slice none 0 0, .slice none 0 0]) (t := 31) ?hr ?_; (case hd => rfl); (case hg => rfl); (case hr => first | (go_simp; done) | (go_simp; rfl)); intro gb265 hg w10 hbox hb; have BK265 := Aside0.mk hbox; have GW265 := ge_ HB hg; have GE265 := ge_ HB hg; have NB254_265 := nl_ BK254 hg; have NB265_254 := ng_ BK254 hg; have NB255_265 := nl_ BK255 hg; have NB265_255 := ng_ BK255 hg; replace HO261 := rb_ HO261 hb; replace HO264 := rb_ HO264 hb; replace HB := Aside0.mk (bt_ HB hb); replace BK254 := Aside0.mk (bb_ BK254 hb); replace BK255 := Aside0.mk (bb_ BK255 hb); clear hb hbox hg; have hnb11 := NB265_254.out; have hnc11 := NB254_265.out; have hnb12 := NB265_255.out; have hnc12 := NB255_265.out; have hcz13_0 := cz_ BK265 0 (.int .i64 0); have hcz13_1 := cz_ BK265 1 (.int .i64 0); have hcz13_2 := cz_ BK265 2 (.int .i64 0); have hcz13_3 := cz_ BK265 3 (.slice none 0 0); have hcz13_4 := cz_ BK265 4 (.slice none 0 0); have hfz13_0 := blk_frozen BK265.out 0; have hfz13_1 := blk_frozen BK265.out 1; have hfz13_2 := blk_frozen BK265.out 2; have hfz13_3 := blk_frozen BK265.out 3; have hfz13_4 := blk_frozen BK265.out 4; obtain ⟨Ao14, co14, eo14⟩ := Kd.R_slice HO261.out; subst eo14; obtain ⟨Ao15, co15, eo15⟩ := Kd.R_slice HO264.out; subst eo15; have hcz16_0 := cz_ BK254 0 (.int .i64 a0_0); have hcz16_1 := cz_ BK254 1 (.int .i64 a0_1); have hcz16_2 := cz_ BK254 2 (.int .i64 a0_2); have hcz16_3 := cz_ BK254 3 (.slice A0_3 l0_3.length c0_3); have hcz16_4 := cz_ BK254 4 (.slice A0_4 l0_4.length c0_4); have hfz16_0 := blk_frozen BK254.out 0; have hfz16_1 := blk_frozen BK254.out 1; have hfz16_2 := blk_frozen BK254.out 2; have hfz16_3 := blk_frozen BK254.out 3; have hfz16_4 := blk_frozen BK254.out 4; have hcz17_0 := cz_ BK255 0 (.int .i64 0); have hcz17_1 := cz_ BK255 1 (.int .i64 0); have hcz17_2 := cz_ BK255 2 (.int .i64 0); have hcz17_3 := cz_ BK255 3 (.slice none 0 0); have hcz17_4 := cz_ BK255 4 (.slice none 0 0); have hfz17_0 := blk_frozen BK255.out 0; have hfz17_1 := blk_frozen BK255.out 1; have hfz17_2 := blk_frozen BK255.out 2; have hfz17_3 := blk_frozen BK255.out 3; have hfz17_4 := blk_frozen BK255.out 4) | ((with_reducible refine gate_store (t := 31) (p := 5) rfl ?_); refine store_event (t := 31) (p := 5) (v := ?vo_wA1) (w1 := (((((w10.setCell ⟨gb265, 0, none⟩ (.int .i64 t256)).setCell ⟨gb265, 1, none⟩ (.int .i64 t257)).setCell ⟨gb265, 2, none⟩ (.int .i64 t258)).setCell ⟨gb265, 3, none⟩ (.slice Ao14 t259.length co14)).setCell ⟨gb265, 4, none⟩ (.slice Ao15 t262.length co15))) ?hg ?ho ?hn ?hr ?_; (case ho => rfl); (case hg => rfl); (case hn => rfl); (case hr => first | (go_simp; done) | (go_simp; rfl)); intro wA1 hw; have mHO261_ := hw_ HO261 BK265 hw; have mHO264_ := hw_ HO264 BK265 hw; have mB_ := yw_ HB hw; have mK254_ := fw_ BK254 NB254_265 hw; have mK255_ := fw_ BK255 NB255_265 hw; have mK265_ : Aside0 (wA1.heap[gb265]? = some (.cells #[.int .i64 t256, .int .i64 t257, .int .i64 t258, .slice Ao14 t259.length co14, .slice Ao15 t262.length co15] 31 (0, 0))) := ⟨by rw [hw]; refine blk_put (cs := #[.int .i64 t256, .int .i64 t257, .int .i64 t258, .slice Ao14 t259.length co14, .slice none 0 0]) ?_ 4 _ rfl; refine blk_put (cs := #[.int .i64 t256, .int .i64 t257, .int .i64 t258, .slice none 0 0, .slice none 0 0]) ?_ 3 _ rfl; refine blk_put (cs := #[.int .i64 t256, .int .i64 t257, .int .i64 0, .slice none 0 0, .slice none 0 0]) ?_ 2 _ rfl; refine blk_put (cs := #[.int .i64 t256, .int .i64 0, .int .i64 0, .slice none 0 0, .slice none 0 0]) ?_ 1 _ rfl; refine blk_put (cs := #[.int .i64 0, .int .i64 0, .int .i64 0, .slice none 0 0, .slice none 0 0]) ?_ 0 _ rfl; exact BK265.out⟩; clear hw; clear HO261; have HO261 := mHO261_; clear HO264; have HO264 := mHO264_; clear HB; have HB := mB_; clear BK254; have BK254 := mK254_; clear BK255; have BK255 := mK255_; clear BK265; have BK265 := mK265_; clear hcz13_0; clear hcz13_1; clear hcz13_2; clear hcz13_3; clear hcz13_4; clear hfz13_0; clear hfz13_1; clear hfz13_2; clear hfz13_3; clear hfz13_4; clear hcz16_0; clear hcz16_1; clear hcz16_2; clear hcz16_3; clear hcz16_4; clear hfz16_0; clear hfz16_1; clear hfz16_2; clear hfz16_3; clear hfz16_4; clear hcz17_0; clear hcz17_1; clear hcz17_2; clear hcz17_3; clear hcz17_4; clear hfz17_0; clear hfz17_1; clear hfz17_2; clear hfz17_3; clear hfz17_4; have hcA254_0 := cz_ BK254 0 (.int .i64 a0_0); have hcA254_1 := cz_ BK254 1 (.int .i64 a0_1); have hcA254_2 := cz_ BK254 2 (.int .i64 a0_2); have hcA254_3 := cz_ BK254 3 (.slice A0_3 l0_3.length c0_3); have hcA254_4 := cz_ BK254 4 (.slice A0_4 l0_4.length c0_4); have hfA254_0 := blk_frozen BK254.out 0; have hfA254_1 := blk_frozen BK254.out 1; have hfA254_2 := blk_frozen BK254.out 2; have hfA254_3 := blk_frozen BK254.out 3; have hfA254_4 := blk_frozen BK254.out 4; have hcA255_0 := cz_ BK255 0 (.int .i64 0); have hcA255_1 := cz_ BK255 1 (.int .i64 0); have hcA255_2 := cz_ BK255 2 (.int .i64 0); have hcA255_3 := cz_ BK255 3 (.slice none 0 0); have hcA255_4 := cz_ BK255 4 (.slice none 0 0); have hfA255_0 := blk_frozen BK255.out 0; have hfA255_1 := blk_frozen BK255.out 1; have hfA255_2 := blk_frozen BK255.out 2; have hfA255_3 := blk_frozen BK255.out 3; have hfA255_4 := blk_frozen BK255.out 4; have hcA265_0 := cz_ BK265 0 (.int .i64 t256); have hcA265_1 := cz_ BK265 1 (.int .i64 t257); have hcA265_2 := cz_ BK265 2 (.int .i64 t258); have hcA265_3 := cz_ BK265 3 (.slice Ao14 t259.length co14); have hcA265_4 := cz_ BK265 4 (.slice Ao15 t262.length co15); have hfA265_0 := blk_frozen BK265.out 0; have hfA265_1 := blk_frozen BK265.out 1; have hfA265_2 := blk_frozen BK265.out 2; have hfA265_3 := blk_frozen BK265.out 3; have hfA265_4 := blk_frozen BK265.out 4) | ((with_reducible refine gate_store (t := 3) (p := 13) rfl ?_); refine store_event (t := 3) (p := 13) (v := ?vo_wA2) (w1 := (wA1.setCell ⟨gb265, 2, none⟩ (.int .i64 ji4))) ?hg ?ho ?hn ?hr ?_; (case ho => rfl); (case hg => rfl); (case hn => rfl); (case hr => first | (go_simp; done) | (go_simp; rfl)); intro wA2 hw; have mHO261_ := hw_ HO261 BK265 hw; have mHO264_ := hw_ HO264 BK265 hw; have mB_ := yw_ HB hw; have mK254_ := fw_ BK254 NB254_265 hw; have mK255_ := fw_ BK255 NB255_265 hw; have mK265_ : Aside0 (wA2.heap[gb265]? = some (.cells #[.int .i64 t256, .int .i64 t257, .int .i64 ji4, .slice Ao14 t259.length co14, .slice Ao15 t262.length co15] 31 (0, 0))) := ⟨by rw [hw]; refine blk_put (cs := #[.int .i64 t256, .int .i64 t257, .int .i64 t258, .slice Ao14 t259.length co14, .slice Ao15 t262.length co15]) ?_ 2 _ rfl; exact BK265.out⟩; clear hw; clear HO261; have HO261 := mHO261_; clear HO264; have HO264 := mHO264_; clear HB; have HB := mB_; clear BK254; have BK254 := mK254_; clear BK255; have BK255 := mK255_; clear BK265; have BK265 := mK265_; clear hcA254_0 hfA254_0; clear hcA254_1 hfA254_1; clear hcA254_2 hfA254_2; clear hcA254_3 hfA254_3; clear hcA254_4 hfA254_4; clear hcA255_0 hfA255_0; clear hcA255_1 hfA255_1; clear hcA255_2 hfA255_2; clear hcA255_3 hfA255_3; clear hcA255_4 hfA255_4; clear hcA265_0 hfA265_0; clear hcA265_1 hfA265_1; clear hcA265_2 hfA265_2; clear hcA265_3 hfA265_3; clear hcA265_4 hfA265_4; have hcA254_0 := cz_ BK254 0 (.int .i64 a0_0); have hcA254_1 := cz_ BK254 1 (.int .i64 a0_1); have hcA254_2 := cz_ BK254 2 (.int .i64 a0_2); have hcA254_3 := cz_ BK254 3 (.slice A0_3 l0_3.length c0_3); have hcA254_4 := cz_ BK254 4 (.slice A0_4 l0_4.length c0_4); have hfA254_0 := blk_frozen BK254.out 0; have hfA254_1 := blk_frozen BK254.out 1; have hfA254_2 := blk_frozen BK254.out 2; have hfA254_3 := blk_frozen BK254.out 3; have hfA254_4 := blk_frozen BK254.out 4; have hcA255_0 := cz_ BK255 0 (.int .i64 0); have hcA255_1 := cz_ BK255 1 (.int .i64 0); have hcA255_2 := cz_ BK255 2 (.int .i64 0); have hcA255_3 := cz_ BK255 3 (.slice none 0 0); have hcA255_4 := cz_ BK255 4 (.slice none 0 0); have hfA255_0 := blk_frozen BK255.out 0; have hfA255_1 := blk_frozen BK255.out 1; have hfA255_2 := blk_frozen BK255.out 2; have hfA255_3 := blk_frozen BK255.out 3; have hfA255_4 := blk_frozen BK255.out 4; have hcA265_0 := cz_ BK265 0 (.int .i64 t256); have hcA265_1 := cz_ BK265 1 (.int .i64 t257); have hcA265_2 := cz_ BK265 2 (.int .i64 ji4); have hcA265_3 := cz_ BK265 3 (.slice Ao14 t259.length co14); have hcA265_4 := cz_ BK265 4 (.slice Ao15 t262.length co15); have hfA265_0 := blk_frozen BK265.out 0; have hfA265_1 := blk_frozen BK265.out 1; have hfA265_2 := blk_frozen BK265.out 2; have hfA265_3 := blk_frozen BK265.out 3; have hfA265_4 := blk_frozen BK265.out 4) | ((with_reducible refine gate_store (t := 31) (p := 4) rfl ?_); refine store_event (t := 31) (p := 4) (v := ?vo_wA3) (w1 := (((((wA2.setCell ⟨gb255, 0, none⟩ (.int .i64 t256)).setCell ⟨gb255, 1, none⟩ (.int .i64 t257)).setCell ⟨gb255, 2, none⟩ (.int .i64 ji4)).setCell ⟨gb255, 3, none⟩ (.slice Ao14 t259.length co14)).setCell ⟨gb255, 4, none⟩ (.slice Ao15 t262.length co15))) ?hg ?ho ?hn ?hr ?_; (case ho => rfl); (case hg => rfl); (case hn => rfl); (case hr => first | (go_simp; done) | (go_simp; rfl)); intro wA3 hw; have mHO261_ := hw_ HO261 BK255 hw; have mHO264_ := hw_ HO264 BK255 hw; have mB_ := yw_ HB hw; have mK265_ := fw_ BK265 NB265_255 hw; have mK255_ : Aside0 (wA3.heap[gb255]? = some (.cells #[.int .i64 t256, .int .i64 t257, .int .i64 ji4, .slice Ao14 t259.length co14, .slice Ao15 t262.length co15] 31 (0, 0))) := ⟨by rw [hw]; refine blk_put (cs := #[.int .i64 t256, .int .i64 t257, .int .i64 ji4, .slice Ao14 t259.length co14, .slice none 0 0]) ?_ 4 _ rfl; refine blk_put (cs := #[.int .i64 t256, .int .i64 t257, .int .i64 ji4, .slice none 0 0, .slice none 0 0]) ?_ 3 _ rfl; refine blk_put (cs := #[.int .i64 t256, .int .i64 t257, .int .i64 0, .slice none 0 0, .slice none 0 0]) ?_ 2 _ rfl; refine blk_put (cs := #[.int .i64 t256, .int .i64 0, .int .i64 0, .slice none 0 0, .slice none 0 0]) ?_ 1 _ rfl; refine blk_put (cs := #[.int .i64 0, .int .i64 0, .int .i64 0, .slice none 0 0, .slice none 0 0]) ?_ 0 _ rfl; exact BK255.out⟩; clear hw; clear HO261; have HO261 := mHO261_; clear HO264; have HO264 := mHO264_; clear HB; have HB := mB_; clear BK255; have BK255 := mK255_; clear BK265; have BK265 := mK265_; clear hcA254_0 hfA254_0; clear hcA254_1 hfA254_1; clear hcA254_2 hfA254_2; clear hcA254_3 hfA254_3; clear hcA254_4 hfA254_4; clear hcA255_0 hfA255_0; clear hcA255_1 hfA255_1; clear hcA255_2 hfA255_2; clear hcA255_3 hfA255_3; clear hcA255_4 hfA255_4; clear hcA265_0 hfA265_0; clear hcA265_1 hfA265_1; clear hcA265_2 hfA265_2; clear hcA265_3 hfA265_3; clear hcA265_4 hfA265_4))
 refine bodyPost_ret (results_cell_row rfl _ _ gb255 31 #[.int .i64 t256, .int .i64 t257, .int .i64 ji4, .slice Ao14 t259.length co14, .slice Ao15 t262.length co15] (0, 0) _ rfl BK255.out Try.underlying31 rfl (by kernel_rfl)) rfl ?_
 exact ⟨_, _, by first | rfl | (simp [errW_none, errW_some] <;> rfl), HO261.out, HO264.out, HB.out⟩

/-! ### impl_AgeLsa: function 40 -/
def impl_AgeLsa.j0 : Nat → Int → Bool → Int → Int → Int → List (S70) → List (S74) → Option (Int × Int × Int × (List (S70)) × (List (S74)) × Bool)
 | 0, _, _, _, _, _, _, _ => none
 | k + 1, x1, x13, x267000, x267001, x267002, x267003, x267004 => if x13 = true then ((impl_ownLsa.f x267000 x267001 x267002 x267003 x267004).bind fun bt270 => (some (bt270.1, bt270.2.1, bt270.2.2.1, bt270.2.2.2.1, bt270.2.2.2.2, false))) else ((impl_Lsa_aged.f x267000 x267001 x267002 x267003 x267004 x1).bind fun bt279 => (some (bt279.1, bt279.2.1, bt279.2.2.1, bt279.2.2.2.1, bt279.2.2.2.2, true)))
def impl_AgeLsa.f (k : Nat) (a0_0 : Int) (a0_1 : Int) (a0_2 : Int) (l0_3 : List (S70)) (l0_4 : List (S74)) (a1 : Int) : Option (Int × Int × Int × (List (S70)) × (List (S74)) × Bool) := (impl_LsaOk.f k a0_0 a0_1 a0_2 l0_3 l0_4).bind fun t268 => (if t268 = true then ((impl_within.f a1 0 60).bind fun t269 => (impl_AgeLsa.j0 k a1 (!t269) a0_0 a0_1 a0_2 l0_3 l0_4)) else (impl_AgeLsa.j0 k a1 true a0_0 a0_1 a0_2 l0_3 l0_4))
theorem impl_AgeLsa.mono_l : ∀ k, (∀ y0 y1 y2 y3 y4 y5 y6, LeO (impl_AgeLsa.j0 k y0 y1 y2 y3 y4 y5 y6) (impl_AgeLsa.j0 (k + 1) y0 y1 y2 y3 y4 y5 y6))
 | 0 => fun _ _ _ _ _ _ _ r h => by simp [impl_AgeLsa.j0] at h
 | k + 1 => by
  have ih0 := impl_AgeLsa.mono_l k
  ·intro y0 y1 y2 y3 y4 y5 y6
   unfold impl_AgeLsa.j0
   repeat' first
   | (with_reducible exact ih0 _ _ _ _ _ _ _)
   | (with_reducible exact impl_LsaOk.mono _ _ _ _ _ _)
   | (with_reducible exact LeO.refl _)
   | (with_reducible exact LeO.none _)
   | (with_reducible refine LeO.ite ?_ ?_)
   | (with_reducible refine LeO.bind ?_ (fun _ => ?_))
   | exact ih0 _ _ _ _ _ _ _
   | exact impl_LsaOk.mono _ _ _ _ _ _
   | exact LeO.none _
   | refine LeO.ite ?_ ?_
   | refine LeO.bind ?_ (fun _ => ?_)
theorem impl_AgeLsa.mono : ∀ a0 a1 a2 a3 a4 a5 k, LeO (impl_AgeLsa.f k a0 a1 a2 a3 a4 a5) (impl_AgeLsa.f (k + 1) a0 a1 a2 a3 a4 a5) := by
 intro a0 a1 a2 a3 a4 a5 k
 have ih0 := impl_AgeLsa.mono_l k
 unfold impl_AgeLsa.f
 repeat' first
   | (with_reducible exact ih0 _ _ _ _ _ _ _)
   | (with_reducible exact impl_LsaOk.mono _ _ _ _ _ _)
   | (with_reducible exact LeO.refl _)
   | (with_reducible exact LeO.none _)
   | (with_reducible refine LeO.ite ?_ ?_)
   | (with_reducible refine LeO.bind ?_ (fun _ => ?_))
   | exact ih0 _ _ _ _ _ _ _
   | exact impl_LsaOk.mono _ _ _ _ _ _
   | exact LeO.none _
   | refine LeO.ite ?_ ?_
   | refine LeO.bind ?_ (fun _ => ?_)
set_option maxHeartbeats 8000000 in
set_option maxRecDepth 100000 in
theorem impl_AgeLsa.calls (k : Nat) (a0_0 : Int) (a0_1 : Int) (a0_2 : Int) (A0_3 : Option Addr) (c0_3 : Nat) (l0_3 : List (S70)) (A0_4 : Option Addr) (c0_4 : Nat) (l0_4 : List (S74)) (a1 : Int) (r1 : Int) (r2 : Int) (r3 : Int) (r4 : List (S70)) (r5 : List (S74)) (r6 : Bool) (w : World) (hr0_3 : Kd.C k70 w A0_3 l0_3.length l0_3) (hc0_3 : l0_3.length ≤ c0_3) (hr0_4 : Kd.C k74 w A0_4 l0_4.length l0_4) (hc0_4 : l0_4.length ≤ c0_4) (h : impl_AgeLsa.f k a0_0 a0_1 a0_2 l0_3 l0_4 a1 = some (r1, r2, r3, r4, r5, r6)) :
  Calls Try.prog 40 #[.agg #[.int .i64 a0_0, .int .i64 a0_1, .int .i64 a0_2, .slice A0_3 l0_3.length c0_3, .slice A0_4 l0_4.length c0_4], .int .i64 a1] w fun e w' => ∃ v3_ v4_ : Value, e = .returned (.tuple #[.agg #[.int .i64 r1, .int .i64 r2, .int .i64 r3, v3_, v4_], .bool r6]) ∧ Kd.R k70 70 w' w.heap.size (fun _ => True) v3_ r4 ∧ Kd.R k74 74 w' w.heap.size (fun _ => True) v4_ r5 ∧ Below w.heap.size w w' := by
 have hu31 := Try.underlying31
 have HR0_3 := Aside0.mk hr0_3
 have HC0_3 := Aside0.mk hc0_3
 clear hr0_3 hc0_3
 have HR0_4 := Aside0.mk hr0_4
 have HC0_4 := Aside0.mk hc0_4
 clear hr0_4 hc0_4
 have HB := Aside0.mk (Below.refl w.heap.size w)
 have H : ((impl_LsaOk.f k a0_0 a0_1 a0_2 l0_3 l0_4).bind fun t268 => (if t268 = true then ((impl_within.f a1 0 60).bind fun t269 => (impl_AgeLsa.j0 k a1 (!t269) a0_0 a0_1 a0_2 l0_3 l0_4)) else (impl_AgeLsa.j0 k a1 true a0_0 a0_1 a0_2 l0_3 l0_4))) = some (r1, r2, r3, r4, r5, r6) := h
 clear h
 have HC3 := Aside0.mk H
 clear H
 go_enter Try.func40, Try.ntmps40
 go_upto_region 1 with (first | ((with_reducible refine gate_dst (N := 2) rfl ?_); refine box_event ?hg (N := 2) ?hd (cs := #[.int .i64 a0_0, .int .i64 a0_1, .int .i64 a0_2, .slice A0_3 l0_3.length c0_3, .slice A0_4 l0_4.length c0_4]) (t := 31) ?hr ?_; (case hd => rfl); (case hg => rfl); (case hr => first | (go_simp; done) | (go_simp; rfl)); intro gb266 hg w4 hbox hb; have BK266 := Aside0.mk hbox; have GW266 := ge_ HB hg; have GE266 := ge_ HB hg; replace HB := Aside0.mk (bt_ HB hb); clear hb hbox hg) | ((with_reducible refine gate_dst (N := 4) rfl ?_); refine box_event ?hg (N := 4) ?hd (cs := #[.int .i64 0, .int .i64 0, .int .i64 0, .slice none 0 0, .slice none 0 0]) (t := 31) ?hr ?_; (case hd => rfl); (case hg => rfl); (case hr => first | (go_simp; done) | (go_simp; rfl)); intro gb267 hg w5 hbox hb; have BK267 := Aside0.mk hbox; have GW267 := ge_ HB hg; have GE267 := ge_ HB hg; have NB266_267 := nl_ BK266 hg; have NB267_266 := ng_ BK266 hg; replace HB := Aside0.mk (bt_ HB hb); replace BK266 := Aside0.mk (bb_ BK266 hb); clear hb hbox hg))
 (try simp only [Act.put, List.setIfInBounds_toArray, List.set_cons_zero, List.set_cons_succ])
 go_cut [13] (fun v13 wc => ∃ (kq : Nat) (x13_2 : Bool), v13 = .bool x13_2 ∧ Aside0 (impl_AgeLsa.j0 kq a1 x13_2 a0_0 a0_1 a0_2 l0_3 l0_4 = some (r1, r2, r3, r4, r5, r6)) ∧ Aside0 (kq ≤ k) ∧ Aside0 (wc.heap[gb266]? = some (.cells #[.int .i64 a0_0, .int .i64 a0_1, .int .i64 a0_2, (.slice A0_3 l0_3.length c0_3), (.slice A0_4 l0_4.length c0_4)] 31 (0, 0))) ∧ Aside0 (wc.heap[gb267]? = some (.cells #[.int .i64 0, .int .i64 0, .int .i64 0, (.slice none 0 0), (.slice none 0 0)] 31 (0, 0))) ∧ Aside0 (Below w.heap.size w wc))
 case first =>
  have H := HC3.out
  clear HC3
  replace H := Option.bind_eq_some_iff.mp H
  obtain ⟨t268, A60, H⟩ := H
  have A6 := Aside0.mk A60
  clear A60
  by_cases c7 : t268 = true
  ·subst c7
   rw [if_pos rfl] at H
   replace H := Option.bind_eq_some_iff.mp H
   obtain ⟨t269, A80, H⟩ := H
   have A8 := Aside0.mk A80
   clear A80
   have H' := Aside0.mk H
   clear H
   have hnb9 := NB266_267.out
   have hnc9 := NB267_266.out
   have hcz10_0 := cz_ BK266 0 (.int .i64 a0_0)
   have hcz10_1 := cz_ BK266 1 (.int .i64 a0_1)
   have hcz10_2 := cz_ BK266 2 (.int .i64 a0_2)
   have hcz10_3 := cz_ BK266 3 (.slice A0_3 l0_3.length c0_3)
   have hcz10_4 := cz_ BK266 4 (.slice A0_4 l0_4.length c0_4)
   have hfz10_0 := blk_frozen BK266.out 0
   have hfz10_1 := blk_frozen BK266.out 1
   have hfz10_2 := blk_frozen BK266.out 2
   have hfz10_3 := blk_frozen BK266.out 3
   have hfz10_4 := blk_frozen BK266.out 4
   go_wp2_with (first | ((with_reducible refine gate_callee (f := 16) rfl ?_); refine gl_ (some 7) Try.func16 #[.agg #[.int .i64 a0_0, .int .i64 a0_1, .int .i64 a0_2, .slice A0_3 l0_3.length c0_3, .slice A0_4 l0_4.length c0_4]] ?_; (with_reducible refine (impl_LsaOk.calls k a0_0 a0_1 a0_2 _ _ l0_3 _ _ l0_4 true _ ?side1 ?side2 ?side3 ?side4 A6.out).mono ?_); (case side1 => exact cb_ HR0_3 HB); (case side2 => exact HC0_3.out); (case side3 => exact cb_ HR0_4 HB); (case side4 => exact HC0_4.out); rintro e w11 ⟨rfl, hb⟩; refine ⟨_, rfl, ?_⟩; replace BK266 := Aside0.mk (bb_ BK266 hb); replace BK267 := Aside0.mk (bb_ BK267 hb); replace HB := Aside0.mk (bt_ HB hb); (try clear hb); (try clear hb2); (try clear hk); (try clear hi)) | (go_at_call 55; (with_reducible refine (impl_within.calls a1 0 60 t269 _ A8.out).mono ?_); rintro e w' ⟨rfl, ⟨nd, rfl⟩⟩))
   go_meet
   case rel => exact ⟨_, (!t269), (by first | rfl | (simp; done) | (simp [*]; done)), H', ⟨by first | omega | exact Nat.le_refl _⟩, ⟨by (with_reducible repeat (first | refine blk_drewN ?_ _ | refine blk_drew ?_ | refine blk_alloc ?_ _)); exact BK266.out⟩, ⟨by (with_reducible repeat (first | refine blk_drewN ?_ _ | refine blk_drew ?_ | refine blk_alloc ?_ _)); exact BK267.out⟩, ⟨by repeat (first | (with_reducible first | exact HB.out | apply below_alloc | apply pw_below_drewN | apply below_drew1 | refine below_set ?_ GE266.out | refine below_set ?_ GE267.out) | exact HB.out)⟩⟩
  ·replace c7 := Bool.eq_false_iff.mpr c7
   subst c7
   rw [if_neg (show ¬ (false = true) by decide)] at H
   have H' := Aside0.mk H
   clear H
   have hnb12 := NB266_267.out
   have hnc12 := NB267_266.out
   have hcz13_0 := cz_ BK266 0 (.int .i64 a0_0)
   have hcz13_1 := cz_ BK266 1 (.int .i64 a0_1)
   have hcz13_2 := cz_ BK266 2 (.int .i64 a0_2)
   have hcz13_3 := cz_ BK266 3 (.slice A0_3 l0_3.length c0_3)
   have hcz13_4 := cz_ BK266 4 (.slice A0_4 l0_4.length c0_4)
   have hfz13_0 := blk_frozen BK266.out 0
   have hfz13_1 := blk_frozen BK266.out 1
   have hfz13_2 := blk_frozen BK266.out 2
   have hfz13_3 := blk_frozen BK266.out 3
   have hfz13_4 := blk_frozen BK266.out 4
   go_wp2_with (first | ((with_reducible refine gate_callee (f := 16) rfl ?_); refine gl_ (some 7) Try.func16 #[.agg #[.int .i64 a0_0, .int .i64 a0_1, .int .i64 a0_2, .slice A0_3 l0_3.length c0_3, .slice A0_4 l0_4.length c0_4]] ?_; (with_reducible refine (impl_LsaOk.calls k a0_0 a0_1 a0_2 _ _ l0_3 _ _ l0_4 false _ ?side1 ?side2 ?side3 ?side4 A6.out).mono ?_); (case side1 => exact cb_ HR0_3 HB); (case side2 => exact HC0_3.out); (case side3 => exact cb_ HR0_4 HB); (case side4 => exact HC0_4.out); rintro e w14 ⟨rfl, hb⟩; refine ⟨_, rfl, ?_⟩; replace BK266 := Aside0.mk (bb_ BK266 hb); replace BK267 := Aside0.mk (bb_ BK267 hb); replace HB := Aside0.mk (bt_ HB hb); (try clear hb); (try clear hb2); (try clear hk); (try clear hi)))
   go_meet
   case rel => exact ⟨_, (true), (by first | rfl | (simp; done) | (simp [*]; done)), H', ⟨by first | omega | exact Nat.le_refl _⟩, ⟨by (with_reducible repeat (first | refine blk_drewN ?_ _ | refine blk_drew ?_ | refine blk_alloc ?_ _)); exact BK266.out⟩, ⟨by (with_reducible repeat (first | refine blk_drewN ?_ _ | refine blk_drew ?_ | refine blk_alloc ?_ _)); exact BK267.out⟩, ⟨by repeat (first | (with_reducible first | exact HB.out | apply below_alloc | apply pw_below_drewN | apply below_drew1 | refine below_set ?_ GE266.out | refine below_set ?_ GE267.out) | exact HB.out)⟩⟩
 case rest =>
  clear HC3
  try clear c1
  try clear p2
  try clear c4
  try clear c7
  try clear c9
  try clear c12
  try clear hcz10_0
  try clear hcz10_1
  try clear hcz10_2
  try clear hcz10_3
  try clear hcz10_4
  try clear hcz13_0
  try clear hcz13_1
  try clear hcz13_2
  try clear hcz13_3
  try clear hcz13_4
  try clear hfz10_0
  try clear hfz10_1
  try clear hfz10_2
  try clear hfz10_3
  try clear hfz10_4
  try clear hfz13_0
  try clear hfz13_1
  try clear hfz13_2
  try clear hfz13_3
  try clear hfz13_4
  obtain ⟨kq, x13_2, rfl, HA, HJ2, BK266, BK267, HB⟩ := hcut
  cases kq with
  | zero => exact absurd HA.out (by simp [impl_AgeLsa.j0])
  | succ kj2 =>
   have H := HA.out
   clear HA
   simp only [impl_AgeLsa.j0] at H
   by_cases c15 : x13_2 = true
   ·subst c15
    rw [if_pos rfl] at H
    replace H := Option.bind_eq_some_iff.mp H
    obtain ⟨⟨t270, t271, t272, t273, t276⟩, A160, H⟩ := H
    have A16 := Aside0.mk A160
    clear A160
    simp only [Option.some.injEq, Prod.mk.injEq] at H
    obtain ⟨rfl, rfl, rfl, rfl, rfl, rfl⟩ := H
    have hnb17 := NB266_267.out
    have hnc17 := NB267_266.out
    have hcz18_0 := cz_ BK266 0 (.int .i64 a0_0)
    have hcz18_1 := cz_ BK266 1 (.int .i64 a0_1)
    have hcz18_2 := cz_ BK266 2 (.int .i64 a0_2)
    have hcz18_3 := cz_ BK266 3 (.slice A0_3 l0_3.length c0_3)
    have hcz18_4 := cz_ BK266 4 (.slice A0_4 l0_4.length c0_4)
    have hfz18_0 := blk_frozen BK266.out 0
    have hfz18_1 := blk_frozen BK266.out 1
    have hfz18_2 := blk_frozen BK266.out 2
    have hfz18_3 := blk_frozen BK266.out 3
    have hfz18_4 := blk_frozen BK266.out 4
    go_wp2_with (first | ((with_reducible refine gate_callee (f := 73) rfl ?_); refine gl_ (some 15) Try.func73 #[.agg #[.int .i64 a0_0, .int .i64 a0_1, .int .i64 a0_2, .slice A0_3 l0_3.length c0_3, .slice A0_4 l0_4.length c0_4]] ?_; (with_reducible refine (impl_ownLsa.calls a0_0 a0_1 a0_2 _ _ l0_3 _ _ l0_4 t270 t271 t272 t273 t276 _ ?side1 ?side2 ?side3 ?side4 A16.out).mono ?_); (case side1 => exact cb_ HR0_3 HB); (case side2 => exact HC0_3.out); (case side3 => exact cb_ HR0_4 HB); (case side4 => exact HC0_4.out); rintro e w19 ⟨v274, v277, rfl, ho0, ho1, hb⟩; refine ⟨_, rfl, ?_⟩; have HO275 := Aside0.mk (Kd.R_lower ho0 (bz_ HB)); have HO278 := Aside0.mk (Kd.R_lower ho1 (bz_ HB)); replace BK266 := Aside0.mk (bb_ BK266 hb); replace BK267 := Aside0.mk (bb_ BK267 hb); replace HB := Aside0.mk (bt_ HB hb); (try clear hb); (try clear hb2); (try clear hk); (try clear hi); (try clear ho0); (try clear ho1); have hcz20_0 := cz_ BK267 0 (.int .i64 0); have hcz20_1 := cz_ BK267 1 (.int .i64 0); have hcz20_2 := cz_ BK267 2 (.int .i64 0); have hcz20_3 := cz_ BK267 3 (.slice none 0 0); have hcz20_4 := cz_ BK267 4 (.slice none 0 0); have hfz20_0 := blk_frozen BK267.out 0; have hfz20_1 := blk_frozen BK267.out 1; have hfz20_2 := blk_frozen BK267.out 2; have hfz20_3 := blk_frozen BK267.out 3; have hfz20_4 := blk_frozen BK267.out 4; obtain ⟨Ao21, co21, eo21⟩ := Kd.R_slice HO275.out; subst eo21; obtain ⟨Ao22, co22, eo22⟩ := Kd.R_slice HO278.out; subst eo22))
    refine bodyPost_ret (results_ct rfl _ _ gb267 31 #[.int .i64 t270, .int .i64 t271, .int .i64 t272, .slice Ao21 t273.length co21, .slice Ao22 t276.length co22] (0, 0) _ rfl (by (with_reducible repeat (first | refine blk_drewN ?_ _ | refine blk_drew ?_ | refine blk_alloc ?_ _)); refine blk_put (cs := #[.int .i64 t270, .int .i64 t271, .int .i64 t272, .slice Ao21 t273.length co21, .slice none 0 0]) ?_ 4 _ rfl; (with_reducible repeat (first | refine blk_drewN ?_ _ | refine blk_drew ?_ | refine blk_alloc ?_ _)); refine blk_put (cs := #[.int .i64 t270, .int .i64 t271, .int .i64 t272, .slice none 0 0, .slice none 0 0]) ?_ 3 _ rfl; (with_reducible repeat (first | refine blk_drewN ?_ _ | refine blk_drew ?_ | refine blk_alloc ?_ _)); refine blk_put (cs := #[.int .i64 t270, .int .i64 t271, .int .i64 0, .slice none 0 0, .slice none 0 0]) ?_ 2 _ rfl; (with_reducible repeat (first | refine blk_drewN ?_ _ | refine blk_drew ?_ | refine blk_alloc ?_ _)); refine blk_put (cs := #[.int .i64 t270, .int .i64 0, .int .i64 0, .slice none 0 0, .slice none 0 0]) ?_ 1 _ rfl; (with_reducible repeat (first | refine blk_drewN ?_ _ | refine blk_drew ?_ | refine blk_alloc ?_ _)); refine blk_put (cs := #[.int .i64 0, .int .i64 0, .int .i64 0, .slice none 0 0, .slice none 0 0]) ?_ 0 _ rfl; (with_reducible repeat (first | refine blk_drewN ?_ _ | refine blk_drew ?_ | refine blk_alloc ?_ _)); exact BK267.out) Try.underlying31 rfl (by kernel_rfl)) rfl ?_
    exact ⟨_, _, by first | rfl | (simp [errW_none, errW_some] <;> rfl) | (simp [*, errW_none, errW_some] <;> rfl), by (with_reducible repeat (first | apply Kd.R_alloc | apply Kd.R_drewN | apply Kd.R_drew)); exact Kd.R_mono (Kd.R_far (p := ⟨gb267, 4, none⟩) (Kd.R_far (p := ⟨gb267, 3, none⟩) (Kd.R_far (p := ⟨gb267, 2, none⟩) (Kd.R_far (p := ⟨gb267, 1, none⟩) (Kd.R_far (p := ⟨gb267, 0, none⟩) (Kd.R_types HO275.out BK267.out (by decide)) (fun _ hk => hk.2) (.int .i64 t270)) (fun _ hk => hk.2) (.int .i64 t271)) (fun _ hk => hk.2) (.int .i64 t272)) (fun _ hk => hk.2) (.slice Ao21 t273.length co21)) (fun _ hk => hk.2) (.slice Ao22 t276.length co22)) (fun _ hk => trivial), by (with_reducible repeat (first | apply Kd.R_alloc | apply Kd.R_drewN | apply Kd.R_drew)); exact Kd.R_mono (Kd.R_far (p := ⟨gb267, 4, none⟩) (Kd.R_far (p := ⟨gb267, 3, none⟩) (Kd.R_far (p := ⟨gb267, 2, none⟩) (Kd.R_far (p := ⟨gb267, 1, none⟩) (Kd.R_far (p := ⟨gb267, 0, none⟩) (Kd.R_types HO278.out BK267.out (by decide)) (fun _ hk => hk.2) (.int .i64 t270)) (fun _ hk => hk.2) (.int .i64 t271)) (fun _ hk => hk.2) (.int .i64 t272)) (fun _ hk => hk.2) (.slice Ao21 t273.length co21)) (fun _ hk => hk.2) (.slice Ao22 t276.length co22)) (fun _ hk => trivial), by repeat (first | (with_reducible first | exact HB.out | apply below_alloc | apply pw_below_drewN | apply below_drew1 | refine below_set ?_ GE266.out | refine below_set ?_ GE267.out) | exact HB.out)⟩
   ·replace c15 := Bool.eq_false_iff.mpr c15
    subst c15
    rw [if_neg (show ¬ (false = true) by decide)] at H
    replace H := Option.bind_eq_some_iff.mp H
    obtain ⟨⟨t279, t280, t281, t282, t285⟩, A230, H⟩ := H
    have A23 := Aside0.mk A230
    clear A230
    simp only [Option.some.injEq, Prod.mk.injEq] at H
    obtain ⟨rfl, rfl, rfl, rfl, rfl, rfl⟩ := H
    have hnb24 := NB266_267.out
    have hnc24 := NB267_266.out
    have hcz25_0 := cz_ BK266 0 (.int .i64 a0_0)
    have hcz25_1 := cz_ BK266 1 (.int .i64 a0_1)
    have hcz25_2 := cz_ BK266 2 (.int .i64 a0_2)
    have hcz25_3 := cz_ BK266 3 (.slice A0_3 l0_3.length c0_3)
    have hcz25_4 := cz_ BK266 4 (.slice A0_4 l0_4.length c0_4)
    have hfz25_0 := blk_frozen BK266.out 0
    have hfz25_1 := blk_frozen BK266.out 1
    have hfz25_2 := blk_frozen BK266.out 2
    have hfz25_3 := blk_frozen BK266.out 3
    have hfz25_4 := blk_frozen BK266.out 4
    go_wp2_with (first | ((with_reducible refine gate_callee (f := 74) rfl ?_); refine gl_ (some 18) Try.func74 #[.agg #[.int .i64 a0_0, .int .i64 a0_1, .int .i64 a0_2, .slice A0_3 l0_3.length c0_3, .slice A0_4 l0_4.length c0_4], .int .i64 a1] ?_; (with_reducible refine (impl_Lsa_aged.calls a0_0 a0_1 a0_2 _ _ l0_3 _ _ l0_4 a1 t279 t280 t281 t282 t285 _ ?side1 ?side2 ?side3 ?side4 A23.out).mono ?_); (case side1 => exact cb_ HR0_3 HB); (case side2 => exact HC0_3.out); (case side3 => exact cb_ HR0_4 HB); (case side4 => exact HC0_4.out); rintro e w26 ⟨v283, v286, rfl, ho0, ho1, hb⟩; refine ⟨_, rfl, ?_⟩; have HO284 := Aside0.mk (Kd.R_lower ho0 (bz_ HB)); have HO287 := Aside0.mk (Kd.R_lower ho1 (bz_ HB)); replace BK266 := Aside0.mk (bb_ BK266 hb); replace BK267 := Aside0.mk (bb_ BK267 hb); replace HB := Aside0.mk (bt_ HB hb); (try clear hb); (try clear hb2); (try clear hk); (try clear hi); (try clear ho0); (try clear ho1); have hcz27_0 := cz_ BK267 0 (.int .i64 0); have hcz27_1 := cz_ BK267 1 (.int .i64 0); have hcz27_2 := cz_ BK267 2 (.int .i64 0); have hcz27_3 := cz_ BK267 3 (.slice none 0 0); have hcz27_4 := cz_ BK267 4 (.slice none 0 0); have hfz27_0 := blk_frozen BK267.out 0; have hfz27_1 := blk_frozen BK267.out 1; have hfz27_2 := blk_frozen BK267.out 2; have hfz27_3 := blk_frozen BK267.out 3; have hfz27_4 := blk_frozen BK267.out 4; obtain ⟨Ao28, co28, eo28⟩ := Kd.R_slice HO284.out; subst eo28; obtain ⟨Ao29, co29, eo29⟩ := Kd.R_slice HO287.out; subst eo29))
    refine bodyPost_ret (results_ct rfl _ _ gb267 31 #[.int .i64 t279, .int .i64 t280, .int .i64 t281, .slice Ao28 t282.length co28, .slice Ao29 t285.length co29] (0, 0) _ rfl (by (with_reducible repeat (first | refine blk_drewN ?_ _ | refine blk_drew ?_ | refine blk_alloc ?_ _)); refine blk_put (cs := #[.int .i64 t279, .int .i64 t280, .int .i64 t281, .slice Ao28 t282.length co28, .slice none 0 0]) ?_ 4 _ rfl; (with_reducible repeat (first | refine blk_drewN ?_ _ | refine blk_drew ?_ | refine blk_alloc ?_ _)); refine blk_put (cs := #[.int .i64 t279, .int .i64 t280, .int .i64 t281, .slice none 0 0, .slice none 0 0]) ?_ 3 _ rfl; (with_reducible repeat (first | refine blk_drewN ?_ _ | refine blk_drew ?_ | refine blk_alloc ?_ _)); refine blk_put (cs := #[.int .i64 t279, .int .i64 t280, .int .i64 0, .slice none 0 0, .slice none 0 0]) ?_ 2 _ rfl; (with_reducible repeat (first | refine blk_drewN ?_ _ | refine blk_drew ?_ | refine blk_alloc ?_ _)); refine blk_put (cs := #[.int .i64 t279, .int .i64 0, .int .i64 0, .slice none 0 0, .slice none 0 0]) ?_ 1 _ rfl; (with_reducible repeat (first | refine blk_drewN ?_ _ | refine blk_drew ?_ | refine blk_alloc ?_ _)); refine blk_put (cs := #[.int .i64 0, .int .i64 0, .int .i64 0, .slice none 0 0, .slice none 0 0]) ?_ 0 _ rfl; (with_reducible repeat (first | refine blk_drewN ?_ _ | refine blk_drew ?_ | refine blk_alloc ?_ _)); exact BK267.out) Try.underlying31 rfl (by kernel_rfl)) rfl ?_
    exact ⟨_, _, by first | rfl | (simp [errW_none, errW_some] <;> rfl) | (simp [*, errW_none, errW_some] <;> rfl), by (with_reducible repeat (first | apply Kd.R_alloc | apply Kd.R_drewN | apply Kd.R_drew)); exact Kd.R_mono (Kd.R_far (p := ⟨gb267, 4, none⟩) (Kd.R_far (p := ⟨gb267, 3, none⟩) (Kd.R_far (p := ⟨gb267, 2, none⟩) (Kd.R_far (p := ⟨gb267, 1, none⟩) (Kd.R_far (p := ⟨gb267, 0, none⟩) (Kd.R_types HO284.out BK267.out (by decide)) (fun _ hk => hk.2) (.int .i64 t279)) (fun _ hk => hk.2) (.int .i64 t280)) (fun _ hk => hk.2) (.int .i64 t281)) (fun _ hk => hk.2) (.slice Ao28 t282.length co28)) (fun _ hk => hk.2) (.slice Ao29 t285.length co29)) (fun _ hk => trivial), by (with_reducible repeat (first | apply Kd.R_alloc | apply Kd.R_drewN | apply Kd.R_drew)); exact Kd.R_mono (Kd.R_far (p := ⟨gb267, 4, none⟩) (Kd.R_far (p := ⟨gb267, 3, none⟩) (Kd.R_far (p := ⟨gb267, 2, none⟩) (Kd.R_far (p := ⟨gb267, 1, none⟩) (Kd.R_far (p := ⟨gb267, 0, none⟩) (Kd.R_types HO287.out BK267.out (by decide)) (fun _ hk => hk.2) (.int .i64 t279)) (fun _ hk => hk.2) (.int .i64 t280)) (fun _ hk => hk.2) (.int .i64 t281)) (fun _ hk => hk.2) (.slice Ao28 t282.length co28)) (fun _ hk => hk.2) (.slice Ao29 t285.length co29)) (fun _ hk => trivial), by repeat (first | (with_reducible first | exact HB.out | apply below_alloc | apply pw_below_drewN | apply below_drew1 | refine below_set ?_ GE266.out | refine below_set ?_ GE267.out) | exact HB.out)⟩

end Go.Proofs.Ytiikcfaodkiakaa.QFnExactAgeLsa
