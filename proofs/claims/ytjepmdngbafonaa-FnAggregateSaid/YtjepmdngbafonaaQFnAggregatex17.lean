/- Contracts of functions that the law reaches: what each call returns and what it leaves in memory. Made by this session over the print of the kit. -/
import Derived.Test.YtjepmdngbafonaaQFnAggregatex0
import Derived.Test.YtjepmdngbafonaaQFnAggregatex1
import Derived.Test.YtjepmdngbafonaaQFnAggregatex13
import Derived.Test.YtjepmdngbafonaaQFnAggregatex15
import Derived.Test.YtjepmdngbafonaaQFnAggregatex16
namespace Go.Proofs.Ytjepmdngbafonaa.QFnAggregate
open Go.RowKit Go.Proofs.YtjepmdngbafonaaB.PrintWords Go.Proofs.YtjepmdngbafonaaB.PrintLast Go.Proofs.YtjepmdngbafonaaB.PrintMore
attribute [local go_sem] max2_int min2_int max_two min_two max_three min_three max_four min_four   -- for this text's walks alone
set_option linter.unusedVariables false
set_option linter.unusedSimpArgs false
abbrev tb17 : Bool := true
abbrev fb17 : Bool := false
def ba17_0 : Array Bool := #[fb17,fb17,fb17,fb17,fb17,fb17,fb17,fb17,fb17,fb17,fb17]
def ba17_1 : Array Bool := #[tb17,fb17,fb17,fb17,fb17,fb17,fb17,fb17,fb17,fb17,fb17]
def ba17_2 : Array Bool := #[tb17,fb17,tb17,fb17,fb17,fb17,fb17,fb17,fb17,fb17,fb17]
def ba17_3 : Array Bool := #[tb17,fb17,tb17,fb17,fb17,fb17,tb17,fb17,fb17,fb17,fb17]
def ba17_4 : Array Bool := #[tb17,tb17,tb17,fb17,fb17,fb17,tb17,fb17,fb17,fb17,fb17]
def ba17_5 : Array Bool := #[tb17,tb17,tb17,tb17,fb17,fb17,tb17,fb17,fb17,fb17,fb17]
def ba17_6 : Array Bool := #[tb17,tb17,tb17,tb17,fb17,fb17,tb17,tb17,fb17,fb17,fb17]
def ba17_7 : Array Bool := #[tb17,tb17,tb17,tb17,tb17,fb17,tb17,tb17,fb17,fb17,fb17]
def ba17_8 : Array Bool := #[tb17,tb17,tb17,tb17,tb17,tb17,tb17,tb17,fb17,fb17,fb17]
def ba17_9 : Array Bool := #[tb17,tb17,tb17,tb17,tb17,tb17,tb17,tb17,tb17,fb17,fb17]
def ba17_10 : Array Bool := #[tb17,tb17,tb17,tb17,tb17,tb17,tb17,tb17,tb17,tb17,fb17]
def ba17_11 : Array Bool := #[tb17,tb17,tb17,tb17,tb17,tb17,tb17,tb17,tb17,tb17,tb17]

attribute [local go_sem high] eqA28
/-! ### spec_Sibling: function 107 -/
def spec_Sibling.f (a0_0 : Int) (a0_1 : Int) : Option (Int × Int × Bool) := (spec_PrefixOk.f a0_0 a0_1).bind fun t418 => (if t418 = true then (if a0_1 = 0 then (some (0, 0, false)) else ((spec_l01Size2.f a0_1).bind fun t419 => (some (Go.bits .xor .i64 a0_0 t419, a0_1, true)))) else (some (0, 0, false)))
def spec_Sibling.T3 : Bool × List (List Nat × List Nat) := (true, [([], []), ([0], [0]), ([], []), ([2], [2]), ([3], [3]), ([1, 4], [1, 4]), ([], []), ([6], [6]), ([5, 7], [5, 7]), ([8, 4, 0, 1, 2, 3, 4, 5, 6, 7, 8], [8]), ([9, 0, 1, 2, 3, 4, 5, 6, 7, 8, 9], [])])
def spec_Sibling.B3 : List Nat := [0, 1, 0, 4, 12, 31, 0, 64, 255, 511, 1023]
theorem spec_Sibling.tab3 : rtab .any (opsOf Try.f107 3) = spec_Sibling.T3 := by kernel_rfl
theorem spec_Sibling.bits3 : waitsOk spec_Sibling.T3.2 spec_Sibling.B3 = true := by kernel_rfl
set_option maxHeartbeats 8000000 in
set_option maxRecDepth 100000 in
theorem spec_Sibling.calls (a0_0 : Int) (a0_1 : Int) (r1 : Int) (r2 : Int) (r3 : Bool) (w : World) (h : spec_Sibling.f a0_0 a0_1 = some (r1, r2, r3)) :
  Calls Try.prog 107 #[.agg #[.int .i64 a0_0, .int .i64 a0_1]] w fun e w' => e = .returned (.tuple #[.agg #[.int .i64 r1, .int .i64 r2], .bool r3]) ∧ Below w.heap.size w w' := by
 have hu28 := Try.underlying28
 have HB := Aside0.mk (Below.refl w.heap.size w)
 have H : ((spec_PrefixOk.f a0_0 a0_1).bind fun t418 => (if t418 = true then (if a0_1 = 0 then (some (0, 0, false)) else ((spec_l01Size2.f a0_1).bind fun t419 => (some (Go.bits .xor .i64 a0_0 t419, a0_1, true)))) else (some (0, 0, false)))) = some (r1, r2, r3) := h
 clear h
 replace H := Option.bind_eq_some_iff.mp H
 obtain ⟨t418, A20, H⟩ := H
 have A2 := Aside0.mk A20
 clear A20
 by_cases c3 : t418 = true
 rotate_left
 ·replace c3 := Bool.eq_false_iff.mpr c3
  subst c3
  rw [if_neg (show ¬ (false = true) by decide)] at H
  simp only [Option.some.injEq, Prod.mk.injEq] at H
  obtain ⟨rfl, rfl, rfl⟩ := H
  go_enter Try.func107, Try.ntmps107
  go_wp2_with (first | ((with_reducible refine gate_dst (N := 1) rfl ?_); refine box_event ?hg (N := 1) ?hd (cs := #[.int .i64 a0_0, .int .i64 a0_1]) (t := 28) ?hr ?_; (case hd => rfl); (case hg => rfl); (case hr => first | (go_simp; done) | (go_simp; rfl)); intro gb416 hg w22 hbox hb; have BK416 := Aside0.mk hbox; have GW416 := ge_ HB hg; have GE416 := ge_ HB hg; replace HB := Aside0.mk (bt_ HB hb); clear hb hbox hg) | ((with_reducible refine gate_dst (N := 2) rfl ?_); refine box_event ?hg (N := 2) ?hd (cs := #[.int .i64 0, .int .i64 0]) (t := 28) ?hr ?_; (case hd => rfl); (case hg => rfl); (case hr => first | (go_simp; done) | (go_simp; rfl)); intro gb417 hg w23 hbox hb; have BK417 := Aside0.mk hbox; have GW417 := ge_ HB hg; have GE417 := ge_ HB hg; have NB416_417 := nl_ BK416 hg; have NB417_416 := ng_ BK416 hg; replace HB := Aside0.mk (bt_ HB hb); replace BK416 := Aside0.mk (bb_ BK416 hb); clear hb hbox hg; have hnb24 := NB416_417.out; have hnc24 := NB417_416.out; have hcz25_0 := cz_ BK416 0 (.int .i64 a0_0); have hcz25_1 := cz_ BK416 1 (.int .i64 a0_1); have hfz25_0 := blk_frozen BK416.out 0; have hfz25_1 := blk_frozen BK416.out 1) | ((with_reducible refine gate_callee (f := 55) rfl ?_); refine gl_ (some 5) Try.func55 #[.agg #[.int .i64 a0_0, .int .i64 a0_1]] ?_; (with_reducible refine (spec_PrefixOk.calls a0_0 a0_1 false _ A2.out).mono ?_); rintro e w26 ⟨rfl, hb⟩; refine ⟨_, rfl, ?_⟩; replace BK416 := Aside0.mk (bb_ BK416 hb); replace BK417 := Aside0.mk (bb_ BK417 hb); replace HB := Aside0.mk (bt_ HB hb); (try clear hb); (try clear hb2); (try clear hk); (try clear hi); have hcz27_0 := cz_ BK417 0 (.int .i64 0); have hcz27_1 := cz_ BK417 1 (.int .i64 0); have hfz27_0 := blk_frozen BK417.out 0; have hfz27_1 := blk_frozen BK417.out 1))
  refine bodyPost_ret (results_ct rfl _ _ gb417 28 #[.int .i64 0, .int .i64 0] (0, 0) _ rfl (by (with_reducible repeat (first | refine blk_drewN ?_ _ | refine blk_drew ?_ | refine blk_alloc ?_ _)); refine blk_put (cs := #[.int .i64 0, .int .i64 0]) ?_ 1 _ rfl; (with_reducible repeat (first | refine blk_drewN ?_ _ | refine blk_drew ?_ | refine blk_alloc ?_ _)); refine blk_put (cs := #[.int .i64 0, .int .i64 0]) ?_ 0 _ rfl; (with_reducible repeat (first | refine blk_drewN ?_ _ | refine blk_drew ?_ | refine blk_alloc ?_ _)); exact BK417.out) Try.underlying28 rfl (by kernel_rfl)) rfl ?_
  exact ⟨by first | rfl | (simp [errW_none, errW_some] <;> rfl) | (simp [*, errW_none, errW_some] <;> rfl), by repeat (first | (with_reducible first | exact HB.out | apply below_alloc | apply pw_below_drewN | apply below_drew1 | refine below_set ?_ GE416.out | refine below_set ?_ GE417.out) | exact HB.out)⟩
 subst c3
 rw [if_pos rfl] at H
 by_cases c4 : a0_1 = 0
 ·rw [if_pos c4] at H
  have c4b0 : (a0_1 == 0) = true := beq_iff_eq.mpr c4
  have c4b1 : (a0_1 != 0) = false := bne_eq_false_iff_eq.mpr c4
  clear c4
  simp only [Option.some.injEq, Prod.mk.injEq] at H
  obtain ⟨rfl, rfl, rfl⟩ := H
  go_enter Try.func107, Try.ntmps107
  go_wp2_with (first | ((with_reducible refine gate_dst (N := 1) rfl ?_); refine box_event ?hg (N := 1) ?hd (cs := #[.int .i64 a0_0, .int .i64 a0_1]) (t := 28) ?hr ?_; (case hd => rfl); (case hg => rfl); (case hr => first | (go_simp; done) | (go_simp; rfl)); intro gb416 hg w5 hbox hb; have BK416 := Aside0.mk hbox; have GW416 := ge_ HB hg; have GE416 := ge_ HB hg; replace HB := Aside0.mk (bt_ HB hb); clear hb hbox hg) | ((with_reducible refine gate_dst (N := 2) rfl ?_); refine box_event ?hg (N := 2) ?hd (cs := #[.int .i64 0, .int .i64 0]) (t := 28) ?hr ?_; (case hd => rfl); (case hg => rfl); (case hr => first | (go_simp; done) | (go_simp; rfl)); intro gb417 hg w6 hbox hb; have BK417 := Aside0.mk hbox; have GW417 := ge_ HB hg; have GE417 := ge_ HB hg; have NB416_417 := nl_ BK416 hg; have NB417_416 := ng_ BK416 hg; replace HB := Aside0.mk (bt_ HB hb); replace BK416 := Aside0.mk (bb_ BK416 hb); clear hb hbox hg; have hnb7 := NB416_417.out; have hnc7 := NB417_416.out; have hcz8_0 := cz_ BK416 0 (.int .i64 a0_0); have hcz8_1 := cz_ BK416 1 (.int .i64 a0_1); have hfz8_0 := blk_frozen BK416.out 0; have hfz8_1 := blk_frozen BK416.out 1) | ((with_reducible refine gate_callee (f := 55) rfl ?_); refine gl_ (some 5) Try.func55 #[.agg #[.int .i64 a0_0, .int .i64 a0_1]] ?_; (with_reducible refine (spec_PrefixOk.calls a0_0 a0_1 true _ A2.out).mono ?_); rintro e w9 ⟨rfl, hb⟩; refine ⟨_, rfl, ?_⟩; replace BK416 := Aside0.mk (bb_ BK416 hb); replace BK417 := Aside0.mk (bb_ BK417 hb); replace HB := Aside0.mk (bt_ HB hb); (try clear hb); (try clear hb2); (try clear hk); (try clear hi); have hcz10_0 := cz_ BK416 0 (.int .i64 a0_0); have hcz10_1 := cz_ BK416 1 (.int .i64 a0_1); have hfz10_0 := blk_frozen BK416.out 0; have hfz10_1 := blk_frozen BK416.out 1; have hcz11_0 := cz_ BK417 0 (.int .i64 0); have hcz11_1 := cz_ BK417 1 (.int .i64 0); have hfz11_0 := blk_frozen BK417.out 0; have hfz11_1 := blk_frozen BK417.out 1))
  refine bodyPost_ret (results_ct rfl _ _ gb417 28 #[.int .i64 0, .int .i64 0] (0, 0) _ rfl (by (with_reducible repeat (first | refine blk_drewN ?_ _ | refine blk_drew ?_ | refine blk_alloc ?_ _)); refine blk_put (cs := #[.int .i64 0, .int .i64 0]) ?_ 1 _ rfl; (with_reducible repeat (first | refine blk_drewN ?_ _ | refine blk_drew ?_ | refine blk_alloc ?_ _)); refine blk_put (cs := #[.int .i64 0, .int .i64 0]) ?_ 0 _ rfl; (with_reducible repeat (first | refine blk_drewN ?_ _ | refine blk_drew ?_ | refine blk_alloc ?_ _)); exact BK417.out) Try.underlying28 rfl (by kernel_rfl)) rfl ?_
  exact ⟨by first | rfl | (simp [errW_none, errW_some] <;> rfl) | (simp [*, errW_none, errW_some] <;> rfl), by repeat (first | (with_reducible first | exact HB.out | apply below_alloc | apply pw_below_drewN | apply below_drew1 | refine below_set ?_ GE416.out | refine below_set ?_ GE417.out) | exact HB.out)⟩
 rw [if_neg c4] at H
 have c4b0 : (a0_1 == 0) = false := beq_eq_false_iff_ne.mpr c4
 have c4b1 : (a0_1 != 0) = true := bne_iff_ne.mpr c4
 replace H := Option.bind_eq_some_iff.mp H
 obtain ⟨t419, A120, H⟩ := H
 have A12 := Aside0.mk A120
 clear A120
 simp only [Option.some.injEq, Prod.mk.injEq] at H
 obtain ⟨rfl, rfl, rfl⟩ := H
 go_enter Try.func107, Try.ntmps107
 try go_wp2_with (first | ((with_reducible refine gate_dst (N := 1) rfl ?_); refine box_event ?hg (N := 1) ?hd (cs := #[.int .i64 a0_0, .int .i64 a0_1]) (t := 28) ?hr ?_; (case hd => rfl); (case hg => rfl); (case hr => first | (go_simp; done) | (go_simp; rfl)); intro gb416 hg w13 hbox hb; have BK416 := Aside0.mk hbox; have GW416 := ge_ HB hg; have GE416 := ge_ HB hg; replace HB := Aside0.mk (bt_ HB hb); clear hb hbox hg) | ((with_reducible refine gate_dst (N := 2) rfl ?_); refine box_event ?hg (N := 2) ?hd (cs := #[.int .i64 0, .int .i64 0]) (t := 28) ?hr ?_; (case hd => rfl); (case hg => rfl); (case hr => first | (go_simp; done) | (go_simp; rfl)); intro gb417 hg w14 hbox hb; have BK417 := Aside0.mk hbox; have GW417 := ge_ HB hg; have GE417 := ge_ HB hg; have NB416_417 := nl_ BK416 hg; have NB417_416 := ng_ BK416 hg; replace HB := Aside0.mk (bt_ HB hb); replace BK416 := Aside0.mk (bb_ BK416 hb); clear hb hbox hg; have hnb15 := NB416_417.out; have hnc15 := NB417_416.out; have hcz16_0 := cz_ BK416 0 (.int .i64 a0_0); have hcz16_1 := cz_ BK416 1 (.int .i64 a0_1); have hfz16_0 := blk_frozen BK416.out 0; have hfz16_1 := blk_frozen BK416.out 1) | ((with_reducible refine gate_callee (f := 55) rfl ?_); refine gl_ (some 5) Try.func55 #[.agg #[.int .i64 a0_0, .int .i64 a0_1]] ?_; (with_reducible refine (spec_PrefixOk.calls a0_0 a0_1 true _ A2.out).mono ?_); rintro e w17 ⟨rfl, hb⟩; refine ⟨_, rfl, ?_⟩; replace BK416 := Aside0.mk (bb_ BK416 hb); replace BK417 := Aside0.mk (bb_ BK417 hb); replace HB := Aside0.mk (bt_ HB hb); (try clear hb); (try clear hb2); (try clear hk); (try clear hi); have hcz18_0 := cz_ BK416 0 (.int .i64 a0_0); have hcz18_1 := cz_ BK416 1 (.int .i64 a0_1); have hfz18_0 := blk_frozen BK416.out 0; have hfz18_1 := blk_frozen BK416.out 1))
 replace BK416 := Aside0.mk (blk_drew BK416.out)
 replace BK417 := Aside0.mk (blk_drew BK417.out)
 replace HB := Aside0.mk (below_drew1 HB.out)
 refine start_ (n := 11) (S := fun w' => w'.cell? ⟨gb416, 0, none⟩ = some (.int .i64 a0_0) ∧ w'.cell? ⟨gb416, 1, none⟩ = some (.int .i64 a0_1)) (ds := []) ba17_0 (by kernel_rfl) rfl rfl ⟨(blk_cell BK416.out 0).trans rfl, (blk_cell BK416.out 1).trans rfl⟩ (fun hHeld => ?_); refine with_tabW spec_Sibling.tab3 spec_Sibling.bits3 (fun HT_ HW_ => ?_)
 generalize w17.drew = w19 at BK416 BK417 HB hHeld ⊢
 refine pz_ 0 13 ba17_1 HT_ ?_
 refine pz_ 2 15 ba17_2 HT_ ?_
 refine pz_ 6 19 ba17_3 HT_ ?_
 refine pt_ 1 14 ba17_4 HT_ HW_ hHeld ?_
 refine pt_ 3 16 ba17_5 HT_ HW_ hHeld ?_
 refine pt_ 7 20 ba17_6 HT_ HW_ hHeld ?_
 refine one_ (i := 4) (N := some 17) ba17_7 rfl rfl (one_of HT_.out (by kernel_rfl)) (by decide) (fun K hK => ?_)
 refine gz_ Try.func57 #[.int .i64 a0_1] ?_
 with_reducible refine (spec_l01Size2.calls a0_1 t419 _ A12.out).mono ?_
 rintro e w' ⟨rfl, ⟨nd, rfl⟩⟩
 refine ⟨_, rfl, ?_⟩
 refine hK.out _ _ ⟨(blk_cell BK416.out 0).trans rfl, (blk_cell BK416.out 1).trans rfl⟩ (fun hHeld => ?_)
 clear hK K
 refine nz_ 17 ?_
 refine pz_ 5 18 ba17_8 HT_ ?_
 refine pz_ 8 21 ba17_9 HT_ ?_
 refine one_ (i := 9) (N := none) ba17_10 rfl rfl (one_of HT_.out (by kernel_rfl)) (by decide) (fun K hK => ?_)
 have hs20 : w19.cell? ⟨gb417, 0, none⟩ = some (.int .i64 0) := (blk_cell BK417.out 0).trans rfl
 have hfs20 := blk_frozen BK417.out 0
 have hns20_0 := NB416_417.out
 have hms20_0 := NB417_416.out
 have hs21 : w19.cell? ⟨gb417, 1, none⟩ = some (.int .i64 0) := (blk_cell BK417.out 1).trans rfl
 have hfs21 := blk_frozen BK417.out 1
 have hns21_0 := NB416_417.out
 have hms21_0 := NB417_416.out
 refine skip_ (w1 := ?_) (by rfl) rfl ?_ ?_
 rotate_left; · go_simp; rfl
 refine hK.out _ _ ⟨((cell_far (p := ⟨gb417, _, none⟩) NB416_417.out _).trans (((cell_far (p := ⟨gb417, _, none⟩) NB416_417.out _).trans (hHeld.1)))), ((cell_far (p := ⟨gb417, _, none⟩) NB416_417.out _).trans (((cell_far (p := ⟨gb417, _, none⟩) NB416_417.out _).trans (hHeld.2))))⟩ (fun hHeld => ?_)
 clear hK K
 refine pz_ 10 3 ba17_11 HT_ ?_
 refine done_ (done_of HT_.out (by kernel_rfl)) ?_
 try go_wp2
 refine bodyPost_ret (results_ct rfl _ _ gb417 28 #[.int .i64 (Go.bits .xor .i64 a0_0 t419), .int .i64 a0_1] (0, 0) _ rfl (by (with_reducible repeat (first | refine blk_drewN ?_ _ | refine blk_drew ?_ | refine blk_alloc ?_ _)); refine blk_put (cs := #[.int .i64 (Go.bits .xor .i64 a0_0 t419), .int .i64 0]) ?_ 1 _ rfl; (with_reducible repeat (first | refine blk_drewN ?_ _ | refine blk_drew ?_ | refine blk_alloc ?_ _)); refine blk_put (cs := #[.int .i64 0, .int .i64 0]) ?_ 0 _ rfl; (with_reducible repeat (first | refine blk_drewN ?_ _ | refine blk_drew ?_ | refine blk_alloc ?_ _)); exact BK417.out) Try.underlying28 rfl (by kernel_rfl)) rfl ?_
 exact ⟨by first | rfl | (simp [errW_none, errW_some] <;> rfl) | (simp [*, errW_none, errW_some] <;> rfl), by repeat (first | (with_reducible first | exact HB.out | apply below_alloc | apply pw_below_drewN | apply below_drew1 | refine below_set ?_ GE416.out | refine below_set ?_ GE417.out) | exact HB.out)⟩

/-! ### spec_l01DrawPrefixes: function 82 -/
mutual
def spec_l01DrawPrefixes.l0 : Nat → Int → List (S28) → Int → List Int → Int → Int → Option ((List (S28)) × Int × Int)
 | 0, _, _, _, _, _, _ => none
 | k + 1, x1, x5, x6, x1000, x1001, x1002 => if x6 < x1 then ((spec_l01DrawPrefix.f x1000 x1001 x1002).bind fun bt423 => ((spec_Sibling.f bt423.1 bt423.2.1).bind fun bt428 => (if bt428.2.2 = true then ((spec_l01Once.f x1000 bt423.2.2.1 bt423.2.2.2 3).bind fun bt432 => (spec_l01DrawPrefixes.j1 k x1 x5 x6 bt432.1 x1000 bt432.2.1 bt432.2.2 bt423.1 bt423.2.1 bt428.1 bt428.2.1)) else (spec_l01DrawPrefixes.j1 k x1 x5 x6 false x1000 bt423.2.2.1 bt423.2.2.2 bt423.1 bt423.2.1 bt428.1 bt428.2.1)))) else (some (x5, x1001, x1002))
def spec_l01DrawPrefixes.j1 : Nat → Int → List (S28) → Int → Bool → List Int → Int → Int → Int → Int → Int → Int → Option ((List (S28)) × Int × Int)
 | 0, _, _, _, _, _, _, _, _, _, _, _ => none
 | k + 1, x1, x5, x6, x27, x1000, x1001, x1002, x428000, x428001, x432000, x432001 => if x27 = true then (if x5.length < 8796093022208 then (spec_l01DrawPrefixes.j2 k x1 (x5 ++ [(⟨x432000, x432001⟩ : S28)]) x6 x1000 x1001 x1002 x428000 x428001) else (none)) else (spec_l01DrawPrefixes.j2 k x1 x5 x6 x1000 x1001 x1002 x428000 x428001)
def spec_l01DrawPrefixes.j2 : Nat → Int → List (S28) → Int → List Int → Int → Int → Int → Int → Option ((List (S28)) × Int × Int)
 | 0, _, _, _, _, _, _, _, _ => none
 | k + 1, x1, x5, x6, x1000, x1001, x1002, x428000, x428001 => (spec_PrefixOk.f x428000 x428001).bind fun t438 => (if t438 = true then (if x5.length < 8796093022208 then (spec_l01DrawPrefixes.l0 k x1 (x5 ++ [(⟨x428000, x428001⟩ : S28)]) (wrap64 (x6 + 1)) x1000 x1001 x1002) else (none)) else ((spec_l01Once.f x1000 x1001 x1002 20).bind fun bt442 => (if bt442.1 = true then (if x5.length < 8796093022208 then (spec_l01DrawPrefixes.l0 k x1 (x5 ++ [(⟨x428000, x428001⟩ : S28)]) (wrap64 (x6 + 1)) x1000 bt442.2.1 bt442.2.2) else (none)) else (spec_l01DrawPrefixes.l0 k x1 x5 (wrap64 (x6 + 1)) x1000 bt442.2.1 bt442.2.2))))
end
def spec_l01DrawPrefixes.f (k : Nat) (s0_0 : List Int) (s0_1 : Int) (s0_2 : Int) (a1 : Int) : Option ((List (S28)) × Int × Int) := spec_l01DrawPrefixes.l0 k a1 (([] : List (S28))) 0 s0_0 s0_1 s0_2
theorem spec_l01DrawPrefixes.mono_l : ∀ k, (∀ y0 y1 y2 y3 y4 y5, LeO (spec_l01DrawPrefixes.l0 k y0 y1 y2 y3 y4 y5) (spec_l01DrawPrefixes.l0 (k + 1) y0 y1 y2 y3 y4 y5)) ∧ (∀ y0 y1 y2 y3 y4 y5 y6 y7 y8 y9 y10, LeO (spec_l01DrawPrefixes.j1 k y0 y1 y2 y3 y4 y5 y6 y7 y8 y9 y10) (spec_l01DrawPrefixes.j1 (k + 1) y0 y1 y2 y3 y4 y5 y6 y7 y8 y9 y10)) ∧ (∀ y0 y1 y2 y3 y4 y5 y6 y7, LeO (spec_l01DrawPrefixes.j2 k y0 y1 y2 y3 y4 y5 y6 y7) (spec_l01DrawPrefixes.j2 (k + 1) y0 y1 y2 y3 y4 y5 y6 y7))
 | 0 => ⟨fun _ _ _ _ _ _ r h => by simp [spec_l01DrawPrefixes.l0] at h, fun _ _ _ _ _ _ _ _ _ _ _ r h => by simp [spec_l01DrawPrefixes.j1] at h, fun _ _ _ _ _ _ _ _ r h => by simp [spec_l01DrawPrefixes.j2] at h⟩
 | k + 1 => by
  obtain ⟨ih0, ih1, ih2⟩ := spec_l01DrawPrefixes.mono_l k
  refine ⟨?_, ?_, ?_⟩
  ·intro y0 y1 y2 y3 y4 y5
   unfold spec_l01DrawPrefixes.l0
   repeat' first
   | (with_reducible exact ih0 _ _ _ _ _ _)
   | (with_reducible exact ih1 _ _ _ _ _ _ _ _ _ _ _)
   | (with_reducible exact ih2 _ _ _ _ _ _ _ _)
   | (with_reducible exact LeO.refl _)
   | (with_reducible exact LeO.none _)
   | (with_reducible refine LeO.ite ?_ ?_)
   | (with_reducible refine LeO.bind ?_ (fun _ => ?_))
   | exact ih0 _ _ _ _ _ _
   | exact ih1 _ _ _ _ _ _ _ _ _ _ _
   | exact ih2 _ _ _ _ _ _ _ _
   | exact LeO.none _
   | refine LeO.ite ?_ ?_
   | refine LeO.bind ?_ (fun _ => ?_)
  ·intro y0 y1 y2 y3 y4 y5 y6 y7 y8 y9 y10
   unfold spec_l01DrawPrefixes.j1
   repeat' first
   | (with_reducible exact ih0 _ _ _ _ _ _)
   | (with_reducible exact ih1 _ _ _ _ _ _ _ _ _ _ _)
   | (with_reducible exact ih2 _ _ _ _ _ _ _ _)
   | (with_reducible exact LeO.refl _)
   | (with_reducible exact LeO.none _)
   | (with_reducible refine LeO.ite ?_ ?_)
   | (with_reducible refine LeO.bind ?_ (fun _ => ?_))
   | exact ih0 _ _ _ _ _ _
   | exact ih1 _ _ _ _ _ _ _ _ _ _ _
   | exact ih2 _ _ _ _ _ _ _ _
   | exact LeO.none _
   | refine LeO.ite ?_ ?_
   | refine LeO.bind ?_ (fun _ => ?_)
  ·intro y0 y1 y2 y3 y4 y5 y6 y7
   unfold spec_l01DrawPrefixes.j2
   repeat' first
   | (with_reducible exact ih0 _ _ _ _ _ _)
   | (with_reducible exact ih1 _ _ _ _ _ _ _ _ _ _ _)
   | (with_reducible exact ih2 _ _ _ _ _ _ _ _)
   | (with_reducible exact LeO.refl _)
   | (with_reducible exact LeO.none _)
   | (with_reducible refine LeO.ite ?_ ?_)
   | (with_reducible refine LeO.bind ?_ (fun _ => ?_))
   | exact ih0 _ _ _ _ _ _
   | exact ih1 _ _ _ _ _ _ _ _ _ _ _
   | exact ih2 _ _ _ _ _ _ _ _
   | exact LeO.none _
   | refine LeO.ite ?_ ?_
   | refine LeO.bind ?_ (fun _ => ?_)
theorem spec_l01DrawPrefixes.mono : ∀ a0 a1 a2 a3 k, LeO (spec_l01DrawPrefixes.f k a0 a1 a2 a3) (spec_l01DrawPrefixes.f (k + 1) a0 a1 a2 a3) := by
 intro a0 a1 a2 a3 k
 obtain ⟨ih0, ih1, ih2⟩ := spec_l01DrawPrefixes.mono_l k
 unfold spec_l01DrawPrefixes.f
 repeat' first
   | (with_reducible exact ih0 _ _ _ _ _ _)
   | (with_reducible exact ih1 _ _ _ _ _ _ _ _ _ _ _)
   | (with_reducible exact ih2 _ _ _ _ _ _ _ _)
   | (with_reducible exact LeO.refl _)
   | (with_reducible exact LeO.none _)
   | (with_reducible refine LeO.ite ?_ ?_)
   | (with_reducible refine LeO.bind ?_ (fun _ => ?_))
   | exact ih0 _ _ _ _ _ _
   | exact ih1 _ _ _ _ _ _ _ _ _ _ _
   | exact ih2 _ _ _ _ _ _ _ _
   | exact LeO.none _
   | refine LeO.ite ?_ ?_
   | refine LeO.bind ?_ (fun _ => ?_)
set_option maxHeartbeats 8000000 in
set_option maxRecDepth 100000 in
theorem spec_l01DrawPrefixes.calls (k : Nat) (g : Nat) (s0_0 : List Int) (s0_1 : Int) (s0_2 : Int) (a1 : Int) (r1 : List (S28)) (r2 : Int) (r3 : Int) (w0 w : World) (hI : IsS112 w0 w g s0_0 s0_1 s0_2) (hB : Below w0.heap.size w0 w) (h : spec_l01DrawPrefixes.f k s0_0 s0_1 s0_2 a1 = some (r1, r2, r3)) :
  Calls Try.prog 82 #[.pointer (some ⟨g, 0, none⟩), .int .i64 a1] w fun e w' => ∃ v0_ : Value, e = .returned (v0_) ∧ Kd.R k28 28 w' w.heap.size (fun _ => True) v0_ r1 ∧ IsS112 w0 w' g s0_0 r2 r3 ∧ Below w0.heap.size w0 w' ∧ KeepBut w w' g none := by
 have hu28 := Try.underlying28
 have HI0 := Aside0.mk hI
 have HK := Aside0.mk (KeepBut.refl w g none)
 have HL := Aside0.mk hB.size
 clear hI
 have HW0 := Aside0.mk hB.size
 have HB := Aside0.mk hB
 clear hB
 have H : (spec_l01DrawPrefixes.l0 k a1 (([] : List (S28))) 0 s0_0 s0_1 s0_2) = some (r1, r2, r3) := h
 clear h
 obtain ⟨y420, hy420⟩ : ∃ y_ : List (S28), y_ = (([] : List (S28))) := ⟨_, rfl⟩
 replace H : (spec_l01DrawPrefixes.l0 k a1 y420 0 s0_0 s0_1 s0_2) = some (r1, r2, r3) := by first | (rw [hy420]; with_reducible exact H) | (have H2_ := (Option.bind_some _ _).symm.trans H; rw [hy420]; with_reducible exact H2_) | (have H2_ := (Option.bind_some _ _).symm.trans H; with_reducible exact H2_) | with_reducible exact H | (rw [hy420]; exact H) | exact H
 have Ny420 := Aside0.mk hy420
 clear hy420
 have H' := Aside0.mk H
 clear H
 go_enter Try.func82, Try.ntmps82
 go_wp2_with (first | ((with_reducible refine gate_dst (N := 10) rfl ?_); refine Kd.R_lit k28 _ 28 ?hg (N := 10) ?hd (xs := ([] : List (S28))) (inner := []) (ok := fun _ => True) (okp := fun _ => True) ?hr ?hp (fun _ hk => hk) trivial (Below.refl _ _) (Nat.le_refl _) (by simp) ?_; (case hd => rfl); (case hg => rfl); (case hr => first | (go_simp; done) | (go_simp; rfl)); (case hp => exact (Reps.none _ _)); intro v421 w3 ho4 hb hg_ hnew_; clear hg_ hnew_; (first | rw [← Ny420.out] at ho4 | (simp only [Int.reduceToNat] at ho4; rw [← Ny420.out] at ho4)); have HO422 := Aside0.mk (Kd.R_lower ho4 (keep_size (w := w) (g := g) (row := none) (by repeat (first | (with_reducible first | exact HK.out | apply KeepBut.set_ | apply keep_drewN | apply keep_drew | apply keep_alloc) | exact HK.out)))); replace HK := Aside0.mk (KeepBut.trans (by repeat (first | (with_reducible first | exact HK.out | apply KeepBut.set_ | apply keep_drewN | apply keep_drew | apply keep_alloc) | exact HK.out)) (KeepBut.of_below hb g none) (.inl rfl)); replace HB := Aside0.mk (below_step (by repeat (first | (with_reducible first | exact HB.out | apply below_alloc | apply pw_below_drewN | apply below_drew1 | refine below_set ?_ (IsS112.ge HI0.out)) | exact HB.out)) hb); replace HI0 := Aside0.mk (IsS112.below (by repeat (first | (with_reducible first | exact HI0.out | apply IsS112.alloc | apply IsS112.drewN | apply IsS112.drew | apply IsS112.set_1 | apply IsS112.set_2) | exact HI0.out)) hb); clear hb ho4))
 go_loopg [5, 6] k (fun kq v5 v6 w' => ∃ (x5_1 : List (S28)) (x6_1 : Int) (x1001_1 : Int) (x1002_1 : Int), v6 = .int .i64 x6_1 ∧ Aside0 (spec_l01DrawPrefixes.l0 kq a1 x5_1 x6_1 s0_0 x1001_1 x1002_1 = some (r1, r2, r3)) ∧ Aside0 (kq ≤ k) ∧ Aside0 (Kd.R k28 28 w' w.heap.size (fun _ => True) v5 x5_1) ∧ Aside0 (IsS112 w0 w' g s0_0 x1001_1 x1002_1) ∧ Aside0 (KeepBut w w' g none) ∧ Aside0 (Below w0.heap.size w0 w'))
 case atStart => exact ⟨(y420), (0), (s0_1), (s0_2), (by first | rfl | (simp; done) | (simp [*]; done)), H', ⟨Nat.le_refl _⟩, ⟨by (with_reducible repeat (first | apply Kd.R_alloc | apply Kd.R_drewN | apply Kd.R_drew)); exact HO422.out⟩, ⟨by repeat (first | (with_reducible first | exact HI0.out | apply IsS112.alloc | apply IsS112.drewN | apply IsS112.drew | apply IsS112.set_1 | apply IsS112.set_2) | exact HI0.out)⟩, ⟨by repeat (first | (with_reducible first | exact HK.out | apply KeepBut.set_ | apply keep_drewN | apply keep_drew | apply keep_alloc) | exact HK.out)⟩, ⟨by repeat (first | (with_reducible first | exact HB.out | apply below_alloc | apply pw_below_drewN | apply below_drew1 | refine below_set ?_ (IsS112.ge HI0.out)) | exact HB.out)⟩⟩
 case round =>
  clear H'
  try clear p2
  obtain ⟨x5_1, x6_1, x1001_1, x1002_1, rfl, HA, HK1, HO_5, HI0, HK, HB⟩ := hrel
  cases gk with
  | zero => exact absurd HA.out (by simp [spec_l01DrawPrefixes.l0])
  | succ k1 =>
   have H := HA.out
   clear HA
   simp only [spec_l01DrawPrefixes.l0] at H
   by_cases c5 : x6_1 < a1
   rotate_left
   ·rw [if_neg c5] at H
    have c5b0 : decide (x6_1 < a1) = false := decide_eq_false c5
    clear c5
    simp only [Option.some.injEq, Prod.mk.injEq] at H
    obtain ⟨rfl, rfl, rfl⟩ := H
    go_wp2
    go_ret
    exact ⟨_, by first | rfl | (simp [errW_none, errW_some] <;> rfl) | (simp [*, errW_none, errW_some] <;> rfl), by (with_reducible repeat (first | apply Kd.R_alloc | apply Kd.R_drewN | apply Kd.R_drew)); exact HO_5.out, by repeat (first | (with_reducible first | exact HI0.out | apply IsS112.alloc | apply IsS112.drewN | apply IsS112.drew | apply IsS112.set_1 | apply IsS112.set_2) | exact HI0.out), by repeat (first | (with_reducible first | exact HB.out | apply below_alloc | apply pw_below_drewN | apply below_drew1 | refine below_set ?_ (IsS112.ge HI0.out)) | exact HB.out), by repeat (first | (with_reducible first | exact HK.out | apply KeepBut.set_ | apply keep_drewN | apply keep_drew | apply keep_alloc) | exact HK.out)⟩
   rw [if_pos c5] at H
   have c5b0 : decide (x6_1 < a1) = true := decide_eq_true c5
   clear c5
   replace H := Option.bind_eq_some_iff.mp H
   obtain ⟨⟨t423, t424, t425, t426⟩, A60, H⟩ := H
   have A6 := Aside0.mk A60
   clear A60
   replace H := Option.bind_eq_some_iff.mp H
   obtain ⟨⟨t428, t429, t430⟩, A70, H⟩ := H
   have A7 := Aside0.mk A70
   clear A70
   have HC8 := Aside0.mk H
   clear H
   go_upto_region 7 with (first | ((with_reducible refine gate_callee (f := 86) rfl ?_); refine gl_ (some 17) Try.func86 #[.pointer (some ⟨g, 0, none⟩)] ?_; (with_reducible refine (spec_l01DrawPrefix.calls g s0_0 x1001_1 x1002_1 t423 t424 t425 t426 w0 _ ?side1 ?side2 A6.out).mono ?_); (case side1 => repeat (first | (with_reducible first | exact HI0.out | apply IsS112.alloc | apply IsS112.drewN | apply IsS112.drew | apply IsS112.set_1 | apply IsS112.set_2) | exact HI0.out)); (case side2 => repeat (first | (with_reducible first | exact HB.out | apply below_alloc | apply pw_below_drewN | apply below_drew1 | refine below_set ?_ (IsS112.ge HI0.out)) | exact HB.out)); rintro e w9 ⟨rfl, hi, hb, hk⟩; refine ⟨_, rfl, ?_⟩; replace HO_5 := Aside0.mk (Kd.R_mono (Kd.R_keep (IsS112.apart (show IsS112 w0 _ g s0_0 x1001_1 x1002_1 from by repeat (first | (with_reducible first | exact HI0.out | apply IsS112.alloc | apply IsS112.drewN | apply IsS112.drew | apply IsS112.set_1 | apply IsS112.set_2) | exact HI0.out)) (hd_ HO_5) (by decide)) hk (fun _ h => h.2)) (fun _ h => h.1)); replace HK := Aside0.mk (KeepBut.trans (by repeat (first | (with_reducible first | exact HK.out | apply KeepBut.set_ | apply keep_drewN | apply keep_drew | apply keep_alloc) | exact HK.out)) hk (.inl rfl)); replace HB := Aside0.mk (hb); replace HI0 := Aside0.mk (hi); (try clear hb); (try clear hb2); (try clear hk); (try clear hi)) | ((with_reducible refine gate_dst (N := 7) rfl ?_); refine box_event ?hg (N := 7) ?hd (cs := #[.int .i64 0, .int .i64 0]) (t := 28) ?hr ?_; (case hd => rfl); (case hg => rfl); (case hr => first | (go_simp; done) | (go_simp; rfl)); intro gb427 hg w10 hbox hb; have BK427 := Aside0.mk hbox; have GW427 := Aside0.mk ((by rw [hg]; exact (keep_size (w := w) (g := g) (row := none) (by repeat (first | (with_reducible first | exact HK.out | apply KeepBut.set_ | apply keep_drewN | apply keep_drew | apply keep_alloc) | exact HK.out))) : w.heap.size ≤ gb427)); have GE427 := Aside0.mk ((Nat.le_trans HW0.out (by rw [hg]; exact (keep_size (w := w) (g := g) (row := none) (by repeat (first | (with_reducible first | exact HK.out | apply KeepBut.set_ | apply keep_drewN | apply keep_drew | apply keep_alloc) | exact HK.out))) : w.heap.size ≤ gb427) : w0.heap.size ≤ gb427)); have NB0_427 := Aside0.mk ((by rw [hg]; exact Nat.ne_of_lt (IsS112.lt (show IsS112 w0 _ g s0_0 t425 t426 from by repeat (first | (with_reducible first | exact HI0.out | apply IsS112.alloc | apply IsS112.drewN | apply IsS112.drew | apply IsS112.set_1 | apply IsS112.set_2) | exact HI0.out))) : g ≠ gb427)); have NB427_0 := Aside0.mk ((by rw [hg]; exact Nat.ne_of_gt (IsS112.lt (show IsS112 w0 _ g s0_0 t425 t426 from by repeat (first | (with_reducible first | exact HI0.out | apply IsS112.alloc | apply IsS112.drewN | apply IsS112.drew | apply IsS112.set_1 | apply IsS112.set_2) | exact HI0.out))) : gb427 ≠ g)); replace HO_5 := Aside0.mk (Kd.R_below (Kd.R_elderB (hd_ HO_5) gb427 (Nat.le_of_eq hg.symm)) hb); replace HB := Aside0.mk (below_step (by repeat (first | (with_reducible first | exact HB.out | apply below_alloc | apply pw_below_drewN | apply below_drew1 | refine below_set ?_ (IsS112.ge HI0.out)) | exact HB.out)) hb); replace HK := Aside0.mk (KeepBut.trans (by repeat (first | (with_reducible first | exact HK.out | apply KeepBut.set_ | apply keep_drewN | apply keep_drew | apply keep_alloc) | exact HK.out)) (KeepBut.of_below hb g none) (.inl rfl)); replace HI0 := Aside0.mk (IsS112.below (by repeat (first | (with_reducible first | exact HI0.out | apply IsS112.alloc | apply IsS112.drewN | apply IsS112.drew | apply IsS112.set_1 | apply IsS112.set_2) | exact HI0.out)) hb); clear hb hbox hg; have hnb11 := NB427_0.out; have hnc11 := NB0_427.out; have hcz12_0 := cz_ BK427 0 (.int .i64 0); have hcz12_1 := cz_ BK427 1 (.int .i64 0); have hfz12_0 := blk_frozen BK427.out 0; have hfz12_1 := blk_frozen BK427.out 1) | ((with_reducible refine gate_callee (f := 107) rfl ?_); refine gl_ (some 20) Try.func107 #[.agg #[.int .i64 t423, .int .i64 t424]] ?_; (with_reducible refine (spec_Sibling.calls t423 t424 t428 t429 t430 _ A7.out).mono ?_); rintro e w13 ⟨rfl, hb⟩; refine ⟨_, rfl, ?_⟩; replace HO_5 := Aside0.mk (Kd.R_below (by (with_reducible repeat (first | apply Kd.R_alloc | apply Kd.R_drewN | apply Kd.R_drew)); exact (Kd.R_mono (Kd.R_far (p := ⟨gb427, 1, none⟩) (Kd.R_far (p := ⟨gb427, 0, none⟩) (Kd.R_mono HO_5.out (fun k_ hk => (⟨hk, hk.2⟩ : _ ∧ k_ ≠ gb427))) (fun _ hk => hk.2) (.int .i64 t423)) (fun _ hk => hk.2) (.int .i64 t424)) (fun _ h_ => h_.1))) hb); replace BK427 := Aside0.mk (blk_below (g := gb427) (o := .cells #[.int .i64 t423, .int .i64 t424] 28 (0, 0)) (by (with_reducible repeat (first | refine blk_drewN ?_ _ | refine blk_drew ?_ | refine blk_alloc ?_ _)); refine blk_put (cs := #[.int .i64 t423, .int .i64 0]) ?_ 1 _ rfl; (with_reducible repeat (first | refine blk_drewN ?_ _ | refine blk_drew ?_ | refine blk_alloc ?_ _)); refine blk_put (cs := #[.int .i64 0, .int .i64 0]) ?_ 0 _ rfl; (with_reducible repeat (first | refine blk_drewN ?_ _ | refine blk_drew ?_ | refine blk_alloc ?_ _)); exact BK427.out) hb); replace HK := Aside0.mk (KeepBut.trans (by repeat (first | (with_reducible first | exact HK.out | apply KeepBut.set_ | apply keep_drewN | apply keep_drew | apply keep_alloc | refine keep_far ?_ GW427.out _) | exact HK.out)) (KeepBut.of_below hb g none) (.inl rfl)); replace HB := Aside0.mk (below_step (by repeat (first | (with_reducible first | exact HB.out | apply below_alloc | apply pw_below_drewN | apply below_drew1 | refine below_set ?_ (IsS112.ge HI0.out) | refine below_set ?_ GE427.out) | exact HB.out)) hb); replace HI0 := Aside0.mk (IsS112.below (show IsS112 w0 ((w10.setCell ⟨gb427, 0, none⟩ (.int .i64 t423)).setCell ⟨gb427, 1, none⟩ (.int .i64 t424)) g s0_0 t425 t426 from by repeat (first | (with_reducible first | exact HI0.out | apply IsS112.alloc | apply IsS112.drewN | apply IsS112.drew | apply IsS112.set_1 | apply IsS112.set_2 | refine IsS112.far ?_ NB0_427.out _) | exact HI0.out)) hb); (try clear hb); (try clear hb2); (try clear hk); (try clear hi)) | ((with_reducible refine gate_dst (N := 8) rfl ?_); refine box_event ?hg (N := 8) ?hd (cs := #[.int .i64 0, .int .i64 0]) (t := 28) ?hr ?_; (case hd => rfl); (case hg => rfl); (case hr => first | (go_simp; done) | (go_simp; rfl)); intro gb431 hg w14 hbox hb; have BK431 := Aside0.mk hbox; have GW431 := Aside0.mk ((by rw [hg]; exact (keep_size (w := w) (g := g) (row := none) (by repeat (first | (with_reducible first | exact HK.out | apply KeepBut.set_ | apply keep_drewN | apply keep_drew | apply keep_alloc | refine keep_far ?_ GW427.out _) | exact HK.out))) : w.heap.size ≤ gb431)); have GE431 := Aside0.mk ((Nat.le_trans HW0.out (by rw [hg]; exact (keep_size (w := w) (g := g) (row := none) (by repeat (first | (with_reducible first | exact HK.out | apply KeepBut.set_ | apply keep_drewN | apply keep_drew | apply keep_alloc | refine keep_far ?_ GW427.out _) | exact HK.out))) : w.heap.size ≤ gb431) : w0.heap.size ≤ gb431)); have NB427_431 := nl_ BK427 hg; have NB431_427 := ng_ BK427 hg; have NB0_431 := Aside0.mk ((by rw [hg]; exact Nat.ne_of_lt (IsS112.lt (show IsS112 w0 _ g s0_0 t425 t426 from by repeat (first | (with_reducible first | exact HI0.out | apply IsS112.alloc | apply IsS112.drewN | apply IsS112.drew | apply IsS112.set_1 | apply IsS112.set_2 | refine IsS112.far ?_ NB0_427.out _) | exact HI0.out))) : g ≠ gb431)); have NB431_0 := Aside0.mk ((by rw [hg]; exact Nat.ne_of_gt (IsS112.lt (show IsS112 w0 _ g s0_0 t425 t426 from by repeat (first | (with_reducible first | exact HI0.out | apply IsS112.alloc | apply IsS112.drewN | apply IsS112.drew | apply IsS112.set_1 | apply IsS112.set_2 | refine IsS112.far ?_ NB0_427.out _) | exact HI0.out))) : gb431 ≠ g)); replace HO_5 := Aside0.mk (Kd.R_below (Kd.R_elderB (hd_ HO_5) gb431 (Nat.le_of_eq hg.symm)) hb); replace HB := Aside0.mk (below_step (by repeat (first | (with_reducible first | exact HB.out | apply below_alloc | apply pw_below_drewN | apply below_drew1 | refine below_set ?_ (IsS112.ge HI0.out) | refine below_set ?_ GE427.out) | exact HB.out)) hb); replace HK := Aside0.mk (KeepBut.trans (by repeat (first | (with_reducible first | exact HK.out | apply KeepBut.set_ | apply keep_drewN | apply keep_drew | apply keep_alloc | refine keep_far ?_ GW427.out _) | exact HK.out)) (KeepBut.of_below hb g none) (.inl rfl)); replace BK427 := Aside0.mk (bb_ BK427 hb); replace HI0 := Aside0.mk (IsS112.below (by repeat (first | (with_reducible first | exact HI0.out | apply IsS112.alloc | apply IsS112.drewN | apply IsS112.drew | apply IsS112.set_1 | apply IsS112.set_2 | refine IsS112.far ?_ NB0_427.out _) | exact HI0.out)) hb); clear hb hbox hg; have hnb15 := NB431_427.out; have hnc15 := NB427_431.out; have hnb16 := NB431_0.out; have hnc16 := NB0_431.out; have hcz17_0 := cz_ BK431 0 (.int .i64 0); have hcz17_1 := cz_ BK431 1 (.int .i64 0); have hfz17_0 := blk_frozen BK431.out 0; have hfz17_1 := blk_frozen BK431.out 1))
   (try simp only [Act.put, List.setIfInBounds_toArray, List.set_cons_zero, List.set_cons_succ])
   go_cut [27] (fun v27 wc => ∃ (kq : Nat) (x27_7 : Bool) (x1001_7 : Int) (x1002_7 : Int), v27 = .bool x27_7 ∧ Aside0 (spec_l01DrawPrefixes.j1 kq a1 x5_1 x6_1 x27_7 s0_0 x1001_7 x1002_7 t423 t424 t428 t429 = some (r1, r2, r3)) ∧ Aside0 (kq ≤ k1) ∧ Aside0 (Kd.R k28 28 wc w.heap.size (fun k_ => k_ ≠ gb427 ∧ k_ ≠ gb431) u5 x5_1) ∧ Aside0 (wc.heap[gb427]? = some (.cells #[.int .i64 t423, .int .i64 t424] 28 (0, 0))) ∧ Aside0 (wc.heap[gb431]? = some (.cells #[.int .i64 t428, .int .i64 t429] 28 (0, 0))) ∧ Aside0 (IsS112 w0 wc g s0_0 x1001_7 x1002_7) ∧ Aside0 (KeepBut w wc g none) ∧ Aside0 (Below w0.heap.size w0 wc))
   case first =>
    have H := HC8.out
    clear HC8
    by_cases c18 : t430 = true
    rotate_left
    ·replace c18 := Bool.eq_false_iff.mpr c18
     subst c18
     rw [if_neg (show ¬ (false = true) by decide)] at H
     have H' := Aside0.mk H
     clear H
     go_wp2
     go_meet
     case rel => exact ⟨_, (false), (t425), (t426), (by first | rfl | (simp; done) | (simp [*]; done)), H', ⟨by have := HK1.out; first | omega | exact Nat.le_refl _⟩, ⟨by (with_reducible repeat (first | apply Kd.R_alloc | apply Kd.R_drewN | apply Kd.R_drew)); exact Kd.R_mono (Kd.R_far (p := ⟨gb431, 1, none⟩) (Kd.R_far (p := ⟨gb431, 0, none⟩) (Kd.R_mono HO_5.out (fun k_ hk => (⟨hk, hk.2⟩ : _ ∧ k_ ≠ gb431))) (fun _ hk => hk.2) (.int .i64 t428)) (fun _ hk => hk.2) (.int .i64 t429)) (fun _ hk => by first | exact ⟨hk.1.1.2, hk.1.2⟩ | grind)⟩, ⟨by (with_reducible repeat (first | refine blk_drewN ?_ _ | refine blk_drew ?_ | refine blk_alloc ?_ _)); refine blk_far ?_ NB427_431.out _; (with_reducible repeat (first | refine blk_drewN ?_ _ | refine blk_drew ?_ | refine blk_alloc ?_ _)); refine blk_far ?_ NB427_431.out _; (with_reducible repeat (first | refine blk_drewN ?_ _ | refine blk_drew ?_ | refine blk_alloc ?_ _)); exact BK427.out⟩, ⟨by (with_reducible repeat (first | refine blk_drewN ?_ _ | refine blk_drew ?_ | refine blk_alloc ?_ _)); refine blk_put (cs := #[.int .i64 t428, .int .i64 0]) ?_ 1 _ rfl; (with_reducible repeat (first | refine blk_drewN ?_ _ | refine blk_drew ?_ | refine blk_alloc ?_ _)); refine blk_put (cs := #[.int .i64 0, .int .i64 0]) ?_ 0 _ rfl; (with_reducible repeat (first | refine blk_drewN ?_ _ | refine blk_drew ?_ | refine blk_alloc ?_ _)); exact BK431.out⟩, ⟨by repeat (first | (with_reducible first | exact HI0.out | apply IsS112.alloc | apply IsS112.drewN | apply IsS112.drew | apply IsS112.set_1 | apply IsS112.set_2 | refine IsS112.far ?_ NB0_427.out _ | refine IsS112.far ?_ NB0_431.out _) | exact HI0.out)⟩, ⟨by repeat (first | (with_reducible first | exact HK.out | apply KeepBut.set_ | apply keep_drewN | apply keep_drew | apply keep_alloc | refine keep_far ?_ GW427.out _ | refine keep_far ?_ GW431.out _) | exact HK.out)⟩, ⟨by repeat (first | (with_reducible first | exact HB.out | apply below_alloc | apply pw_below_drewN | apply below_drew1 | refine below_set ?_ (IsS112.ge HI0.out) | refine below_set ?_ GE427.out | refine below_set ?_ GE431.out) | exact HB.out)⟩⟩
    subst c18
    rw [if_pos rfl] at H
    replace H := Option.bind_eq_some_iff.mp H
    obtain ⟨⟨t432, t433, t434⟩, A190, H⟩ := H
    have A19 := Aside0.mk A190
    clear A190
    have H' := Aside0.mk H
    clear H
    go_wp2_with (first | (go_at_call 81; (with_reducible refine (spec_l01Once.calls g s0_0 t425 t426 3 t432 t433 t434 w0 _ ?side1 ?side2 A19.out).mono ?_); (case side1 => repeat (first | (with_reducible first | exact HI0.out | apply IsS112.alloc | apply IsS112.drewN | apply IsS112.drew | apply IsS112.set_1 | apply IsS112.set_2 | refine IsS112.far ?_ NB0_427.out _ | refine IsS112.far ?_ NB0_431.out _) | exact HI0.out)); (case side2 => repeat (first | (with_reducible first | exact HB.out | apply below_alloc | apply pw_below_drewN | apply below_drew1 | refine below_set ?_ (IsS112.ge HI0.out) | refine below_set ?_ GE427.out | refine below_set ?_ GE431.out) | exact HB.out)); rintro e w20 ⟨rfl, hi, hb, hk⟩; replace HO_5 := Aside0.mk (Kd.R_mono (Kd.R_keep (IsS112.apart (show IsS112 w0 _ g s0_0 t425 t426 from by repeat (first | (with_reducible first | exact HI0.out | apply IsS112.alloc | apply IsS112.drewN | apply IsS112.drew | apply IsS112.set_1 | apply IsS112.set_2 | refine IsS112.far ?_ NB0_427.out _ | refine IsS112.far ?_ NB0_431.out _) | exact HI0.out)) (by (with_reducible repeat (first | apply Kd.R_alloc | apply Kd.R_drewN | apply Kd.R_drew)); exact (Kd.R_mono (Kd.R_far (p := ⟨gb431, 1, none⟩) (Kd.R_far (p := ⟨gb431, 0, none⟩) (Kd.R_mono HO_5.out (fun k_ hk => (⟨hk, hk.2⟩ : _ ∧ k_ ≠ gb431))) (fun _ hk => hk.2) (.int .i64 t428)) (fun _ hk => hk.2) (.int .i64 t429)) (fun _ h_ => h_.1))) (by decide)) hk (fun _ h => h.2)) (fun _ h => h.1)); replace BK427 := Aside0.mk (KeepBut.blk hk (g' := gb427) (o := .cells #[.int .i64 t423, .int .i64 t424] 28 (0, 0)) (by (with_reducible repeat (first | refine blk_drewN ?_ _ | refine blk_drew ?_ | refine blk_alloc ?_ _)); refine blk_far ?_ NB427_431.out _; (with_reducible repeat (first | refine blk_drewN ?_ _ | refine blk_drew ?_ | refine blk_alloc ?_ _)); refine blk_far ?_ NB427_431.out _; (with_reducible repeat (first | refine blk_drewN ?_ _ | refine blk_drew ?_ | refine blk_alloc ?_ _)); exact BK427.out) NB427_0.out (by simp)); replace BK431 := Aside0.mk (KeepBut.blk hk (g' := gb431) (o := .cells #[.int .i64 t428, .int .i64 t429] 28 (0, 0)) (by (with_reducible repeat (first | refine blk_drewN ?_ _ | refine blk_drew ?_ | refine blk_alloc ?_ _)); refine blk_put (cs := #[.int .i64 t428, .int .i64 0]) ?_ 1 _ rfl; (with_reducible repeat (first | refine blk_drewN ?_ _ | refine blk_drew ?_ | refine blk_alloc ?_ _)); refine blk_put (cs := #[.int .i64 0, .int .i64 0]) ?_ 0 _ rfl; (with_reducible repeat (first | refine blk_drewN ?_ _ | refine blk_drew ?_ | refine blk_alloc ?_ _)); exact BK431.out) NB431_0.out (by simp)); replace HK := Aside0.mk (KeepBut.trans (by repeat (first | (with_reducible first | exact HK.out | apply KeepBut.set_ | apply keep_drewN | apply keep_drew | apply keep_alloc | refine keep_far ?_ GW427.out _ | refine keep_far ?_ GW431.out _) | exact HK.out)) hk (.inl rfl)); replace HB := Aside0.mk (hb); replace HI0 := Aside0.mk (hi); (try clear hb); (try clear hb2); (try clear hk); (try clear hi)))
    go_meet
    case rel => exact ⟨_, (t432), (t433), (t434), (by first | rfl | (simp; done) | (simp [*]; done)), H', ⟨by have := HK1.out; first | omega | exact Nat.le_refl _⟩, ⟨by (with_reducible repeat (first | apply Kd.R_alloc | apply Kd.R_drewN | apply Kd.R_drew)); exact Kd.R_mono HO_5.out (fun _ hk => by first | exact ⟨hk.1.2, hk.2⟩ | grind)⟩, ⟨by (with_reducible repeat (first | refine blk_drewN ?_ _ | refine blk_drew ?_ | refine blk_alloc ?_ _)); exact BK427.out⟩, ⟨by (with_reducible repeat (first | refine blk_drewN ?_ _ | refine blk_drew ?_ | refine blk_alloc ?_ _)); exact BK431.out⟩, ⟨by repeat (first | (with_reducible first | exact HI0.out | apply IsS112.alloc | apply IsS112.drewN | apply IsS112.drew | apply IsS112.set_1 | apply IsS112.set_2 | refine IsS112.far ?_ NB0_427.out _ | refine IsS112.far ?_ NB0_431.out _) | exact HI0.out)⟩, ⟨by repeat (first | (with_reducible first | exact HK.out | apply KeepBut.set_ | apply keep_drewN | apply keep_drew | apply keep_alloc | refine keep_far ?_ GW427.out _ | refine keep_far ?_ GW431.out _) | exact HK.out)⟩, ⟨by repeat (first | (with_reducible first | exact HB.out | apply below_alloc | apply pw_below_drewN | apply below_drew1 | refine below_set ?_ (IsS112.ge HI0.out) | refine below_set ?_ GE427.out | refine below_set ?_ GE431.out) | exact HB.out)⟩⟩
   case rest =>
    clear HC8
    try clear c1
    try clear p2
    try clear c5
    try clear c5b0
    try clear c8
    try clear c10
    try clear c11
    try clear c15
    try clear c16
    try clear c18
    try clear hcz12_0
    try clear hcz12_1
    try clear hcz17_0
    try clear hcz17_1
    try clear hfz12_0
    try clear hfz12_1
    try clear hfz17_0
    try clear hfz17_1
    try clear p2
    obtain ⟨kq, x27_7, x1001_7, x1002_7, rfl, HA, HJ7, HO_5, BK427, BK431, HI0, HK, HB⟩ := hcut
    cases kq with
    | zero => exact absurd HA.out (by simp [spec_l01DrawPrefixes.j1])
    | succ kj7 =>
     have H := HA.out
     clear HA
     simp only [spec_l01DrawPrefixes.j1] at H
     have HC21 := Aside0.mk H
     clear H
     go_upto_if 27 with (fail)
     go_cut [5] (fun v5 wc => ∃ (kq : Nat) (x5_20 : List (S28)), Aside0 (spec_l01DrawPrefixes.j2 kq a1 x5_20 x6_1 s0_0 x1001_7 x1002_7 t423 t424 = some (r1, r2, r3)) ∧ Aside0 (kq ≤ kj7) ∧ Aside0 (Kd.R k28 28 wc w.heap.size (fun k_ => k_ ≠ gb427 ∧ k_ ≠ gb431) v5 x5_20) ∧ Aside0 (wc.heap[gb427]? = some (.cells #[.int .i64 t423, .int .i64 t424] 28 (0, 0))) ∧ Aside0 (wc.heap[gb431]? = some (.cells #[.int .i64 t428, .int .i64 t429] 28 (0, 0))) ∧ Aside0 (IsS112 w0 wc g s0_0 x1001_7 x1002_7) ∧ Aside0 (KeepBut w wc g none) ∧ Aside0 (Below w0.heap.size w0 wc))
     case first =>
      have H := HC21.out
      clear HC21
      by_cases c22 : x27_7 = true
      rotate_left
      ·replace c22 := Bool.eq_false_iff.mpr c22
       subst c22
       rw [if_neg (show ¬ (false = true) by decide)] at H
       have H' := Aside0.mk H
       clear H
       go_wp2
       go_meet
       case rel => exact ⟨_, (x5_1), H', ⟨by have := HK1.out; have := HJ7.out; first | omega | exact Nat.le_refl _⟩, ⟨by (with_reducible repeat (first | apply Kd.R_alloc | apply Kd.R_drewN | apply Kd.R_drew)); exact HO_5.out⟩, ⟨by (with_reducible repeat (first | refine blk_drewN ?_ _ | refine blk_drew ?_ | refine blk_alloc ?_ _)); exact BK427.out⟩, ⟨by (with_reducible repeat (first | refine blk_drewN ?_ _ | refine blk_drew ?_ | refine blk_alloc ?_ _)); exact BK431.out⟩, ⟨by repeat (first | (with_reducible first | exact HI0.out | apply IsS112.alloc | apply IsS112.drewN | apply IsS112.drew | apply IsS112.set_1 | apply IsS112.set_2 | refine IsS112.far ?_ NB0_427.out _ | refine IsS112.far ?_ NB0_431.out _) | exact HI0.out)⟩, ⟨by repeat (first | (with_reducible first | exact HK.out | apply KeepBut.set_ | apply keep_drewN | apply keep_drew | apply keep_alloc | refine keep_far ?_ GW427.out _ | refine keep_far ?_ GW431.out _) | exact HK.out)⟩, ⟨by repeat (first | (with_reducible first | exact HB.out | apply below_alloc | apply pw_below_drewN | apply below_drew1 | refine below_set ?_ (IsS112.ge HI0.out) | refine below_set ?_ GE427.out | refine below_set ?_ GE431.out) | exact HB.out)⟩⟩
      subst c22
      rw [if_pos rfl] at H
      by_cases c23 : x5_1.length < 8796093022208
      rotate_left
      ·rw [if_neg c23] at H
       exact absurd H (by simp)
      rw [if_pos c23] at H
      have LMc23 := Aside0.mk c23
      clear c23
      obtain ⟨y435, hy435⟩ : ∃ y_ : List (S28), y_ = (x5_1 ++ [(⟨t428, t429⟩ : S28)]) := ⟨_, rfl⟩
      replace H : (spec_l01DrawPrefixes.j2 kj7 a1 y435 x6_1 s0_0 x1001_7 x1002_7 t423 t424) = some (r1, r2, r3) := by first | (rw [hy435]; with_reducible exact H) | (have H2_ := (Option.bind_some _ _).symm.trans H; rw [hy435]; with_reducible exact H2_) | (have H2_ := (Option.bind_some _ _).symm.trans H; with_reducible exact H2_) | with_reducible exact H | (rw [hy435]; exact H) | exact H
      have Ny435 := Aside0.mk hy435
      clear hy435
      have H' := Aside0.mk H
      clear H
      have hnb24 := NB431_427.out
      have hnc24 := NB427_431.out
      have hnb25 := NB431_0.out
      have hnc25 := NB0_431.out
      have hcz26_0 := cz_ BK431 0 (.int .i64 t428)
      have hcz26_1 := cz_ BK431 1 (.int .i64 t429)
      have hfz26_0 := blk_frozen BK431.out 0
      have hfz26_1 := blk_frozen BK431.out 1
      go_wp2_with (first | ((with_reducible refine gate_builtin (b := .append) (xs := #[.tmp 28, .tmp 30]) rfl ?_); at_builtin; refine Kd.R_append k28 w.heap.size rfl (.tmp 28) (.tmp 30) 51 28 (.agg #[(.int .i64 0), (.int .i64 0)]) 16 rfl Try.underlying51 info28 rfl (by decide) (by omega) u5 x5_1 (⟨t428, t429⟩ : S28) [.int .i64 t428, .int .i64 t429] (fun k_ => k_ ≠ gb427 ∧ k_ ≠ gb431) (fun _ => False) rfl rfl ?aP (fun _ hk => hk.elim) ?aF ?aO (Below.refl _ _) ?aS ?aL ?_; (case aP => exact k28_mkM _ _ _ (⟨t428, t429⟩ : S28)); (case aF => exact (fun k_ hk => ⟨Kd.freshB (g := gb427) (o := .cells #[.int .i64 t423, .int .i64 t424] 28 (0, 0)) (by (with_reducible repeat (first | refine blk_drewN ?_ _ | refine blk_drew ?_ | refine blk_alloc ?_ _)); exact BK427.out) k_ hk, Kd.freshB (g := gb431) (o := .cells #[.int .i64 t428, .int .i64 t429] 28 (0, 0)) (by (with_reducible repeat (first | refine blk_drewN ?_ _ | refine blk_drew ?_ | refine blk_alloc ?_ _)); exact BK431.out) k_ hk⟩)); (case aO => exact (hd_ HO_5)); (case aS => exact (keep_size (w := w) (g := g) (row := none) (by repeat (first | (with_reducible first | exact HK.out | apply KeepBut.set_ | apply keep_drewN | apply keep_drew | apply keep_alloc | refine keep_far ?_ GW427.out _ | refine keep_far ?_ GW431.out _) | exact HK.out)))); (case aL => have := LMc23.out; omega); intro v436 w27 ho hb hg hat; rw [← Ny435.out] at ho; have HO437 := Aside0.mk ho; replace BK427 := Aside0.mk (blk_grown (g := gb427) (o := .cells #[.int .i64 t423, .int .i64 t424] 28 (0, 0)) (by (with_reducible repeat (first | refine blk_drewN ?_ _ | refine blk_drew ?_ | refine blk_alloc ?_ _)); exact BK427.out) hg (Kd.R_away HO_5.out (fun _ hk => hk.1))); replace BK431 := Aside0.mk (blk_grown (g := gb431) (o := .cells #[.int .i64 t428, .int .i64 t429] 28 (0, 0)) (by (with_reducible repeat (first | refine blk_drewN ?_ _ | refine blk_drew ?_ | refine blk_alloc ?_ _)); exact BK431.out) hg (Kd.R_away HO_5.out (fun _ hk => hk.2))); replace HB := Aside0.mk (below_weaken (by repeat (first | (with_reducible first | exact HB.out | apply below_alloc | apply pw_below_drewN | apply below_drew1 | refine below_set ?_ (IsS112.ge HI0.out) | refine below_set ?_ GE427.out | refine below_set ?_ GE431.out) | exact HB.out)) HL.out hb); replace HI0 := Aside0.mk (IsS112.grown (by repeat (first | (with_reducible first | exact HI0.out | apply IsS112.alloc | apply IsS112.drewN | apply IsS112.drew | apply IsS112.set_1 | apply IsS112.set_2 | refine IsS112.far ?_ NB0_427.out _ | refine IsS112.far ?_ NB0_431.out _) | exact HI0.out)) hg (IsS112.own_ne HI0.out HO_5.out (by decide))); replace HK := Aside0.mk (KeepBut.trans (by repeat (first | (with_reducible first | exact HK.out | apply KeepBut.set_ | apply keep_drewN | apply keep_drew | apply keep_alloc | refine keep_far ?_ GW427.out _ | refine keep_far ?_ GW431.out _) | exact HK.out)) (KeepBut.of_grown hg g) (Kd.R_base2 HO_5.out)); clear HO_5; clear ho hb hg hat))
      go_meet
      case rel => exact ⟨_, (y435), H', ⟨by have := HK1.out; have := HJ7.out; first | omega | exact Nat.le_refl _⟩, ⟨by (with_reducible repeat (first | apply Kd.R_alloc | apply Kd.R_drewN | apply Kd.R_drew)); exact HO437.out⟩, ⟨by (with_reducible repeat (first | refine blk_drewN ?_ _ | refine blk_drew ?_ | refine blk_alloc ?_ _)); exact BK427.out⟩, ⟨by (with_reducible repeat (first | refine blk_drewN ?_ _ | refine blk_drew ?_ | refine blk_alloc ?_ _)); exact BK431.out⟩, ⟨by repeat (first | (with_reducible first | exact HI0.out | apply IsS112.alloc | apply IsS112.drewN | apply IsS112.drew | apply IsS112.set_1 | apply IsS112.set_2 | refine IsS112.far ?_ NB0_427.out _ | refine IsS112.far ?_ NB0_431.out _) | exact HI0.out)⟩, ⟨by repeat (first | (with_reducible first | exact HK.out | apply KeepBut.set_ | apply keep_drewN | apply keep_drew | apply keep_alloc | refine keep_far ?_ GW427.out _ | refine keep_far ?_ GW431.out _) | exact HK.out)⟩, ⟨by repeat (first | (with_reducible first | exact HB.out | apply below_alloc | apply pw_below_drewN | apply below_drew1 | refine below_set ?_ (IsS112.ge HI0.out) | refine below_set ?_ GE427.out | refine below_set ?_ GE431.out) | exact HB.out)⟩⟩
     case rest =>
      clear HC21
      try clear c1
      try clear c2
      try clear p2
      try clear c5
      try clear c5b0
      try clear c8
      try clear c10
      try clear c11
      try clear c15
      try clear c16
      try clear c18
      try clear c22
      try clear c23
      try clear c24
      try clear c25
      try clear hcz12_0
      try clear hcz12_1
      try clear hcz17_0
      try clear hcz17_1
      try clear hcz26_0
      try clear hcz26_1
      try clear hfz12_0
      try clear hfz12_1
      try clear hfz17_0
      try clear hfz17_1
      try clear hfz26_0
      try clear hfz26_1
      try clear p2
      obtain ⟨kq, x5_20, HA, HJ20, HO_5, BK427, BK431, HI0, HK, HB⟩ := hcut
      cases kq with
      | zero => exact absurd HA.out (by simp [spec_l01DrawPrefixes.j2])
      | succ kj20 =>
       have H := HA.out
       clear HA
       simp only [spec_l01DrawPrefixes.j2] at H
       replace H := Option.bind_eq_some_iff.mp H
       obtain ⟨t438, A280, H⟩ := H
       have A28 := Aside0.mk A280
       clear A280
       by_cases c29 : t438 = true
       ·subst c29
        rw [if_pos rfl] at H
        by_cases c30 : x5_20.length < 8796093022208
        rotate_left
        ·rw [if_neg c30] at H
         exact absurd H (by simp)
        rw [if_pos c30] at H
        have LMc30 := Aside0.mk c30
        clear c30
        obtain ⟨y439, hy439⟩ : ∃ y_ : List (S28), y_ = (x5_20 ++ [(⟨t423, t424⟩ : S28)]) := ⟨_, rfl⟩
        replace H : (spec_l01DrawPrefixes.l0 kj20 a1 y439 (wrap64 (x6_1 + 1)) s0_0 x1001_7 x1002_7) = some (r1, r2, r3) := by first | (rw [hy439]; with_reducible exact H) | (have H2_ := (Option.bind_some _ _).symm.trans H; rw [hy439]; with_reducible exact H2_) | (have H2_ := (Option.bind_some _ _).symm.trans H; with_reducible exact H2_) | with_reducible exact H | (rw [hy439]; exact H) | exact H
        have Ny439 := Aside0.mk hy439
        clear hy439
        have H' := Aside0.mk H
        clear H
        have hnb31 := NB427_431.out
        have hnc31 := NB431_427.out
        have hnb32 := NB427_0.out
        have hnc32 := NB0_427.out
        have hcz33_0 := cz_ BK427 0 (.int .i64 t423)
        have hcz33_1 := cz_ BK427 1 (.int .i64 t424)
        have hfz33_0 := blk_frozen BK427.out 0
        have hfz33_1 := blk_frozen BK427.out 1
        go_wp2_with (first | ((with_reducible refine gate_callee (f := 55) rfl ?_); refine gl_ (some 33) Try.func55 #[.agg #[.int .i64 t423, .int .i64 t424]] ?_; (with_reducible refine (spec_PrefixOk.calls t423 t424 true _ A28.out).mono ?_); rintro e w34 ⟨rfl, hb⟩; refine ⟨_, rfl, ?_⟩; replace HO_5 := rb_ HO_5 hb; replace BK427 := Aside0.mk (bb_ BK427 hb); replace BK431 := Aside0.mk (bb_ BK431 hb); replace HK := Aside0.mk (KeepBut.trans (by repeat (first | (with_reducible first | exact HK.out | apply KeepBut.set_ | apply keep_drewN | apply keep_drew | apply keep_alloc | refine keep_far ?_ GW427.out _ | refine keep_far ?_ GW431.out _) | exact HK.out)) (KeepBut.of_below hb g none) (.inl rfl)); replace HB := Aside0.mk (below_step (by repeat (first | (with_reducible first | exact HB.out | apply below_alloc | apply pw_below_drewN | apply below_drew1 | refine below_set ?_ (IsS112.ge HI0.out) | refine below_set ?_ GE427.out | refine below_set ?_ GE431.out) | exact HB.out)) hb); replace HI0 := Aside0.mk (IsS112.below (by repeat (first | (with_reducible first | exact HI0.out | apply IsS112.alloc | apply IsS112.drewN | apply IsS112.drew | apply IsS112.set_1 | apply IsS112.set_2 | refine IsS112.far ?_ NB0_427.out _ | refine IsS112.far ?_ NB0_431.out _) | exact HI0.out)) hb); (try clear hb); (try clear hb2); (try clear hk); (try clear hi); have hcz35_0 := cz_ BK427 0 (.int .i64 t423); have hcz35_1 := cz_ BK427 1 (.int .i64 t424); have hfz35_0 := blk_frozen BK427.out 0; have hfz35_1 := blk_frozen BK427.out 1) | ((with_reducible refine gate_builtin (b := .append) (xs := #[.tmp 38, .tmp 40]) rfl ?_); at_builtin; refine Kd.R_append k28 w.heap.size rfl (.tmp 38) (.tmp 40) 51 28 (.agg #[(.int .i64 0), (.int .i64 0)]) 16 rfl Try.underlying51 info28 rfl (by decide) (by omega) u5 x5_20 (⟨t423, t424⟩ : S28) [.int .i64 t423, .int .i64 t424] (fun k_ => k_ ≠ gb427 ∧ k_ ≠ gb431) (fun _ => False) rfl rfl ?aP (fun _ hk => hk.elim) ?aF ?aO (Below.refl _ _) ?aS ?aL ?_; (case aP => exact k28_mkM _ _ _ (⟨t423, t424⟩ : S28)); (case aF => exact (fun k_ hk => ⟨Kd.freshB (g := gb427) (o := .cells #[.int .i64 t423, .int .i64 t424] 28 (0, 0)) (by (with_reducible repeat (first | refine blk_drewN ?_ _ | refine blk_drew ?_ | refine blk_alloc ?_ _)); exact BK427.out) k_ hk, Kd.freshB (g := gb431) (o := .cells #[.int .i64 t428, .int .i64 t429] 28 (0, 0)) (by (with_reducible repeat (first | refine blk_drewN ?_ _ | refine blk_drew ?_ | refine blk_alloc ?_ _)); exact BK431.out) k_ hk⟩)); (case aO => exact (hd_ HO_5)); (case aS => exact (keep_size (w := w) (g := g) (row := none) (by repeat (first | (with_reducible first | exact HK.out | apply KeepBut.set_ | apply keep_drewN | apply keep_drew | apply keep_alloc | refine keep_far ?_ GW427.out _ | refine keep_far ?_ GW431.out _) | exact HK.out)))); (case aL => have := LMc30.out; omega); intro v440 w36 ho hb hg hat; rw [← Ny439.out] at ho; have HO441 := Aside0.mk ho; replace BK427 := Aside0.mk (blk_grown (g := gb427) (o := .cells #[.int .i64 t423, .int .i64 t424] 28 (0, 0)) (by (with_reducible repeat (first | refine blk_drewN ?_ _ | refine blk_drew ?_ | refine blk_alloc ?_ _)); exact BK427.out) hg (Kd.R_away HO_5.out (fun _ hk => hk.1))); replace BK431 := Aside0.mk (blk_grown (g := gb431) (o := .cells #[.int .i64 t428, .int .i64 t429] 28 (0, 0)) (by (with_reducible repeat (first | refine blk_drewN ?_ _ | refine blk_drew ?_ | refine blk_alloc ?_ _)); exact BK431.out) hg (Kd.R_away HO_5.out (fun _ hk => hk.2))); replace HB := Aside0.mk (below_weaken (by repeat (first | (with_reducible first | exact HB.out | apply below_alloc | apply pw_below_drewN | apply below_drew1 | refine below_set ?_ (IsS112.ge HI0.out) | refine below_set ?_ GE427.out | refine below_set ?_ GE431.out) | exact HB.out)) HL.out hb); replace HI0 := Aside0.mk (IsS112.grown (by repeat (first | (with_reducible first | exact HI0.out | apply IsS112.alloc | apply IsS112.drewN | apply IsS112.drew | apply IsS112.set_1 | apply IsS112.set_2 | refine IsS112.far ?_ NB0_427.out _ | refine IsS112.far ?_ NB0_431.out _) | exact HI0.out)) hg (IsS112.own_ne HI0.out HO_5.out (by decide))); replace HK := Aside0.mk (KeepBut.trans (by repeat (first | (with_reducible first | exact HK.out | apply KeepBut.set_ | apply keep_drewN | apply keep_drew | apply keep_alloc | refine keep_far ?_ GW427.out _ | refine keep_far ?_ GW431.out _) | exact HK.out)) (KeepBut.of_grown hg g) (Kd.R_base2 HO_5.out)); clear HO_5; clear ho hb hg hat))
        go_roundg kj20
        case measure => have := HK1.out; have := HJ7.out; have := HJ20.out; omega
        case rel => exact ⟨(y439), (wrap64 (x6_1 + 1)), (x1001_7), (x1002_7), (by first | rfl | (simp; done) | (simp [*]; done)), H', ⟨by have := HK1.out; have := HJ7.out; have := HJ20.out; omega⟩, ⟨by (with_reducible repeat (first | apply Kd.R_alloc | apply Kd.R_drewN | apply Kd.R_drew)); exact Kd.R_mono HO441.out (fun _ hk => trivial)⟩, ⟨by repeat (first | (with_reducible first | exact HI0.out | apply IsS112.alloc | apply IsS112.drewN | apply IsS112.drew | apply IsS112.set_1 | apply IsS112.set_2 | refine IsS112.far ?_ NB0_427.out _ | refine IsS112.far ?_ NB0_431.out _) | exact HI0.out)⟩, ⟨by repeat (first | (with_reducible first | exact HK.out | apply KeepBut.set_ | apply keep_drewN | apply keep_drew | apply keep_alloc | refine keep_far ?_ GW427.out _ | refine keep_far ?_ GW431.out _) | exact HK.out)⟩, ⟨by repeat (first | (with_reducible first | exact HB.out | apply below_alloc | apply pw_below_drewN | apply below_drew1 | refine below_set ?_ (IsS112.ge HI0.out) | refine below_set ?_ GE427.out | refine below_set ?_ GE431.out) | exact HB.out)⟩⟩
       replace c29 := Bool.eq_false_iff.mpr c29
       subst c29
       rw [if_neg (show ¬ (false = true) by decide)] at H
       replace H := Option.bind_eq_some_iff.mp H
       obtain ⟨⟨t442, t443, t444⟩, A370, H⟩ := H
       have A37 := Aside0.mk A370
       clear A370
       by_cases c38 : t442 = true
       rotate_left
       ·replace c38 := Bool.eq_false_iff.mpr c38
        subst c38
        rw [if_neg (show ¬ (false = true) by decide)] at H
        have H' := Aside0.mk H
        clear H
        have hnb47 := NB427_431.out
        have hnc47 := NB431_427.out
        have hnb48 := NB427_0.out
        have hnc48 := NB0_427.out
        have hcz49_0 := cz_ BK427 0 (.int .i64 t423)
        have hcz49_1 := cz_ BK427 1 (.int .i64 t424)
        have hfz49_0 := blk_frozen BK427.out 0
        have hfz49_1 := blk_frozen BK427.out 1
        go_wp2_with (first | ((with_reducible refine gate_callee (f := 55) rfl ?_); refine gl_ (some 33) Try.func55 #[.agg #[.int .i64 t423, .int .i64 t424]] ?_; (with_reducible refine (spec_PrefixOk.calls t423 t424 false _ A28.out).mono ?_); rintro e w50 ⟨rfl, hb⟩; refine ⟨_, rfl, ?_⟩; replace HO_5 := rb_ HO_5 hb; replace BK427 := Aside0.mk (bb_ BK427 hb); replace BK431 := Aside0.mk (bb_ BK431 hb); replace HK := Aside0.mk (KeepBut.trans (by repeat (first | (with_reducible first | exact HK.out | apply KeepBut.set_ | apply keep_drewN | apply keep_drew | apply keep_alloc | refine keep_far ?_ GW427.out _ | refine keep_far ?_ GW431.out _) | exact HK.out)) (KeepBut.of_below hb g none) (.inl rfl)); replace HB := Aside0.mk (below_step (by repeat (first | (with_reducible first | exact HB.out | apply below_alloc | apply pw_below_drewN | apply below_drew1 | refine below_set ?_ (IsS112.ge HI0.out) | refine below_set ?_ GE427.out | refine below_set ?_ GE431.out) | exact HB.out)) hb); replace HI0 := Aside0.mk (IsS112.below (by repeat (first | (with_reducible first | exact HI0.out | apply IsS112.alloc | apply IsS112.drewN | apply IsS112.drew | apply IsS112.set_1 | apply IsS112.set_2 | refine IsS112.far ?_ NB0_427.out _ | refine IsS112.far ?_ NB0_431.out _) | exact HI0.out)) hb); (try clear hb); (try clear hb2); (try clear hk); (try clear hi)) | (go_at_call 81; (with_reducible refine (spec_l01Once.calls g s0_0 x1001_7 x1002_7 20 false t443 t444 w0 _ ?side1 ?side2 A37.out).mono ?_); (case side1 => repeat (first | (with_reducible first | exact HI0.out | apply IsS112.alloc | apply IsS112.drewN | apply IsS112.drew | apply IsS112.set_1 | apply IsS112.set_2 | refine IsS112.far ?_ NB0_427.out _ | refine IsS112.far ?_ NB0_431.out _) | exact HI0.out)); (case side2 => repeat (first | (with_reducible first | exact HB.out | apply below_alloc | apply pw_below_drewN | apply below_drew1 | refine below_set ?_ (IsS112.ge HI0.out) | refine below_set ?_ GE427.out | refine below_set ?_ GE431.out) | exact HB.out)); rintro e w51 ⟨rfl, hi, hb, hk⟩; replace HO_5 := Aside0.mk (Kd.R_mono (Kd.R_keep (IsS112.apart (show IsS112 w0 _ g s0_0 x1001_7 x1002_7 from by repeat (first | (with_reducible first | exact HI0.out | apply IsS112.alloc | apply IsS112.drewN | apply IsS112.drew | apply IsS112.set_1 | apply IsS112.set_2 | refine IsS112.far ?_ NB0_427.out _ | refine IsS112.far ?_ NB0_431.out _) | exact HI0.out)) (hd_ HO_5) (by decide)) hk (fun _ h => h.2)) (fun _ h => h.1)); replace BK427 := Aside0.mk (KeepBut.blk hk (g' := gb427) (o := .cells #[.int .i64 t423, .int .i64 t424] 28 (0, 0)) (by (with_reducible repeat (first | refine blk_drewN ?_ _ | refine blk_drew ?_ | refine blk_alloc ?_ _)); exact BK427.out) NB427_0.out (by simp)); replace BK431 := Aside0.mk (KeepBut.blk hk (g' := gb431) (o := .cells #[.int .i64 t428, .int .i64 t429] 28 (0, 0)) (by (with_reducible repeat (first | refine blk_drewN ?_ _ | refine blk_drew ?_ | refine blk_alloc ?_ _)); exact BK431.out) NB431_0.out (by simp)); replace HK := Aside0.mk (KeepBut.trans (by repeat (first | (with_reducible first | exact HK.out | apply KeepBut.set_ | apply keep_drewN | apply keep_drew | apply keep_alloc | refine keep_far ?_ GW427.out _ | refine keep_far ?_ GW431.out _) | exact HK.out)) hk (.inl rfl)); replace HB := Aside0.mk (hb); replace HI0 := Aside0.mk (hi); (try clear hb); (try clear hb2); (try clear hk); (try clear hi)))
        go_roundg kj20
        case measure => have := HK1.out; have := HJ7.out; have := HJ20.out; omega
        case rel => exact ⟨(x5_20), (wrap64 (x6_1 + 1)), (t443), (t444), (by first | rfl | (simp; done) | (simp [*]; done)), H', ⟨by have := HK1.out; have := HJ7.out; have := HJ20.out; omega⟩, ⟨by (with_reducible repeat (first | apply Kd.R_alloc | apply Kd.R_drewN | apply Kd.R_drew)); exact Kd.R_mono HO_5.out (fun _ hk => trivial)⟩, ⟨by repeat (first | (with_reducible first | exact HI0.out | apply IsS112.alloc | apply IsS112.drewN | apply IsS112.drew | apply IsS112.set_1 | apply IsS112.set_2 | refine IsS112.far ?_ NB0_427.out _ | refine IsS112.far ?_ NB0_431.out _) | exact HI0.out)⟩, ⟨by repeat (first | (with_reducible first | exact HK.out | apply KeepBut.set_ | apply keep_drewN | apply keep_drew | apply keep_alloc | refine keep_far ?_ GW427.out _ | refine keep_far ?_ GW431.out _) | exact HK.out)⟩, ⟨by repeat (first | (with_reducible first | exact HB.out | apply below_alloc | apply pw_below_drewN | apply below_drew1 | refine below_set ?_ (IsS112.ge HI0.out) | refine below_set ?_ GE427.out | refine below_set ?_ GE431.out) | exact HB.out)⟩⟩
       subst c38
       rw [if_pos rfl] at H
       by_cases c39 : x5_20.length < 8796093022208
       rotate_left
       ·rw [if_neg c39] at H
        exact absurd H (by simp)
       rw [if_pos c39] at H
       have LMc39 := Aside0.mk c39
       clear c39
       obtain ⟨y445, hy445⟩ : ∃ y_ : List (S28), y_ = (x5_20 ++ [(⟨t423, t424⟩ : S28)]) := ⟨_, rfl⟩
       replace H : (spec_l01DrawPrefixes.l0 kj20 a1 y445 (wrap64 (x6_1 + 1)) s0_0 t443 t444) = some (r1, r2, r3) := by first | (rw [hy445]; with_reducible exact H) | (have H2_ := (Option.bind_some _ _).symm.trans H; rw [hy445]; with_reducible exact H2_) | (have H2_ := (Option.bind_some _ _).symm.trans H; with_reducible exact H2_) | with_reducible exact H | (rw [hy445]; exact H) | exact H
       have Ny445 := Aside0.mk hy445
       clear hy445
       have H' := Aside0.mk H
       clear H
       have hnb40 := NB427_431.out
       have hnc40 := NB431_427.out
       have hnb41 := NB427_0.out
       have hnc41 := NB0_427.out
       have hcz42_0 := cz_ BK427 0 (.int .i64 t423)
       have hcz42_1 := cz_ BK427 1 (.int .i64 t424)
       have hfz42_0 := blk_frozen BK427.out 0
       have hfz42_1 := blk_frozen BK427.out 1
       go_wp2_with (first | ((with_reducible refine gate_callee (f := 55) rfl ?_); refine gl_ (some 33) Try.func55 #[.agg #[.int .i64 t423, .int .i64 t424]] ?_; (with_reducible refine (spec_PrefixOk.calls t423 t424 false _ A28.out).mono ?_); rintro e w43 ⟨rfl, hb⟩; refine ⟨_, rfl, ?_⟩; replace HO_5 := rb_ HO_5 hb; replace BK427 := Aside0.mk (bb_ BK427 hb); replace BK431 := Aside0.mk (bb_ BK431 hb); replace HK := Aside0.mk (KeepBut.trans (by repeat (first | (with_reducible first | exact HK.out | apply KeepBut.set_ | apply keep_drewN | apply keep_drew | apply keep_alloc | refine keep_far ?_ GW427.out _ | refine keep_far ?_ GW431.out _) | exact HK.out)) (KeepBut.of_below hb g none) (.inl rfl)); replace HB := Aside0.mk (below_step (by repeat (first | (with_reducible first | exact HB.out | apply below_alloc | apply pw_below_drewN | apply below_drew1 | refine below_set ?_ (IsS112.ge HI0.out) | refine below_set ?_ GE427.out | refine below_set ?_ GE431.out) | exact HB.out)) hb); replace HI0 := Aside0.mk (IsS112.below (by repeat (first | (with_reducible first | exact HI0.out | apply IsS112.alloc | apply IsS112.drewN | apply IsS112.drew | apply IsS112.set_1 | apply IsS112.set_2 | refine IsS112.far ?_ NB0_427.out _ | refine IsS112.far ?_ NB0_431.out _) | exact HI0.out)) hb); (try clear hb); (try clear hb2); (try clear hk); (try clear hi)) | (go_at_call 81; (with_reducible refine (spec_l01Once.calls g s0_0 x1001_7 x1002_7 20 true t443 t444 w0 _ ?side1 ?side2 A37.out).mono ?_); (case side1 => repeat (first | (with_reducible first | exact HI0.out | apply IsS112.alloc | apply IsS112.drewN | apply IsS112.drew | apply IsS112.set_1 | apply IsS112.set_2 | refine IsS112.far ?_ NB0_427.out _ | refine IsS112.far ?_ NB0_431.out _) | exact HI0.out)); (case side2 => repeat (first | (with_reducible first | exact HB.out | apply below_alloc | apply pw_below_drewN | apply below_drew1 | refine below_set ?_ (IsS112.ge HI0.out) | refine below_set ?_ GE427.out | refine below_set ?_ GE431.out) | exact HB.out)); rintro e w44 ⟨rfl, hi, hb, hk⟩; replace HO_5 := Aside0.mk (Kd.R_mono (Kd.R_keep (IsS112.apart (show IsS112 w0 _ g s0_0 x1001_7 x1002_7 from by repeat (first | (with_reducible first | exact HI0.out | apply IsS112.alloc | apply IsS112.drewN | apply IsS112.drew | apply IsS112.set_1 | apply IsS112.set_2 | refine IsS112.far ?_ NB0_427.out _ | refine IsS112.far ?_ NB0_431.out _) | exact HI0.out)) (hd_ HO_5) (by decide)) hk (fun _ h => h.2)) (fun _ h => h.1)); replace BK427 := Aside0.mk (KeepBut.blk hk (g' := gb427) (o := .cells #[.int .i64 t423, .int .i64 t424] 28 (0, 0)) (by (with_reducible repeat (first | refine blk_drewN ?_ _ | refine blk_drew ?_ | refine blk_alloc ?_ _)); exact BK427.out) NB427_0.out (by simp)); replace BK431 := Aside0.mk (KeepBut.blk hk (g' := gb431) (o := .cells #[.int .i64 t428, .int .i64 t429] 28 (0, 0)) (by (with_reducible repeat (first | refine blk_drewN ?_ _ | refine blk_drew ?_ | refine blk_alloc ?_ _)); exact BK431.out) NB431_0.out (by simp)); replace HK := Aside0.mk (KeepBut.trans (by repeat (first | (with_reducible first | exact HK.out | apply KeepBut.set_ | apply keep_drewN | apply keep_drew | apply keep_alloc | refine keep_far ?_ GW427.out _ | refine keep_far ?_ GW431.out _) | exact HK.out)) hk (.inl rfl)); replace HB := Aside0.mk (hb); replace HI0 := Aside0.mk (hi); (try clear hb); (try clear hb2); (try clear hk); (try clear hi); have hcz45_0 := cz_ BK427 0 (.int .i64 t423); have hcz45_1 := cz_ BK427 1 (.int .i64 t424); have hfz45_0 := blk_frozen BK427.out 0; have hfz45_1 := blk_frozen BK427.out 1) | ((with_reducible refine gate_builtin (b := .append) (xs := #[.tmp 38, .tmp 40]) rfl ?_); at_builtin; refine Kd.R_append k28 w.heap.size rfl (.tmp 38) (.tmp 40) 51 28 (.agg #[(.int .i64 0), (.int .i64 0)]) 16 rfl Try.underlying51 info28 rfl (by decide) (by omega) u5 x5_20 (⟨t423, t424⟩ : S28) [.int .i64 t423, .int .i64 t424] (fun k_ => k_ ≠ gb427 ∧ k_ ≠ gb431) (fun _ => False) rfl rfl ?aP (fun _ hk => hk.elim) ?aF ?aO (Below.refl _ _) ?aS ?aL ?_; (case aP => exact k28_mkM _ _ _ (⟨t423, t424⟩ : S28)); (case aF => exact (fun k_ hk => ⟨Kd.freshB (g := gb427) (o := .cells #[.int .i64 t423, .int .i64 t424] 28 (0, 0)) (by (with_reducible repeat (first | refine blk_drewN ?_ _ | refine blk_drew ?_ | refine blk_alloc ?_ _)); exact BK427.out) k_ hk, Kd.freshB (g := gb431) (o := .cells #[.int .i64 t428, .int .i64 t429] 28 (0, 0)) (by (with_reducible repeat (first | refine blk_drewN ?_ _ | refine blk_drew ?_ | refine blk_alloc ?_ _)); exact BK431.out) k_ hk⟩)); (case aO => exact (hd_ HO_5)); (case aS => exact (keep_size (w := w) (g := g) (row := none) (by repeat (first | (with_reducible first | exact HK.out | apply KeepBut.set_ | apply keep_drewN | apply keep_drew | apply keep_alloc | refine keep_far ?_ GW427.out _ | refine keep_far ?_ GW431.out _) | exact HK.out)))); (case aL => have := LMc39.out; omega); intro v446 w46 ho hb hg hat; rw [← Ny445.out] at ho; have HO447 := Aside0.mk ho; replace BK427 := Aside0.mk (blk_grown (g := gb427) (o := .cells #[.int .i64 t423, .int .i64 t424] 28 (0, 0)) (by (with_reducible repeat (first | refine blk_drewN ?_ _ | refine blk_drew ?_ | refine blk_alloc ?_ _)); exact BK427.out) hg (Kd.R_away HO_5.out (fun _ hk => hk.1))); replace BK431 := Aside0.mk (blk_grown (g := gb431) (o := .cells #[.int .i64 t428, .int .i64 t429] 28 (0, 0)) (by (with_reducible repeat (first | refine blk_drewN ?_ _ | refine blk_drew ?_ | refine blk_alloc ?_ _)); exact BK431.out) hg (Kd.R_away HO_5.out (fun _ hk => hk.2))); replace HB := Aside0.mk (below_weaken (by repeat (first | (with_reducible first | exact HB.out | apply below_alloc | apply pw_below_drewN | apply below_drew1 | refine below_set ?_ (IsS112.ge HI0.out) | refine below_set ?_ GE427.out | refine below_set ?_ GE431.out) | exact HB.out)) HL.out hb); replace HI0 := Aside0.mk (IsS112.grown (by repeat (first | (with_reducible first | exact HI0.out | apply IsS112.alloc | apply IsS112.drewN | apply IsS112.drew | apply IsS112.set_1 | apply IsS112.set_2 | refine IsS112.far ?_ NB0_427.out _ | refine IsS112.far ?_ NB0_431.out _) | exact HI0.out)) hg (IsS112.own_ne HI0.out HO_5.out (by decide))); replace HK := Aside0.mk (KeepBut.trans (by repeat (first | (with_reducible first | exact HK.out | apply KeepBut.set_ | apply keep_drewN | apply keep_drew | apply keep_alloc | refine keep_far ?_ GW427.out _ | refine keep_far ?_ GW431.out _) | exact HK.out)) (KeepBut.of_grown hg g) (Kd.R_base2 HO_5.out)); clear HO_5; clear ho hb hg hat))
       go_roundg kj20
       case measure => have := HK1.out; have := HJ7.out; have := HJ20.out; omega
       case rel => exact ⟨(y445), (wrap64 (x6_1 + 1)), (t443), (t444), (by first | rfl | (simp; done) | (simp [*]; done)), H', ⟨by have := HK1.out; have := HJ7.out; have := HJ20.out; omega⟩, ⟨by (with_reducible repeat (first | apply Kd.R_alloc | apply Kd.R_drewN | apply Kd.R_drew)); exact Kd.R_mono HO447.out (fun _ hk => trivial)⟩, ⟨by repeat (first | (with_reducible first | exact HI0.out | apply IsS112.alloc | apply IsS112.drewN | apply IsS112.drew | apply IsS112.set_1 | apply IsS112.set_2 | refine IsS112.far ?_ NB0_427.out _ | refine IsS112.far ?_ NB0_431.out _) | exact HI0.out)⟩, ⟨by repeat (first | (with_reducible first | exact HK.out | apply KeepBut.set_ | apply keep_drewN | apply keep_drew | apply keep_alloc | refine keep_far ?_ GW427.out _ | refine keep_far ?_ GW431.out _) | exact HK.out)⟩, ⟨by repeat (first | (with_reducible first | exact HB.out | apply below_alloc | apply pw_below_drewN | apply below_drew1 | refine below_set ?_ (IsS112.ge HI0.out) | refine below_set ?_ GE427.out | refine below_set ?_ GE431.out) | exact HB.out)⟩⟩

/-! ### spec_DrawAggregate: function 34 -/
def spec_DrawAggregate.f (k : Nat) (l0 : List Int) : Option ((List (S28))) := (spec_l01New.f k l0).bind fun bt448 => ((spec_l01Once.f bt448.1 bt448.2.1 bt448.2.2 40).bind fun bt452 => (if bt452.1 = true then ((spec_l01DrawPrefixes.f k bt448.1 bt452.2.1 bt452.2.2 260).bind fun bt455 => (some bt455.1)) else ((spec_l01Size.f l0 14).bind fun t460 => ((spec_l01Below.f bt448.1 bt452.2.1 bt452.2.2 t460).bind fun bt461 => ((spec_l01DrawPrefixes.f k bt448.1 bt461.2.1 bt461.2.2 bt461.1).bind fun bt464 => (some bt464.1))))))
theorem spec_DrawAggregate.mono : ∀ a0 k, LeO (spec_DrawAggregate.f k a0) (spec_DrawAggregate.f (k + 1) a0) := by
 intro a0 k
 unfold spec_DrawAggregate.f
 repeat' first
   | (with_reducible exact spec_l01DrawPrefixes.mono _ _ _ _ _)
   | (with_reducible exact spec_l01New.mono _ _)
   | (with_reducible exact LeO.refl _)
   | (with_reducible exact LeO.none _)
   | (with_reducible refine LeO.ite ?_ ?_)
   | (with_reducible refine LeO.bind ?_ (fun _ => ?_))
   | exact spec_l01DrawPrefixes.mono _ _ _ _ _
   | exact spec_l01New.mono _ _
   | exact LeO.none _
   | refine LeO.ite ?_ ?_
   | refine LeO.bind ?_ (fun _ => ?_)
set_option maxHeartbeats 8000000 in
set_option maxRecDepth 100000 in
theorem spec_DrawAggregate.calls (k : Nat) (A0 : Option Addr) (c0 : Nat) (l0 : List Int) (r : List (S28)) (w : World) (hr0 : Kd.C (Kd.int .u8) w A0 l0.length l0) (hc0 : l0.length ≤ c0) (h : spec_DrawAggregate.f k l0 = some r) :
  Calls Try.prog 34 #[.slice A0 l0.length c0] w fun e w' => ∃ v0_ : Value, e = .returned (v0_) ∧ Kd.R k28 28 w' w.heap.size (fun _ => True) v0_ r ∧ Below w.heap.size w w' := by
 have HR0 := Aside0.mk hr0
 have HC0 := Aside0.mk hc0
 clear hr0 hc0
 have HB := Aside0.mk (Below.refl w.heap.size w)
 have H : ((spec_l01New.f k l0).bind fun bt448 => ((spec_l01Once.f bt448.1 bt448.2.1 bt448.2.2 40).bind fun bt452 => (if bt452.1 = true then ((spec_l01DrawPrefixes.f k bt448.1 bt452.2.1 bt452.2.2 260).bind fun bt455 => (some bt455.1)) else ((spec_l01Size.f l0 14).bind fun t460 => ((spec_l01Below.f bt448.1 bt452.2.1 bt452.2.2 t460).bind fun bt461 => ((spec_l01DrawPrefixes.f k bt448.1 bt461.2.1 bt461.2.2 bt461.1).bind fun bt464 => (some bt464.1))))))) = some r := h
 clear h
 replace H := Option.bind_eq_some_iff.mp H
 obtain ⟨⟨t448, t449, t450⟩, A20, H⟩ := H
 have A2 := Aside0.mk A20
 clear A20
 replace H := Option.bind_eq_some_iff.mp H
 obtain ⟨⟨t452, t453, t454⟩, A30, H⟩ := H
 have A3 := Aside0.mk A30
 clear A30
 by_cases c4 : t452 = true
 ·subst c4
  rw [if_pos rfl] at H
  replace H := Option.bind_eq_some_iff.mp H
  obtain ⟨⟨t455, t458, t459⟩, A50, H⟩ := H
  have A5 := Aside0.mk A50
  clear A50
  obtain rfl := Option.some.inj H
  go_enter Try.func34, Try.ntmps34
  go_wp2_with (first | ((with_reducible refine gate_callee (f := 59) rfl ?_); refine gl_ (some 5) Try.func59 #[.slice A0 l0.length c0] ?_; (with_reducible refine (spec_l01New.calls k _ _ l0 t448 t449 t450 w _ ?side1 ?side2 ?side3 A2.out).mono ?_); (case side1 => exact by_ HB); (case side2 => exact HR0.out); (case side3 => exact HC0.out); rintro e w6 ⟨g451, rfl, hi, hb, hb2⟩; refine ⟨_, rfl, ?_⟩; have HI451 := Aside0.mk hi; replace HB := Aside0.mk (hb); (try clear hb); (try clear hb2); (try clear hk); (try clear hi)) | ((with_reducible refine gate_callee (f := 81) rfl ?_); refine gl_ (some 7) Try.func81 #[.pointer (some ⟨g451, 0, none⟩), .int .i64 40] ?_; (with_reducible refine (spec_l01Once.calls g451 t448 t449 t450 40 true t453 t454 w _ ?side1 ?side2 A3.out).mono ?_); (case side1 => repeat (first | (with_reducible first | exact HI451.out | apply IsS112.alloc | apply IsS112.drewN | apply IsS112.drew | apply IsS112.set_1 | apply IsS112.set_2) | exact HI451.out)); (case side2 => repeat (first | (with_reducible first | exact HB.out | apply below_alloc | apply pw_below_drewN | apply below_drew1 | refine below_set ?_ (IsS112.ge HI451.out)) | exact HB.out)); rintro e w7 ⟨rfl, hi, hb, hk⟩; refine ⟨_, rfl, ?_⟩; replace HB := Aside0.mk (hb); replace HI451 := Aside0.mk (hi); (try clear hb); (try clear hb2); (try clear hk); (try clear hi)) | ((with_reducible refine gate_callee (f := 82) rfl ?_); refine gl_ (some 9) Try.func82 #[.pointer (some ⟨g451, 0, none⟩), .int .i64 260] ?_; (with_reducible refine (spec_l01DrawPrefixes.calls k g451 t448 t453 t454 260 t455 t458 t459 w _ ?side1 ?side2 A5.out).mono ?_); (case side1 => repeat (first | (with_reducible first | exact HI451.out | apply IsS112.alloc | apply IsS112.drewN | apply IsS112.drew | apply IsS112.set_1 | apply IsS112.set_2) | exact HI451.out)); (case side2 => repeat (first | (with_reducible first | exact HB.out | apply below_alloc | apply pw_below_drewN | apply below_drew1 | refine below_set ?_ (IsS112.ge HI451.out)) | exact HB.out)); rintro e w8 ⟨v456, rfl, ho0, hi, hb, hk⟩; refine ⟨_, rfl, ?_⟩; have HO457 := Aside0.mk (Kd.R_lower ho0 (below_size (by repeat (first | (with_reducible first | exact HB.out | apply below_alloc | apply pw_below_drewN | apply below_drew1 | refine below_set ?_ (IsS112.ge HI451.out)) | exact HB.out)))); replace HB := Aside0.mk (hb); replace HI451 := Aside0.mk (hi); (try clear hb); (try clear hb2); (try clear hk); (try clear hi); (try clear ho0)))
  go_ret
  exact ⟨_, by first | rfl | (simp [errW_none, errW_some] <;> rfl) | (simp [*, errW_none, errW_some] <;> rfl), by (with_reducible repeat (first | apply Kd.R_alloc | apply Kd.R_drewN | apply Kd.R_drew)); exact HO457.out, by repeat (first | (with_reducible first | exact HB.out | apply below_alloc | apply pw_below_drewN | apply below_drew1 | refine below_set ?_ (IsS112.ge HI451.out)) | exact HB.out)⟩
 replace c4 := Bool.eq_false_iff.mpr c4
 subst c4
 rw [if_neg (show ¬ (false = true) by decide)] at H
 replace H := Option.bind_eq_some_iff.mp H
 obtain ⟨t460, A90, H⟩ := H
 have A9 := Aside0.mk A90
 clear A90
 replace H := Option.bind_eq_some_iff.mp H
 obtain ⟨⟨t461, t462, t463⟩, A100, H⟩ := H
 have A10 := Aside0.mk A100
 clear A100
 replace H := Option.bind_eq_some_iff.mp H
 obtain ⟨⟨t464, t467, t468⟩, A110, H⟩ := H
 have A11 := Aside0.mk A110
 clear A110
 obtain rfl := Option.some.inj H
 go_enter Try.func34, Try.ntmps34
 go_wp2_with (first | ((with_reducible refine gate_callee (f := 59) rfl ?_); refine gl_ (some 5) Try.func59 #[.slice A0 l0.length c0] ?_; (with_reducible refine (spec_l01New.calls k _ _ l0 t448 t449 t450 w _ ?side1 ?side2 ?side3 A2.out).mono ?_); (case side1 => exact by_ HB); (case side2 => exact HR0.out); (case side3 => exact HC0.out); rintro e w12 ⟨g451, rfl, hi, hb, hb2⟩; refine ⟨_, rfl, ?_⟩; have HI451 := Aside0.mk hi; replace HB := Aside0.mk (hb); (try clear hb); (try clear hb2); (try clear hk); (try clear hi)) | ((with_reducible refine gate_callee (f := 81) rfl ?_); refine gl_ (some 7) Try.func81 #[.pointer (some ⟨g451, 0, none⟩), .int .i64 40] ?_; (with_reducible refine (spec_l01Once.calls g451 t448 t449 t450 40 false t453 t454 w _ ?side1 ?side2 A3.out).mono ?_); (case side1 => repeat (first | (with_reducible first | exact HI451.out | apply IsS112.alloc | apply IsS112.drewN | apply IsS112.drew | apply IsS112.set_1 | apply IsS112.set_2) | exact HI451.out)); (case side2 => repeat (first | (with_reducible first | exact HB.out | apply below_alloc | apply pw_below_drewN | apply below_drew1 | refine below_set ?_ (IsS112.ge HI451.out)) | exact HB.out)); rintro e w13 ⟨rfl, hi, hb, hk⟩; refine ⟨_, rfl, ?_⟩; replace HB := Aside0.mk (hb); replace HI451 := Aside0.mk (hi); (try clear hb); (try clear hb2); (try clear hk); (try clear hi)) | ((with_reducible refine gate_callee (f := 61) rfl ?_); refine gl_ (some 13) Try.func61 #[.slice A0 l0.length c0, .int .i64 14] ?_; (with_reducible refine (spec_l01Size.calls _ _ l0 14 t460 _ ?side1 ?side2 A9.out).mono ?_); (case side1 => exact cb_ HR0 HB); (case side2 => exact HC0.out); rintro e w' ⟨rfl, ⟨nd, rfl⟩⟩; refine ⟨_, rfl, ?_⟩) | ((with_reducible refine gate_callee (f := 44) rfl ?_); refine gl_ (some 14) Try.func44 #[.pointer (some ⟨g451, 0, none⟩), .int .i64 t460] ?_; (with_reducible refine (spec_l01Below.calls g451 t448 t453 t454 t460 t461 t462 t463 w _ ?side1 ?side2 A10.out).mono ?_); (case side1 => repeat (first | (with_reducible first | exact HI451.out | apply IsS112.alloc | apply IsS112.drewN | apply IsS112.drew | apply IsS112.set_1 | apply IsS112.set_2) | exact HI451.out)); (case side2 => repeat (first | (with_reducible first | exact HB.out | apply below_alloc | apply pw_below_drewN | apply below_drew1 | refine below_set ?_ (IsS112.ge HI451.out)) | exact HB.out)); rintro e w14 ⟨rfl, hi, hb, hk⟩; refine ⟨_, rfl, ?_⟩; replace HB := Aside0.mk (hb); replace HI451 := Aside0.mk (hi); (try clear hb); (try clear hb2); (try clear hk); (try clear hi)) | ((with_reducible refine gate_callee (f := 82) rfl ?_); refine gl_ (some 15) Try.func82 #[.pointer (some ⟨g451, 0, none⟩), .int .i64 t461] ?_; (with_reducible refine (spec_l01DrawPrefixes.calls k g451 t448 t462 t463 t461 t464 t467 t468 w _ ?side1 ?side2 A11.out).mono ?_); (case side1 => repeat (first | (with_reducible first | exact HI451.out | apply IsS112.alloc | apply IsS112.drewN | apply IsS112.drew | apply IsS112.set_1 | apply IsS112.set_2) | exact HI451.out)); (case side2 => repeat (first | (with_reducible first | exact HB.out | apply below_alloc | apply pw_below_drewN | apply below_drew1 | refine below_set ?_ (IsS112.ge HI451.out)) | exact HB.out)); rintro e w15 ⟨v465, rfl, ho0, hi, hb, hk⟩; refine ⟨_, rfl, ?_⟩; have HO466 := Aside0.mk (Kd.R_lower ho0 (below_size (by repeat (first | (with_reducible first | exact HB.out | apply below_alloc | apply pw_below_drewN | apply below_drew1 | refine below_set ?_ (IsS112.ge HI451.out)) | exact HB.out)))); replace HB := Aside0.mk (hb); replace HI451 := Aside0.mk (hi); (try clear hb); (try clear hb2); (try clear hk); (try clear hi); (try clear ho0)))
 go_ret
 exact ⟨_, by first | rfl | (simp [errW_none, errW_some] <;> rfl) | (simp [*, errW_none, errW_some] <;> rfl), by (with_reducible repeat (first | apply Kd.R_alloc | apply Kd.R_drewN | apply Kd.R_drew)); exact HO466.out, by repeat (first | (with_reducible first | exact HB.out | apply below_alloc | apply pw_below_drewN | apply below_drew1 | refine below_set ?_ (IsS112.ge HI451.out)) | exact HB.out)⟩

/-! ### laws_samePrefixes: function 35 -/
def laws_samePrefixes.l0 : Nat → List (S28) → List (S28) → Int → Option (Bool)
 | 0, _, _, _ => none
 | k + 1, x0, x1, x5 => if x5 < (x0.length : Int) then (if 0 ≤ x5 then (if x5 < (x1.length : Int) then (if (!(((rd_T28 x0 x5).f0) == ((rd_T28 x1 x5).f0)) || (!(((rd_T28 x0 x5).f1) == ((rd_T28 x1 x5).f1)))) = true then (some false) else (laws_samePrefixes.l0 k x0 x1 (wrap64 (x5 + 1)))) else (none)) else (none)) else (some true)
def laws_samePrefixes.f (k : Nat) (l0 : List (S28)) (l1 : List (S28)) : Option (Bool) := if (l0.length : Int) = (l1.length : Int) then (laws_samePrefixes.l0 k l0 l1 0) else (some false)
theorem laws_samePrefixes.mono_l : ∀ k, (∀ y0 y1 y2, LeO (laws_samePrefixes.l0 k y0 y1 y2) (laws_samePrefixes.l0 (k + 1) y0 y1 y2))
 | 0 => fun _ _ _ r h => by simp [laws_samePrefixes.l0] at h
 | k + 1 => by
  have ih0 := laws_samePrefixes.mono_l k
  ·intro y0 y1 y2
   unfold laws_samePrefixes.l0
   repeat' first
   | (with_reducible exact ih0 _ _ _)
   | (with_reducible exact LeO.refl _)
   | (with_reducible exact LeO.none _)
   | (with_reducible refine LeO.ite ?_ ?_)
   | (with_reducible refine LeO.bind ?_ (fun _ => ?_))
   | exact ih0 _ _ _
   | exact LeO.none _
   | refine LeO.ite ?_ ?_
   | refine LeO.bind ?_ (fun _ => ?_)
theorem laws_samePrefixes.mono : ∀ a0 a1 k, LeO (laws_samePrefixes.f k a0 a1) (laws_samePrefixes.f (k + 1) a0 a1) := by
 intro a0 a1 k
 have ih0 := laws_samePrefixes.mono_l k
 unfold laws_samePrefixes.f
 repeat' first
   | (with_reducible exact ih0 _ _ _)
   | (with_reducible exact LeO.refl _)
   | (with_reducible exact LeO.none _)
   | (with_reducible refine LeO.ite ?_ ?_)
   | (with_reducible refine LeO.bind ?_ (fun _ => ?_))
   | exact ih0 _ _ _
   | exact LeO.none _
   | refine LeO.ite ?_ ?_
   | refine LeO.bind ?_ (fun _ => ?_)
set_option maxHeartbeats 8000000 in
set_option maxRecDepth 100000 in
theorem laws_samePrefixes.calls (k : Nat) (A0 : Option Addr) (c0 : Nat) (l0 : List (S28)) (A1 : Option Addr) (c1 : Nat) (l1 : List (S28)) (r : Bool) (w : World) (hr0 : Kd.C k28 w A0 l0.length l0) (hc0 : l0.length ≤ c0) (hr1 : Kd.C k28 w A1 l1.length l1) (hc1 : l1.length ≤ c1) (h : laws_samePrefixes.f k l0 l1 = some r) :
  Calls Try.prog 35 #[.slice A0 l0.length c0, .slice A1 l1.length c1] w fun e w' => e = .returned (.bool r) ∧ Drawn0 w w' := by
 have hu28 := Try.underlying28
 have HR0 := Aside0.mk hr0
 have HC0 := Aside0.mk hc0
 clear hr0 hc0
 have HR1 := Aside0.mk hr1
 have HC1 := Aside0.mk hc1
 clear hr1 hc1
 have H : (if (l0.length : Int) = (l1.length : Int) then (laws_samePrefixes.l0 k l0 l1 0) else (some false)) = some r := h
 clear h
 by_cases c3 : (l0.length : Int) = (l1.length : Int)
 rotate_left
 ·rw [if_neg c3] at H
  have c3b0 : ((l0.length : Int) == (l1.length : Int)) = false := beq_eq_false_iff_ne.mpr c3
  have c3b1 : ((l0.length : Int) != (l1.length : Int)) = true := bne_iff_ne.mpr c3
  have c3b2 : (l0.length == l1.length) = false := by first | simpa using c3 | (simp at c3 ⊢; omega)
  obtain rfl := Option.some.inj H
  go_enter Try.func35, Try.ntmps35
  go_wp2
  repeat (go_quiet (fail); try go_wp2)
  go_ret
  exact ⟨by first | rfl | (simp; done) | (simp [*]; done), by repeat (first | exact Drawn0.refl _ | apply Drawn0.step)⟩
 rw [if_pos c3] at H
 have c3b0 : ((l0.length : Int) == (l1.length : Int)) = true := beq_iff_eq.mpr c3
 have c3b1 : ((l0.length : Int) != (l1.length : Int)) = false := bne_eq_false_iff_eq.mpr c3
 have c3b2 : (l0.length == l1.length) = true := by first | simpa using c3 | (simp at c3 ⊢; omega)
 clear c3
 have H' := Aside0.mk H
 clear H
 go_enter Try.func35, Try.ntmps35
 go_wp2
 repeat (go_quiet (fail); try go_wp2)
 go_loopg [5] k (fun kq v5 w' => ∃ (x5_1 : Int), v5 = .int .i64 x5_1 ∧ Aside0 (laws_samePrefixes.l0 kq l0 l1 x5_1 = some r) ∧ Aside0 (kq ≤ k) ∧ Drawn0 w w')
 case atStart => exact ⟨(0), (by first | rfl | (simp; done) | (simp [*]; done)), H', ⟨Nat.le_refl _⟩, by repeat (first | exact Drawn0.refl _ | apply Drawn0.step)⟩
 case round =>
  clear H'
  try clear c1
  try clear p2
  try clear c3
  try clear c3b0
  try clear c3b1
  try clear c3b2
  obtain ⟨x5_1, rfl, HA, HK1, ⟨m1, rfl⟩⟩ := hrel
  cases gk with
  | zero => exact absurd HA.out (by simp [laws_samePrefixes.l0])
  | succ k1 =>
   have H := HA.out
   clear HA
   simp only [laws_samePrefixes.l0] at H
   by_cases c4 : x5_1 < (l0.length : Int)
   rotate_left
   ·rw [if_neg c4] at H
    have c4b0 : decide (x5_1 < (l0.length : Int)) = false := decide_eq_false c4
    clear c4
    obtain rfl := Option.some.inj H
    go_wp2
    repeat (go_quiet (fail); try go_wp2)
    go_ret
    exact ⟨by first | rfl | (simp; done) | (simp [*]; done), by repeat (first | exact Drawn0.refl _ | apply Drawn0.step)⟩
   rw [if_pos c4] at H
   have c4b0 : decide (x5_1 < (l0.length : Int)) = true := decide_eq_true c4
   clear c4
   by_cases c5 : 0 ≤ x5_1
   rotate_left
   ·rw [if_neg c5] at H
    exact absurd H (by simp)
   rw [if_pos c5] at H
   have c5b0 : decide (0 ≤ x5_1) = true := decide_eq_true c5
   clear c5
   by_cases c6 : x5_1 < (l1.length : Int)
   rotate_left
   ·rw [if_neg c6] at H
    exact absurd H (by simp)
   rw [if_pos c6] at H
   have c6b0 : decide (x5_1 < (l1.length : Int)) = true := decide_eq_true c6
   clear c6
   by_cases c7 : (!(((rd_T28 l0 x5_1).f0) == ((rd_T28 l1 x5_1).f0)) || (!(((rd_T28 l0 x5_1).f1) == ((rd_T28 l1 x5_1).f1)))) = true
   ·rw [if_pos c7] at H
    have c7b0 : (!(((rd_T28 l0 x5_1).f0) == ((rd_T28 l1 x5_1).f0)) || (!(((rd_T28 l0 x5_1).f1) == ((rd_T28 l1 x5_1).f1)))) = true := c7
    clear c7
    obtain rfl := Option.some.inj H
    have p469 : 0 ≤ (x5_1 : Int) := of_decide_eq_true (by first | (with_reducible assumption) | assumption)
    have q469 : x5_1 < (l0.length : Int) := of_decide_eq_true (by first | (with_reducible assumption) | assumption)
    obtain ⟨ad469, e469, hx469_0, hx469_1⟩ := at_T28 HR0.out x5_1 p469 q469
    cases e469
    replace p469 := eq_true p469
    replace q469 := eq_true q469
    have p470 : 0 ≤ (x5_1 : Int) := of_decide_eq_true (by first | (with_reducible assumption) | assumption)
    have q470 : x5_1 < (l1.length : Int) := of_decide_eq_true (by first | (with_reducible assumption) | assumption)
    obtain ⟨ad470, e470, hx470_0, hx470_1⟩ := at_T28 HR1.out x5_1 p470 q470
    cases e470
    replace p470 := eq_true p470
    replace q470 := eq_true q470
    go_wp2
    repeat (go_quiet (fail); try go_wp2)
    go_ret
    exact ⟨by first | rfl | (simp; done) | (simp [*]; done), by repeat (first | exact Drawn0.refl _ | apply Drawn0.step)⟩
   rw [if_neg c7] at H
   have c7b0 : (!(((rd_T28 l0 x5_1).f0) == ((rd_T28 l1 x5_1).f0)) || (!(((rd_T28 l0 x5_1).f1) == ((rd_T28 l1 x5_1).f1)))) = false := by simpa using c7
   clear c7
   have H' := Aside0.mk H
   clear H
   have p469 : 0 ≤ (x5_1 : Int) := of_decide_eq_true (by first | (with_reducible assumption) | assumption)
   have q469 : x5_1 < (l0.length : Int) := of_decide_eq_true (by first | (with_reducible assumption) | assumption)
   obtain ⟨ad469, e469, hx469_0, hx469_1⟩ := at_T28 HR0.out x5_1 p469 q469
   cases e469
   replace p469 := eq_true p469
   replace q469 := eq_true q469
   have p470 : 0 ≤ (x5_1 : Int) := of_decide_eq_true (by first | (with_reducible assumption) | assumption)
   have q470 : x5_1 < (l1.length : Int) := of_decide_eq_true (by first | (with_reducible assumption) | assumption)
   obtain ⟨ad470, e470, hx470_0, hx470_1⟩ := at_T28 HR1.out x5_1 p470 q470
   cases e470
   replace p470 := eq_true p470
   replace q470 := eq_true q470
   go_wp2
   repeat (go_quiet (fail); try go_wp2)
   go_roundg k1
   case measure => have := HK1.out; omega
   case rel => exact ⟨(wrap64 (x5_1 + 1)), (by first | rfl | (simp; done) | (simp [*]; done)), H', ⟨by have := HK1.out; omega⟩, by repeat (first | exact Drawn0.refl _ | apply Drawn0.step)⟩

end Go.Proofs.Ytjepmdngbafonaa.QFnAggregate
