/- Contracts of functions that the law reaches: what each call returns and what it leaves in memory. Made by this session over the print of the kit. -/
import Derived.Test.YtmbaemcnjdgemaaDoorQFnExactPrefixTextx0
import Derived.Test.YtmbaemcnjdgemaaDoorQFnExactPrefixTextx2
namespace Go.Proofs.YtmbaemcnjdgemaaDoor.QFnExactPrefixText
open Go.RowKit Go.Proofs.YtmbaemcnjdgemaaDoorA.PrintWords Go.Proofs.YtmbaemcnjdgemaaDoorA.PrintLast Go.Proofs.YtmbaemcnjdgemaaDoorA.PrintMore
attribute [local go_sem] max2_int min2_int max_two min_two max_three min_three max_four min_four   -- for this text's walks alone
set_option linter.unusedVariables false
set_option linter.unusedSimpArgs false
def ba3_0 : Array Bool := #[false, false, false, false, false, false, false, false, false, false, false, false, false, false, false, false]
def ba3_1 : Array Bool := #[true, false, false, false, false, false, false, false, false, false, false, false, false, false, false, false]
def ba3_2 : Array Bool := #[true, false, false, false, false, true, false, false, false, false, false, false, false, false, false, false]
def ba3_3 : Array Bool := #[true, false, false, false, false, true, false, false, false, false, false, true, false, false, false, false]
def ba3_4 : Array Bool := #[true, true, false, false, false, true, false, false, false, false, false, true, false, false, false, false]
def ba3_5 : Array Bool := #[true, true, true, false, false, true, false, false, false, false, false, true, false, false, false, false]
def ba3_6 : Array Bool := #[true, true, true, false, false, true, true, false, false, false, false, true, false, false, false, false]
def ba3_7 : Array Bool := #[true, true, true, false, false, true, true, true, false, false, false, true, false, false, false, false]
def ba3_8 : Array Bool := #[true, true, true, false, false, true, true, true, false, false, false, true, true, false, false, false]
def ba3_9 : Array Bool := #[true, true, true, true, false, true, true, true, false, false, false, true, true, false, false, false]
def ba3_10 : Array Bool := #[true, true, true, true, true, true, true, true, false, false, false, true, true, false, false, false]
def ba3_11 : Array Bool := #[true, true, true, true, true, true, true, true, true, false, false, true, true, false, false, false]
def ba3_12 : Array Bool := #[true, true, true, true, true, true, true, true, true, true, false, true, true, false, false, false]
def ba3_13 : Array Bool := #[true, true, true, true, true, true, true, true, true, true, true, true, true, false, false, false]
def ba3_14 : Array Bool := #[true, true, true, true, true, true, true, true, true, true, true, true, true, true, false, false]
def ba3_15 : Array Bool := #[true, true, true, true, true, true, true, true, true, true, true, true, true, true, true, false]
def ba3_16 : Array Bool := #[true, true, true, true, true, true, true, true, true, true, true, true, true, true, true, true]

/-! ### spec_PrefixText: function 19 -/
def spec_PrefixText.f (k : Nat) (a0_0 : Int) (a0_1 : Int) : Option (ByteArray) := (spec_PrefixOk.f a0_0 a0_1).bind fun t145 => (if t145 = true then ((spec_l01Num.f k (wrap64 (Int.tdiv a0_0 256))).bind fun t146 => (if t146.size + 1 ≤ 9223372036854775807 then ((spec_l01Num.f k (Int.tmod a0_0 256)).bind fun t147 => (if (t146 ++ (⟨#[46]⟩ : ByteArray)).size + t147.size ≤ 9223372036854775807 then (if ((t146 ++ (⟨#[46]⟩ : ByteArray)) ++ t147).size + 1 ≤ 9223372036854775807 then ((spec_l01Num.f k a0_1).bind fun t148 => (if (((t146 ++ (⟨#[46]⟩ : ByteArray)) ++ t147) ++ (⟨#[47]⟩ : ByteArray)).size + t148.size ≤ 9223372036854775807 then (some ((((t146 ++ (⟨#[46]⟩ : ByteArray)) ++ t147) ++ (⟨#[47]⟩ : ByteArray)) ++ t148)) else (none))) else (none)) else (none))) else (none))) else (some (⟨#[]⟩ : ByteArray)))
theorem spec_PrefixText.mono : ∀ a0 a1 k, LeO (spec_PrefixText.f k a0 a1) (spec_PrefixText.f (k + 1) a0 a1) := by
 intro a0 a1 k
 unfold spec_PrefixText.f
 repeat' first
   | (with_reducible exact spec_l01Num.mono _ _)
   | (with_reducible exact LeO.refl _)
   | (with_reducible exact LeO.none _)
   | (with_reducible refine LeO.ite ?_ ?_)
   | (with_reducible refine LeO.bind ?_ (fun _ => ?_))
   | exact spec_l01Num.mono _ _
   | exact LeO.none _
   | refine LeO.ite ?_ ?_
   | refine LeO.bind ?_ (fun _ => ?_)
def spec_PrefixText.T3 : Bool × List (List Nat × List Nat) := (true, [([], []), ([0], [0]), ([1], [1]), ([2], [2]), ([3], [3]), ([], []), ([5], [5]), ([6], [6]), ([7, 3], [7]), ([4, 8], [4, 8]), ([9], [9]), ([], []), ([11], [11]), ([12, 8], [12]), ([10, 13], [10, 13]), ([14, 13, 0, 1, 2, 3, 4, 5, 6, 7, 8, 9, 10, 11, 12, 13, 14], [14])])
def spec_PrefixText.B3 : List Nat := [0, 1, 3, 7, 15, 0, 32, 96, 239, 511, 1023, 0, 2048, 6639, 16383, 32767]
theorem spec_PrefixText.tab3 : rtab .any (opsOf Tryd.f19 3) = spec_PrefixText.T3 := by kernel_rfl
theorem spec_PrefixText.bits3 : waitsOk spec_PrefixText.T3.2 spec_PrefixText.B3 = true := by kernel_rfl
set_option maxHeartbeats 8000000 in
set_option maxRecDepth 100000 in
theorem spec_PrefixText.calls (k : Nat) (a0_0 : Int) (a0_1 : Int) (r : ByteArray) (w : World) (h : spec_PrefixText.f k a0_0 a0_1 = some r) :
  Calls Tryd.prog 19 #[.agg #[.int .i64 a0_0, .int .i64 a0_1]] w fun e w' => e = .returned (.string r) ∧ Below w.heap.size w w' := by
 have hu25 := Tryd.underlying25
 have HB := Aside0.mk (Below.refl w.heap.size w)
 have H : ((spec_PrefixOk.f a0_0 a0_1).bind fun t145 => (if t145 = true then ((spec_l01Num.f k (wrap64 (Int.tdiv a0_0 256))).bind fun t146 => (if t146.size + 1 ≤ 9223372036854775807 then ((spec_l01Num.f k (Int.tmod a0_0 256)).bind fun t147 => (if (t146 ++ (⟨#[46]⟩ : ByteArray)).size + t147.size ≤ 9223372036854775807 then (if ((t146 ++ (⟨#[46]⟩ : ByteArray)) ++ t147).size + 1 ≤ 9223372036854775807 then ((spec_l01Num.f k a0_1).bind fun t148 => (if (((t146 ++ (⟨#[46]⟩ : ByteArray)) ++ t147) ++ (⟨#[47]⟩ : ByteArray)).size + t148.size ≤ 9223372036854775807 then (some ((((t146 ++ (⟨#[46]⟩ : ByteArray)) ++ t147) ++ (⟨#[47]⟩ : ByteArray)) ++ t148)) else (none))) else (none)) else (none))) else (none))) else (some (⟨#[]⟩ : ByteArray)))) = some r := h
 clear h
 replace H := Option.bind_eq_some_iff.mp H
 obtain ⟨t145, A20, H⟩ := H
 have A2 := Aside0.mk A20
 clear A20
 by_cases c3 : t145 = true
 ·subst c3
  rw [if_pos rfl] at H
  replace H := Option.bind_eq_some_iff.mp H
  obtain ⟨t146, A40, H⟩ := H
  have A4 := Aside0.mk A40
  clear A40
  by_cases c5 : t146.size + 1 ≤ 9223372036854775807
  ·rw [if_pos c5] at H
   have c5b0 := eq_true c5
   have c5b1 : decide (t146.size + 1 ≤ 9223372036854775807) = true := decide_eq_true c5
   try have c5b2 : (9223372036854775807 < t146.size + 1) = False := eq_false (Nat.not_lt.2 c5)
   replace H := Option.bind_eq_some_iff.mp H
   obtain ⟨t147, A60, H⟩ := H
   have A6 := Aside0.mk A60
   clear A60
   by_cases c7 : (t146 ++ (⟨#[46]⟩ : ByteArray)).size + t147.size ≤ 9223372036854775807
   ·rw [if_pos c7] at H
    have c7b0 := eq_true c7
    have c7b1 : decide ((t146 ++ (⟨#[46]⟩ : ByteArray)).size + t147.size ≤ 9223372036854775807) = true := decide_eq_true c7
    try have c7b2 : (9223372036854775807 < (t146 ++ (⟨#[46]⟩ : ByteArray)).size + t147.size) = False := eq_false (Nat.not_lt.2 c7)
    have c7b3 : (9223372036854775807 < t146.size + 1 + t147.size) = False := eq_false (Nat.not_lt.2 (by have e := c7; rw [ByteArray.size_append] at e; exact e))
    by_cases c8 : ((t146 ++ (⟨#[46]⟩ : ByteArray)) ++ t147).size + 1 ≤ 9223372036854775807
    ·rw [if_pos c8] at H
     have c8b0 := eq_true c8
     have c8b1 : decide (((t146 ++ (⟨#[46]⟩ : ByteArray)) ++ t147).size + 1 ≤ 9223372036854775807) = true := decide_eq_true c8
     try have c8b2 : (9223372036854775807 < ((t146 ++ (⟨#[46]⟩ : ByteArray)) ++ t147).size + 1) = False := eq_false (Nat.not_lt.2 c8)
     have c8b3 : (9223372036854775807 < t146.size + 1 + t147.size + 1) = False := eq_false (Nat.not_lt.2 (by have e := c8; rw [ByteArray.size_append, ByteArray.size_append] at e; exact e))
     replace H := Option.bind_eq_some_iff.mp H
     obtain ⟨t148, A90, H⟩ := H
     have A9 := Aside0.mk A90
     clear A90
     by_cases c10 : (((t146 ++ (⟨#[46]⟩ : ByteArray)) ++ t147) ++ (⟨#[47]⟩ : ByteArray)).size + t148.size ≤ 9223372036854775807
     ·rw [if_pos c10] at H
      have c10b0 := eq_true c10
      have c10b1 : decide ((((t146 ++ (⟨#[46]⟩ : ByteArray)) ++ t147) ++ (⟨#[47]⟩ : ByteArray)).size + t148.size ≤ 9223372036854775807) = true := decide_eq_true c10
      try have c10b2 : (9223372036854775807 < (((t146 ++ (⟨#[46]⟩ : ByteArray)) ++ t147) ++ (⟨#[47]⟩ : ByteArray)).size + t148.size) = False := eq_false (Nat.not_lt.2 c10)
      have c10b3 : (9223372036854775807 < t146.size + 1 + t147.size + 1 + t148.size) = False := eq_false (Nat.not_lt.2 (by have e := c10; rw [ByteArray.size_append, ByteArray.size_append, ByteArray.size_append] at e; exact e))
      obtain rfl := Option.some.inj H
      go_enter Tryd.func19, Tryd.ntmps19
      try go_wp2_with (first | ((with_reducible refine gate_dst (N := 1) rfl ?_); refine box_event ?hg (N := 1) ?hd (cs := #[.int .i64 a0_0, .int .i64 a0_1]) (t := 25) ?hr ?_; (case hd => rfl); (case hg => rfl); (case hr => first | (go_simp; done) | (go_simp; rfl)); intro gb144 hg w11 hbox hb; have BK144 := Aside0.mk hbox; have GW144 := ge_ HB hg; have GE144 := ge_ HB hg; replace HB := Aside0.mk (bt_ HB hb); clear hb hbox hg; have hcz12_0 := cz_ BK144 0 (.int .i64 a0_0); have hcz12_1 := cz_ BK144 1 (.int .i64 a0_1); have hfz12_0 := blk_frozen BK144.out 0; have hfz12_1 := blk_frozen BK144.out 1) | ((with_reducible refine gate_callee (f := 9) rfl ?_); refine gl_ (some 4) Tryd.func9 #[.agg #[.int .i64 a0_0, .int .i64 a0_1]] ?_; (with_reducible refine (spec_PrefixOk.calls a0_0 a0_1 true _ A2.out).mono ?_); rintro e w13 ⟨rfl, hb⟩; refine ⟨_, rfl, ?_⟩; replace BK144 := Aside0.mk (bb_ BK144 hb); replace HB := Aside0.mk (bt_ HB hb); (try clear hb); (try clear hb2); (try clear hk); (try clear hi)))
      replace BK144 := Aside0.mk (blk_drew BK144.out)
      replace HB := Aside0.mk (below_drew1 HB.out)
      refine start_ (n := 16) (S := fun w' => w'.cell? ⟨gb144, 0, none⟩ = some (.int .i64 a0_0) ∧ w'.cell? ⟨gb144, 1, none⟩ = some (.int .i64 a0_1)) (ds := []) ba3_0 (by kernel_rfl) rfl rfl ⟨(blk_cell BK144.out 0).trans rfl, (blk_cell BK144.out 1).trans rfl⟩ (fun hHeld => ?_); refine with_tabW spec_PrefixText.tab3 spec_PrefixText.bits3 (fun HT_ HW_ => ?_)
      generalize w13.drew = w14 at BK144 HB hHeld ⊢
      refine pz_ 0 6 ba3_1 HT_ ?_
      refine pz_ 5 11 ba3_2 HT_ ?_
      refine pz_ 11 17 ba3_3 HT_ ?_
      refine pt_ 1 7 ba3_4 HT_ HW_ hHeld ?_
      refine pz_ 2 8 ba3_5 HT_ ?_
      refine pt_ 6 12 ba3_6 HT_ HW_ hHeld ?_
      refine pz_ 7 13 ba3_7 HT_ ?_
      refine pt_ 12 18 ba3_8 HT_ HW_ hHeld ?_
      refine one_ (i := 3) (N := some 9) ba3_9 rfl rfl (one_of HT_.out (by kernel_rfl)) (by decide) (fun K hK => ?_)
      refine gz_ Tryd.func40 #[.int .i64 (wrap64 (Int.tdiv a0_0 256))] ?_
      with_reducible refine (spec_l01Num.calls k (wrap64 (Int.tdiv a0_0 256)) t146 _ A4.out).mono ?_
      rintro e w15 ⟨rfl, hb⟩
      refine ⟨_, rfl, ?_⟩
      replace BK144 := Aside0.mk (bb_ BK144 hb)
      replace HB := Aside0.mk (bt_ HB hb)
      (try clear hb)
      (try clear hb2)
      (try clear hk)
      (try clear hi)
      refine hK.out _ _ ⟨(blk_cell BK144.out 0).trans rfl, (blk_cell BK144.out 1).trans rfl⟩ (fun hHeld => ?_)
      clear hK K
      refine nz_ 9 ?_
      refine pz_ 4 10 ba3_10 HT_ ?_
      refine one_ (i := 8) (N := some 14) ba3_11 rfl rfl (one_of HT_.out (by kernel_rfl)) (by decide) (fun K hK => ?_)
      refine gz_ Tryd.func40 #[.int .i64 (Int.tmod a0_0 256)] ?_
      with_reducible refine (spec_l01Num.calls k (Int.tmod a0_0 256) t147 _ A6.out).mono ?_
      rintro e w16 ⟨rfl, hb⟩
      refine ⟨_, rfl, ?_⟩
      replace BK144 := Aside0.mk (bb_ BK144 hb)
      replace HB := Aside0.mk (bt_ HB hb)
      (try clear hb)
      (try clear hb2)
      (try clear hk)
      (try clear hi)
      refine hK.out _ _ ⟨(blk_cell BK144.out 0).trans rfl, (blk_cell BK144.out 1).trans rfl⟩ (fun hHeld => ?_)
      clear hK K
      refine nz_ 14 ?_
      refine pz_ 9 15 ba3_12 HT_ ?_
      refine pz_ 10 16 ba3_13 HT_ ?_
      refine one_ (i := 13) (N := some 19) ba3_14 rfl rfl (one_of HT_.out (by kernel_rfl)) (by decide) (fun K hK => ?_)
      refine gz_ Tryd.func40 #[.int .i64 a0_1] ?_
      with_reducible refine (spec_l01Num.calls k a0_1 t148 _ A9.out).mono ?_
      rintro e w17 ⟨rfl, hb⟩
      refine ⟨_, rfl, ?_⟩
      replace BK144 := Aside0.mk (bb_ BK144 hb)
      replace HB := Aside0.mk (bt_ HB hb)
      (try clear hb)
      (try clear hb2)
      (try clear hk)
      (try clear hi)
      refine hK.out _ _ ⟨(blk_cell BK144.out 0).trans rfl, (blk_cell BK144.out 1).trans rfl⟩ (fun hHeld => ?_)
      clear hK K
      refine nz_ 19 ?_
      refine pz_ 14 20 ba3_15 HT_ ?_
      refine pz_ 15 2 ba3_16 HT_ ?_
      refine done_ (done_of HT_.out (by kernel_rfl)) ?_
      try go_wp2
      go_ret
      exact ⟨by first | rfl | (simp [errW_none, errW_some] <;> rfl) | (simp [*, errW_none, errW_some] <;> rfl), by repeat (first | (with_reducible first | exact HB.out | apply below_alloc | apply pw_below_drewN | apply below_drew1 | refine below_set ?_ GE144.out) | exact HB.out)⟩
     ·rw [if_neg c10] at H
      exact absurd H (by simp)
    ·rw [if_neg c8] at H
     exact absurd H (by simp)
   ·rw [if_neg c7] at H
    exact absurd H (by simp)
  ·rw [if_neg c5] at H
   exact absurd H (by simp)
 ·replace c3 := Bool.eq_false_iff.mpr c3
  subst c3
  rw [if_neg (show ¬ (false = true) by decide)] at H
  obtain rfl := Option.some.inj H
  go_enter Tryd.func19, Tryd.ntmps19
  go_wp2_with (first | ((with_reducible refine gate_dst (N := 1) rfl ?_); refine box_event ?hg (N := 1) ?hd (cs := #[.int .i64 a0_0, .int .i64 a0_1]) (t := 25) ?hr ?_; (case hd => rfl); (case hg => rfl); (case hr => first | (go_simp; done) | (go_simp; rfl)); intro gb144 hg w18 hbox hb; have BK144 := Aside0.mk hbox; have GW144 := ge_ HB hg; have GE144 := ge_ HB hg; replace HB := Aside0.mk (bt_ HB hb); clear hb hbox hg; have hcz19_0 := cz_ BK144 0 (.int .i64 a0_0); have hcz19_1 := cz_ BK144 1 (.int .i64 a0_1); have hfz19_0 := blk_frozen BK144.out 0; have hfz19_1 := blk_frozen BK144.out 1) | ((with_reducible refine gate_callee (f := 9) rfl ?_); refine gl_ (some 4) Tryd.func9 #[.agg #[.int .i64 a0_0, .int .i64 a0_1]] ?_; (with_reducible refine (spec_PrefixOk.calls a0_0 a0_1 false _ A2.out).mono ?_); rintro e w20 ⟨rfl, hb⟩; refine ⟨_, rfl, ?_⟩; replace BK144 := Aside0.mk (bb_ BK144 hb); replace HB := Aside0.mk (bt_ HB hb); (try clear hb); (try clear hb2); (try clear hk); (try clear hi)))
  go_ret
  exact ⟨by first | rfl | (simp [errW_none, errW_some] <;> rfl) | (simp [*, errW_none, errW_some] <;> rfl), by repeat (first | (with_reducible first | exact HB.out | apply below_alloc | apply pw_below_drewN | apply below_drew1 | refine below_set ?_ GE144.out) | exact HB.out)⟩

/-! ### laws_toPrefix: function 20 -/
def laws_toPrefix.f (a0_0 : Int) (a0_1 : Int) : Option (Int × Int) := some (a0_0, a0_1)
set_option maxHeartbeats 8000000 in
set_option maxRecDepth 100000 in
theorem laws_toPrefix.calls (a0_0 : Int) (a0_1 : Int) (r1 : Int) (r2 : Int) (w : World) (h : laws_toPrefix.f a0_0 a0_1 = some (r1, r2)) :
  Calls Tryd.prog 20 #[.agg #[.int .i64 a0_0, .int .i64 a0_1]] w fun e w' => e = .returned (.agg #[.int .i64 r1, .int .i64 r2]) ∧ Below w.heap.size w w' := by
 have hu38 := Tryd.underlying38
 have hu25 := Tryd.underlying25
 have HB := Aside0.mk (Below.refl w.heap.size w)
 have H : (some (a0_0, a0_1)) = some (r1, r2) := h
 clear h
 simp only [Option.some.injEq, Prod.mk.injEq] at H
 obtain ⟨rfl, rfl⟩ := H
 go_enter Tryd.func20, Tryd.ntmps20
 go_wp2_with (first | ((with_reducible refine gate_dst (N := 1) rfl ?_); refine box_event ?hg (N := 1) ?hd (cs := #[.int .i64 a0_0, .int .i64 a0_1]) (t := 38) ?hr ?_; (case hd => rfl); (case hg => rfl); (case hr => first | (go_simp; done) | (go_simp; rfl)); intro gb149 hg w2 hbox hb; have BK149 := Aside0.mk hbox; have GW149 := ge_ HB hg; have GE149 := ge_ HB hg; replace HB := Aside0.mk (bt_ HB hb); clear hb hbox hg) | ((with_reducible refine gate_dst (N := 2) rfl ?_); refine box_event ?hg (N := 2) ?hd (cs := #[.int .i64 0, .int .i64 0]) (t := 25) ?hr ?_; (case hd => rfl); (case hg => rfl); (case hr => first | (go_simp; done) | (go_simp; rfl)); intro gb150 hg w3 hbox hb; have BK150 := Aside0.mk hbox; have GW150 := ge_ HB hg; have GE150 := ge_ HB hg; have NB149_150 := nl_ BK149 hg; have NB150_149 := ng_ BK149 hg; replace HB := Aside0.mk (bt_ HB hb); replace BK149 := Aside0.mk (bb_ BK149 hb); clear hb hbox hg) | ((with_reducible refine gate_dst (N := 3) rfl ?_); refine box_event ?hg (N := 3) ?hd (cs := #[.int .i64 0, .int .i64 0]) (t := 25) ?hr ?_; (case hd => rfl); (case hg => rfl); (case hr => first | (go_simp; done) | (go_simp; rfl)); intro gb151 hg w4 hbox hb; have BK151 := Aside0.mk hbox; have GW151 := ge_ HB hg; have GE151 := ge_ HB hg; have NB149_151 := nl_ BK149 hg; have NB151_149 := ng_ BK149 hg; have NB150_151 := nl_ BK150 hg; have NB151_150 := ng_ BK150 hg; replace HB := Aside0.mk (bt_ HB hb); replace BK149 := Aside0.mk (bb_ BK149 hb); replace BK150 := Aside0.mk (bb_ BK150 hb); clear hb hbox hg; have hnb5 := NB149_150.out; have hnc5 := NB150_149.out; have hnb6 := NB149_151.out; have hnc6 := NB151_149.out; have hcz7_0 := cz_ BK149 0 (.int .i64 a0_0); have hcz7_1 := cz_ BK149 1 (.int .i64 a0_1); have hfz7_0 := blk_frozen BK149.out 0; have hfz7_1 := blk_frozen BK149.out 1; have hnb8 := NB151_150.out; have hnc8 := NB150_151.out; have hcz9_0 := cz_ BK151 0 (.int .i64 0); have hcz9_1 := cz_ BK151 1 (.int .i64 0); have hfz9_0 := blk_frozen BK151.out 0; have hfz9_1 := blk_frozen BK151.out 1; have hcz10_0 := cz_ BK150 0 (.int .i64 0); have hcz10_1 := cz_ BK150 1 (.int .i64 0); have hfz10_0 := blk_frozen BK150.out 0; have hfz10_1 := blk_frozen BK150.out 1))
 refine bodyPost_ret (results_cell_row rfl _ _ gb150 25 #[.int .i64 a0_0, .int .i64 a0_1] (0, 0) _ rfl (by (with_reducible repeat (first | refine blk_drewN ?_ _ | refine blk_drew ?_ | refine blk_alloc ?_ _)); refine blk_put (cs := #[.int .i64 a0_0, .int .i64 0]) ?_ 1 _ rfl; (with_reducible repeat (first | refine blk_drewN ?_ _ | refine blk_drew ?_ | refine blk_alloc ?_ _)); refine blk_put (cs := #[.int .i64 0, .int .i64 0]) ?_ 0 _ rfl; (with_reducible repeat (first | refine blk_drewN ?_ _ | refine blk_drew ?_ | refine blk_alloc ?_ _)); refine blk_far ?_ NB150_151.out _; (with_reducible repeat (first | refine blk_drewN ?_ _ | refine blk_drew ?_ | refine blk_alloc ?_ _)); refine blk_far ?_ NB150_151.out _; (with_reducible repeat (first | refine blk_drewN ?_ _ | refine blk_drew ?_ | refine blk_alloc ?_ _)); exact BK150.out) Tryd.underlying25 rfl (by kernel_rfl)) rfl ?_
 exact ⟨by first | rfl | (simp [errW_none, errW_some] <;> rfl) | (simp [*, errW_none, errW_some] <;> rfl), by repeat (first | (with_reducible first | exact HB.out | apply below_alloc | apply pw_below_drewN | apply below_drew1 | refine below_set ?_ GE149.out | refine below_set ?_ GE150.out | refine below_set ?_ GE151.out) | exact HB.out)⟩

/-! ### laws_FnExactPrefixText: function 5 -/
def laws_FnExactPrefixText.f (k : Nat) (a0_0 : Int) (a0_1 : Int) : Option (Bool) := (laws_toPrefix.f a0_0 a0_1).bind fun bt153 => ((spec_PrefixText.f k bt153.1 bt153.2).bind fun t155 => ((laws_toPrefix.f a0_0 a0_1).bind fun bt156 => ((impl_PrefixText.f bt156.1 bt156.2).bind fun t158 => (if t158.toList = t155.toList then (some true) else (some false)))))
theorem laws_FnExactPrefixText.mono : ∀ a0 a1 k, LeO (laws_FnExactPrefixText.f k a0 a1) (laws_FnExactPrefixText.f (k + 1) a0 a1) := by
 intro a0 a1 k
 unfold laws_FnExactPrefixText.f
 repeat' first
   | (with_reducible exact spec_PrefixText.mono _ _ _)
   | (with_reducible exact LeO.refl _)
   | (with_reducible exact LeO.none _)
   | (with_reducible refine LeO.ite ?_ ?_)
   | (with_reducible refine LeO.bind ?_ (fun _ => ?_))
   | exact spec_PrefixText.mono _ _ _
   | exact LeO.none _
   | refine LeO.ite ?_ ?_
   | refine LeO.bind ?_ (fun _ => ?_)
set_option maxHeartbeats 8000000 in
set_option maxRecDepth 100000 in
theorem laws_FnExactPrefixText.calls (k : Nat) (a0_0 : Int) (a0_1 : Int) (r : Bool) (w : World) (hT : TabOk w) (h : laws_FnExactPrefixText.f k a0_0 a0_1 = some r) :
  Calls Tryd.prog 5 #[.agg #[.int .i64 a0_0, .int .i64 a0_1]] w fun e w' => e = .returned (.bool r) ∧ Below w.heap.size w w' := by
 have hu38 := Tryd.underlying38
 have HB := Aside0.mk (Below.refl w.heap.size w)
 have H : ((laws_toPrefix.f a0_0 a0_1).bind fun bt153 => ((spec_PrefixText.f k bt153.1 bt153.2).bind fun t155 => ((laws_toPrefix.f a0_0 a0_1).bind fun bt156 => ((impl_PrefixText.f bt156.1 bt156.2).bind fun t158 => (if t158.toList = t155.toList then (some true) else (some false)))))) = some r := h
 clear h
 replace H := Option.bind_eq_some_iff.mp H
 obtain ⟨⟨t153, t154⟩, A20, H⟩ := H
 have A2 := Aside0.mk A20
 clear A20
 replace H := Option.bind_eq_some_iff.mp H
 obtain ⟨t155, A30, H⟩ := H
 have A3 := Aside0.mk A30
 clear A30
 replace H := Option.bind_eq_some_iff.mp H
 obtain ⟨⟨t156, t157⟩, A40, H⟩ := H
 have A4 := Aside0.mk A40
 clear A40
 replace H := Option.bind_eq_some_iff.mp H
 obtain ⟨t158, A50, H⟩ := H
 have A5 := Aside0.mk A50
 clear A50
 by_cases c6 : t158.toList = t155.toList
 ·rw [if_pos c6] at H
  have c6b0 : (t158.toList == t155.toList) = true := beq_iff_eq.mpr c6
  have c6b1 : (t158.toList != t155.toList) = false := bne_eq_false_iff_eq.mpr c6
  clear c6
  obtain rfl := Option.some.inj H
  go_enter Tryd.func5, Tryd.ntmps5
  go_wp2_with (first | ((with_reducible refine gate_dst (N := 1) rfl ?_); refine box_event ?hg (N := 1) ?hd (cs := #[.int .i64 a0_0, .int .i64 a0_1]) (t := 38) ?hr ?_; (case hd => rfl); (case hg => rfl); (case hr => first | (go_simp; done) | (go_simp; rfl)); intro gb152 hg w7 hbox hb; have BK152 := Aside0.mk hbox; have GW152 := ge_ HB hg; have GE152 := ge_ HB hg; replace HB := Aside0.mk (bt_ HB hb); clear hb hbox hg; have hcz8_0 := cz_ BK152 0 (.int .i64 a0_0); have hcz8_1 := cz_ BK152 1 (.int .i64 a0_1); have hfz8_0 := blk_frozen BK152.out 0; have hfz8_1 := blk_frozen BK152.out 1) | ((with_reducible refine gate_callee (f := 20) rfl ?_); refine gl_ (some 6) Tryd.func20 #[.agg #[.int .i64 a0_0, .int .i64 a0_1]] ?_; (with_reducible refine (laws_toPrefix.calls a0_0 a0_1 t153 t154 _ A2.out).mono ?_); rintro e w9 ⟨rfl, hb⟩; refine ⟨_, rfl, ?_⟩; replace BK152 := Aside0.mk (bb_ BK152 hb); replace HB := Aside0.mk (bt_ HB hb); (try clear hb); (try clear hb2); (try clear hk); (try clear hi)) | ((with_reducible refine gate_callee (f := 19) rfl ?_); refine gl_ (some 7) Tryd.func19 #[.agg #[.int .i64 t153, .int .i64 t154]] ?_; (with_reducible refine (spec_PrefixText.calls k t153 t154 t155 _ A3.out).mono ?_); rintro e w10 ⟨rfl, hb⟩; refine ⟨_, rfl, ?_⟩; replace BK152 := Aside0.mk (bb_ BK152 hb); replace HB := Aside0.mk (bt_ HB hb); (try clear hb); (try clear hb2); (try clear hk); (try clear hi); have hcz11_0 := cz_ BK152 0 (.int .i64 a0_0); have hcz11_1 := cz_ BK152 1 (.int .i64 a0_1); have hfz11_0 := blk_frozen BK152.out 0; have hfz11_1 := blk_frozen BK152.out 1) | ((with_reducible refine gate_callee (f := 20) rfl ?_); refine gl_ (some 9) Tryd.func20 #[.agg #[.int .i64 a0_0, .int .i64 a0_1]] ?_; (with_reducible refine (laws_toPrefix.calls a0_0 a0_1 t156 t157 _ A4.out).mono ?_); rintro e w12 ⟨rfl, hb⟩; refine ⟨_, rfl, ?_⟩; replace BK152 := Aside0.mk (bb_ BK152 hb); replace HB := Aside0.mk (bt_ HB hb); (try clear hb); (try clear hb2); (try clear hk); (try clear hi)) | ((with_reducible refine gate_callee (f := 11) rfl ?_); refine gl_ (some 10) Tryd.func11 #[.agg #[.int .i64 t156, .int .i64 t157]] ?_; (with_reducible refine (impl_PrefixText.calls t156 t157 t158 _ (tb_ hT HB) A5.out).mono ?_); rintro e w13 ⟨rfl, hb⟩; refine ⟨_, rfl, ?_⟩; replace BK152 := Aside0.mk (bb_ BK152 hb); replace HB := Aside0.mk (bt_ HB hb); (try clear hb); (try clear hb2); (try clear hk); (try clear hi)))
  go_ret
  exact ⟨by first | rfl | (simp [errW_none, errW_some] <;> rfl) | (simp [*, errW_none, errW_some] <;> rfl), by repeat (first | (with_reducible first | exact HB.out | apply below_alloc | apply pw_below_drewN | apply below_drew1 | refine below_set ?_ GE152.out) | exact HB.out)⟩
 ·rw [if_neg c6] at H
  have c6b0 : (t158.toList == t155.toList) = false := beq_eq_false_iff_ne.mpr c6
  have c6b1 : (t158.toList != t155.toList) = true := bne_iff_ne.mpr c6
  obtain rfl := Option.some.inj H
  go_enter Tryd.func5, Tryd.ntmps5
  go_wp2_with (first | ((with_reducible refine gate_dst (N := 1) rfl ?_); refine box_event ?hg (N := 1) ?hd (cs := #[.int .i64 a0_0, .int .i64 a0_1]) (t := 38) ?hr ?_; (case hd => rfl); (case hg => rfl); (case hr => first | (go_simp; done) | (go_simp; rfl)); intro gb152 hg w14 hbox hb; have BK152 := Aside0.mk hbox; have GW152 := ge_ HB hg; have GE152 := ge_ HB hg; replace HB := Aside0.mk (bt_ HB hb); clear hb hbox hg; have hcz15_0 := cz_ BK152 0 (.int .i64 a0_0); have hcz15_1 := cz_ BK152 1 (.int .i64 a0_1); have hfz15_0 := blk_frozen BK152.out 0; have hfz15_1 := blk_frozen BK152.out 1) | ((with_reducible refine gate_callee (f := 20) rfl ?_); refine gl_ (some 6) Tryd.func20 #[.agg #[.int .i64 a0_0, .int .i64 a0_1]] ?_; (with_reducible refine (laws_toPrefix.calls a0_0 a0_1 t153 t154 _ A2.out).mono ?_); rintro e w16 ⟨rfl, hb⟩; refine ⟨_, rfl, ?_⟩; replace BK152 := Aside0.mk (bb_ BK152 hb); replace HB := Aside0.mk (bt_ HB hb); (try clear hb); (try clear hb2); (try clear hk); (try clear hi)) | ((with_reducible refine gate_callee (f := 19) rfl ?_); refine gl_ (some 7) Tryd.func19 #[.agg #[.int .i64 t153, .int .i64 t154]] ?_; (with_reducible refine (spec_PrefixText.calls k t153 t154 t155 _ A3.out).mono ?_); rintro e w17 ⟨rfl, hb⟩; refine ⟨_, rfl, ?_⟩; replace BK152 := Aside0.mk (bb_ BK152 hb); replace HB := Aside0.mk (bt_ HB hb); (try clear hb); (try clear hb2); (try clear hk); (try clear hi); have hcz18_0 := cz_ BK152 0 (.int .i64 a0_0); have hcz18_1 := cz_ BK152 1 (.int .i64 a0_1); have hfz18_0 := blk_frozen BK152.out 0; have hfz18_1 := blk_frozen BK152.out 1) | ((with_reducible refine gate_callee (f := 20) rfl ?_); refine gl_ (some 9) Tryd.func20 #[.agg #[.int .i64 a0_0, .int .i64 a0_1]] ?_; (with_reducible refine (laws_toPrefix.calls a0_0 a0_1 t156 t157 _ A4.out).mono ?_); rintro e w19 ⟨rfl, hb⟩; refine ⟨_, rfl, ?_⟩; replace BK152 := Aside0.mk (bb_ BK152 hb); replace HB := Aside0.mk (bt_ HB hb); (try clear hb); (try clear hb2); (try clear hk); (try clear hi)) | ((with_reducible refine gate_callee (f := 11) rfl ?_); refine gl_ (some 10) Tryd.func11 #[.agg #[.int .i64 t156, .int .i64 t157]] ?_; (with_reducible refine (impl_PrefixText.calls t156 t157 t158 _ (tb_ hT HB) A5.out).mono ?_); rintro e w20 ⟨rfl, hb⟩; refine ⟨_, rfl, ?_⟩; replace BK152 := Aside0.mk (bb_ BK152 hb); replace HB := Aside0.mk (bt_ HB hb); (try clear hb); (try clear hb2); (try clear hk); (try clear hi)))
  go_ret
  exact ⟨by first | rfl | (simp [errW_none, errW_some] <;> rfl) | (simp [*, errW_none, errW_some] <;> rfl), by repeat (first | (with_reducible first | exact HB.out | apply below_alloc | apply pw_below_drewN | apply below_drew1 | refine below_set ?_ GE152.out) | exact HB.out)⟩

end Go.Proofs.YtmbaemcnjdgemaaDoor.QFnExactPrefixText
