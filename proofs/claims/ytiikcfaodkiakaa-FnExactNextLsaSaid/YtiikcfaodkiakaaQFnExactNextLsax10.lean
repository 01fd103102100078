/- Contracts of functions that the law reaches: what each call returns and what it leaves in memory. Made by this session over the print of the kit. -/
import Derived.Test.YtiikcfaodkiakaaQFnExactNextLsax0
import Derived.Test.YtiikcfaodkiakaaQFnExactNextLsax9
namespace Go.Proofs.Ytiikcfaodkiakaa.QFnExactNextLsa
open Go.RowKit Go.Proofs.YtiikcfaodkiakaaU.PrintWords Go.Proofs.YtiikcfaodkiakaaU.PrintLast Go.Proofs.YtiikcfaodkiakaaU.PrintMore
attribute [local go_sem] max2_int min2_int max_two min_two max_three min_three max_four min_four   -- for this text's walks alone
set_option linter.unusedVariables false
set_option linter.unusedSimpArgs false
def ba10_0 : Array Bool := #[false, false, false, false, false, false, false, false, false, false, false, false]
def ba10_1 : Array Bool := #[true, false, false, false, false, false, false, false, false, false, false, false]
def ba10_2 : Array Bool := #[true, false, true, false, false, false, false, false, false, false, false, false]
def ba10_3 : Array Bool := #[true, false, true, false, false, true, false, false, false, false, false, false]
def ba10_4 : Array Bool := #[true, false, true, false, false, true, false, true, false, false, false, false]
def ba10_5 : Array Bool := #[true, true, true, false, false, true, false, true, false, false, false, false]
def ba10_6 : Array Bool := #[true, true, true, true, false, true, false, true, false, false, false, false]
def ba10_7 : Array Bool := #[true, true, true, true, true, true, false, true, false, false, false, false]
def ba10_8 : Array Bool := #[true, true, true, true, true, true, true, true, true, true, true, false]
def ba10_9 : Array Bool := #[true, true, true, true, true, true, true, true, false, false, false, false]
def ba10_10 : Array Bool := #[true, true, true, true, true, true, false, true, false, false, true, false]
def ba10_11 : Array Bool := #[true, true, true, true, true, true, true, true, true, false, false, false]
def ba10_12 : Array Bool := #[true, true, true, true, true, true, true, true, false, false, true, false]
def ba10_13 : Array Bool := #[true, true, true, true, true, true, true, true, true, true, false, false]
def ba10_14 : Array Bool := #[true, true, true, true, true, true, true, true, true, false, true, false]
def ba10_15 : Array Bool := #[true, true, true, true, true, true, true, true, true, true, true, true]

/-! ### impl_NextLsa: function 32 -/
def impl_NextLsa.f (k : Nat) (a0_0 : Int) (a0_1 : Int) (a0_2 : Int) (l0_3 : List (S70)) (l0_4 : List (S74)) (l1 : List (S70)) (l2 : List (S74)) : Option (Int × Int × Int × (List (S70)) × (List (S74)) × Bool) := (impl_LsaOk.f k a0_0 a0_1 a0_2 l0_3 l0_4).bind fun t230 => (if t230 = true then ((slices_Clone_impl_Link_impl_Link.f l1).bind fun t231 => ((slices_Clone_impl_Stub_impl_Stub.f l2).bind fun t234 => ((impl_LsaOk.f k a0_0 (wrap64 (a0_1 + 1)) 0 t231 t234).bind fun t238 => (if t238 = true then (some (a0_0, wrap64 (a0_1 + 1), 0, t231, t234, true)) else (some (0, 0, 0, ([] : List (S70)), ([] : List (S74)), false)))))) else (some (0, 0, 0, ([] : List (S70)), ([] : List (S74)), false)))
theorem impl_NextLsa.mono : ∀ a0 a1 a2 a3 a4 a5 a6 k, LeO (impl_NextLsa.f k a0 a1 a2 a3 a4 a5 a6) (impl_NextLsa.f (k + 1) a0 a1 a2 a3 a4 a5 a6) := by
 intro a0 a1 a2 a3 a4 a5 a6 k
 unfold impl_NextLsa.f
 repeat' first
   | (with_reducible exact impl_LsaOk.mono _ _ _ _ _ _)
   | (with_reducible exact LeO.refl _)
   | (with_reducible exact LeO.none _)
   | (with_reducible refine LeO.ite ?_ ?_)
   | (with_reducible refine LeO.bind ?_ (fun _ => ?_))
   | exact impl_LsaOk.mono _ _ _ _ _ _
   | exact LeO.none _
   | refine LeO.ite ?_ ?_
   | refine LeO.bind ?_ (fun _ => ?_)
def impl_NextLsa.T3 : Bool × List (List Nat × List Nat) := (true, [([], []), ([0], [0]), ([], []), ([2], [2]), ([3], [3]), ([], []), ([5], [5]), ([], []), ([7, 6], [7]), ([1, 4, 6, 8], [1, 4, 6, 8]), ([], []), ([10, 9, 8, 0, 1, 2, 3, 4, 5, 6, 7, 8, 9, 10], [9, 10])])
def impl_NextLsa.B3 : List Nat := [0, 1, 0, 4, 12, 0, 32, 0, 224, 511, 0, 2047]
theorem impl_NextLsa.tab3 : rtab .any (opsOf Try.f32 3) = impl_NextLsa.T3 := by kernel_rfl
theorem impl_NextLsa.bits3 : waitsOk impl_NextLsa.T3.2 impl_NextLsa.B3 = true := by kernel_rfl
set_option maxHeartbeats 8000000 in
set_option maxRecDepth 100000 in
theorem impl_NextLsa.calls (k : Nat) (a0_0 : Int) (a0_1 : Int) (a0_2 : Int) (A0_3 : Option Addr) (c0_3 : Nat) (l0_3 : List (S70)) (A0_4 : Option Addr) (c0_4 : Nat) (l0_4 : List (S74)) (A1 : Option Addr) (c1 : Nat) (l1 : List (S70)) (A2 : Option Addr) (c2 : Nat) (l2 : List (S74)) (r1 : Int) (r2 : Int) (r3 : Int) (r4 : List (S70)) (r5 : List (S74)) (r6 : Bool) (w : World) (hr0_3 : Kd.C k70 w A0_3 l0_3.length l0_3) (hc0_3 : l0_3.length ≤ c0_3) (hr0_4 : Kd.C k74 w A0_4 l0_4.length l0_4) (hc0_4 : l0_4.length ≤ c0_4) (hr1 : Kd.C k70 w A1 l1.length l1) (hc1 : l1.length ≤ c1) (hr2 : Kd.C k74 w A2 l2.length l2) (hc2 : l2.length ≤ c2) (h : impl_NextLsa.f k a0_0 a0_1 a0_2 l0_3 l0_4 l1 l2 = some (r1, r2, r3, r4, r5, r6)) :
  Calls Try.prog 32 #[.agg #[.int .i64 a0_0, .int .i64 a0_1, .int .i64 a0_2, .slice A0_3 l0_3.length c0_3, .slice A0_4 l0_4.length c0_4], .slice A1 l1.length c1, .slice A2 l2.length c2] w fun e w' => ∃ v3_ v4_ : Value, e = .returned (.tuple #[.agg #[.int .i64 r1, .int .i64 r2, .int .i64 r3, v3_, v4_], .bool r6]) ∧ Kd.R k70 70 w' w.heap.size (fun _ => True) v3_ r4 ∧ Kd.R k74 74 w' w.heap.size (fun _ => True) v4_ r5 ∧ Below w.heap.size w w' := by
 have hu31 := Try.underlying31
 have HR0_3 := Aside0.mk hr0_3
 have HC0_3 := Aside0.mk hc0_3
 clear hr0_3 hc0_3
 have HR0_4 := Aside0.mk hr0_4
 have HC0_4 := Aside0.mk hc0_4
 clear hr0_4 hc0_4
 have HR1 := Aside0.mk hr1
 have HC1 := Aside0.mk hc1
 clear hr1 hc1
 have HR2 := Aside0.mk hr2
 have HC2 := Aside0.mk hc2
 clear hr2 hc2
 have HB := Aside0.mk (Below.refl w.heap.size w)
 have H : ((impl_LsaOk.f k a0_0 a0_1 a0_2 l0_3 l0_4).bind fun t230 => (if t230 = true then ((slices_Clone_impl_Link_impl_Link.f l1).bind fun t231 => ((slices_Clone_impl_Stub_impl_Stub.f l2).bind fun t234 => ((impl_LsaOk.f k a0_0 (wrap64 (a0_1 + 1)) 0 t231 t234).bind fun t238 => (if t238 = true then (some (a0_0, wrap64 (a0_1 + 1), 0, t231, t234, true)) else (some (0, 0, 0, ([] : List (S70)), ([] : List (S74)), false)))))) else (some (0, 0, 0, ([] : List (S70)), ([] : List (S74)), false)))) = some (r1, r2, r3, r4, r5, r6) := h
 clear h
 replace H := Option.bind_eq_some_iff.mp H
 obtain ⟨t230, A40, H⟩ := H
 have A4 := Aside0.mk A40
 clear A40
 by_cases c5 : t230 = true
 ·subst c5
  rw [if_pos rfl] at H
  replace H := Option.bind_eq_some_iff.mp H
  obtain ⟨t231, A60, H⟩ := H
  have A6 := Aside0.mk A60
  clear A60
  replace H := Option.bind_eq_some_iff.mp H
  obtain ⟨t234, A70, H⟩ := H
  have A7 := Aside0.mk A70
  clear A70
  replace H := Option.bind_eq_some_iff.mp H
  obtain ⟨t238, A80, H⟩ := H
  have A8 := Aside0.mk A80
  clear A80
  by_cases c9 : t238 = true
  ·subst c9
   rw [if_pos rfl] at H
   simp only [Option.some.injEq, Prod.mk.injEq] at H
   obtain ⟨rfl, rfl, rfl, rfl, rfl, rfl⟩ := H
   go_enter Try.func32, Try.ntmps32
   try go_wp2_with (first | ((with_reducible refine gate_dst (N := 3) rfl ?_); refine box_event ?hg (N := 3) ?hd (cs := #[.int .i64 a0_0, .int .i64 a0_1, .int .i64 a0_2, .slice A0_3 l0_3.length c0_3, .slice A0_4 l0_4.length c0_4]) (t := 31) ?hr ?_; (case hd => rfl); (case hg => rfl); (case hr => first | (go_simp; done) | (go_simp; rfl)); intro gb228 hg w10 hbox hb; have BK228 := Aside0.mk hbox; have GW228 := ge_ HB hg; have GE228 := ge_ HB hg; replace HB := Aside0.mk (bt_ HB hb); clear hb hbox hg) | ((with_reducible refine gate_dst (N := 6) rfl ?_); refine box_event ?hg (N := 6) ?hd (cs := #[.int .i64 0, .int .i64 0, .int .i64 0, .slice none 0 0, .slice none 0 0]) (t := 31) ?hr ?_; (case hd => rfl); (case hg => rfl); (case hr => first | (go_simp; done) | (go_simp; rfl)); intro gb229 hg w11 hbox hb; have BK229 := Aside0.mk hbox; have GW229 := ge_ HB hg; have GE229 := ge_ HB hg; have NB228_229 := nl_ BK228 hg; have NB229_228 := ng_ BK228 hg; replace HB := Aside0.mk (bt_ HB hb); replace BK228 := Aside0.mk (bb_ BK228 hb); clear hb hbox hg; have hnb12 := NB228_229.out; have hnc12 := NB229_228.out; have hcz13_0 := cz_ BK228 0 (.int .i64 a0_0); have hcz13_1 := cz_ BK228 1 (.int .i64 a0_1); have hcz13_2 := cz_ BK228 2 (.int .i64 a0_2); have hcz13_3 := cz_ BK228 3 (.slice A0_3 l0_3.length c0_3); have hcz13_4 := cz_ BK228 4 (.slice A0_4 l0_4.length c0_4); have hfz13_0 := blk_frozen BK228.out 0; have hfz13_1 := blk_frozen BK228.out 1; have hfz13_2 := blk_frozen BK228.out 2; have hfz13_3 := blk_frozen BK228.out 3; have hfz13_4 := blk_frozen BK228.out 4) | ((with_reducible refine gate_callee (f := 16) rfl ?_); refine gl_ (some 10) Try.func16 #[.agg #[.int .i64 a0_0, .int .i64 a0_1, .int .i64 a0_2, .slice A0_3 l0_3.length c0_3, .slice A0_4 l0_4.length c0_4]] ?_; (with_reducible refine (impl_LsaOk.calls k a0_0 a0_1 a0_2 _ _ l0_3 _ _ l0_4 true _ ?side1 ?side2 ?side3 ?side4 A4.out).mono ?_); (case side1 => exact cb_ HR0_3 HB); (case side2 => exact HC0_3.out); (case side3 => exact cb_ HR0_4 HB); (case side4 => exact HC0_4.out); rintro e w14 ⟨rfl, hb⟩; refine ⟨_, rfl, ?_⟩; replace BK228 := Aside0.mk (bb_ BK228 hb); replace BK229 := Aside0.mk (bb_ BK229 hb); replace HB := Aside0.mk (bt_ HB hb); (try clear hb); (try clear hb2); (try clear hk); (try clear hi)))
   replace BK228 := Aside0.mk (blk_drew BK228.out)
   replace BK229 := Aside0.mk (blk_drew BK229.out)
   replace HB := Aside0.mk (below_drew1 HB.out)
   refine start_ (n := 12) (S := fun w' => w'.cell? ⟨gb228, 0, none⟩ = some (.int .i64 a0_0) ∧ w'.cell? ⟨gb228, 1, none⟩ = some (.int .i64 a0_1) ∧ w'.cell? ⟨gb228, 2, none⟩ = some (.int .i64 a0_2) ∧ w'.cell? ⟨gb228, 3, none⟩ = some (.slice A0_3 l0_3.length c0_3) ∧ w'.cell? ⟨gb228, 4, none⟩ = some (.slice A0_4 l0_4.length c0_4)) (ds := []) ba10_0 (by kernel_rfl) rfl rfl ⟨(blk_cell BK228.out 0).trans rfl, (blk_cell BK228.out 1).trans rfl, (blk_cell BK228.out 2).trans rfl, (blk_cell BK228.out 3).trans rfl, (blk_cell BK228.out 4).trans rfl⟩ (fun hHeld => ?_); refine with_tabW impl_NextLsa.tab3 impl_NextLsa.bits3 (fun HT_ HW_ => ?_)
   generalize w14.drew = w15 at BK228 BK229 HB hHeld ⊢
   refine pz_ 0 13 ba10_1 HT_ ?_
   refine pz_ 2 15 ba10_2 HT_ ?_
   refine pz_ 5 18 ba10_3 HT_ ?_
   refine pz_ 7 20 ba10_4 HT_ ?_
   refine pt_ 1 14 ba10_5 HT_ HW_ hHeld ?_
   refine pt_ 3 16 ba10_6 HT_ HW_ hHeld ?_
   refine pz_ 4 17 ba10_7 HT_ ?_
   refine join_ (σ := Value × Value × Nat) 1 ba10_8 (fun s_ => [(19, s_.1), (21, s_.2.1), (8, .pointer (some ⟨s_.2.2, 0, none⟩)), (22, .agg #[.int .i64 a0_0, .int .i64 (wrap64 (a0_1 + 1)), .int .i64 0, s_.1, s_.2.1])]) (fun s_ w' => (w'.cell? ⟨gb228, 0, none⟩ = some (.int .i64 a0_0) ∧ w'.cell? ⟨gb228, 1, none⟩ = some (.int .i64 a0_1) ∧ w'.cell? ⟨gb228, 2, none⟩ = some (.int .i64 a0_2) ∧ w'.cell? ⟨gb228, 3, none⟩ = some (.slice A0_3 l0_3.length c0_3) ∧ w'.cell? ⟨gb228, 4, none⟩ = some (.slice A0_4 l0_4.length c0_4)) ∧ (Kd.R k70 70 w' w.heap.size (fun _ => True) s_.1 t231) ∧ (Kd.R k74 74 w' w.heap.size (fun _ => True) s_.2.1 t234) ∧ (w'.heap[gb228]? = some (.cells #[.int .i64 a0_0, .int .i64 a0_1, .int .i64 a0_2, .slice A0_3 l0_3.length c0_3, .slice A0_4 l0_4.length c0_4] 31 (0, 0))) ∧ (w'.heap[gb229]? = some (.cells #[.int .i64 0, .int .i64 0, .int .i64 0, .slice none 0 0, .slice none 0 0] 31 (0, 0))) ∧ (w'.heap[s_.2.2]? = some (.cells #[.int .i64 0, .int .i64 0, .int .i64 0, .slice none 0 0, .slice none 0 0] 31 (0, 0))) ∧ (w.heap.size ≤ s_.2.2) ∧ (w.heap.size ≤ s_.2.2) ∧ (gb228 ≠ s_.2.2) ∧ (s_.2.2 ≠ gb228) ∧ (gb229 ≠ s_.2.2) ∧ (s_.2.2 ≠ gb229) ∧ (Below w.heap.size w w')) ?_ ?_
   rotate_left
   ·intro hCont
    refine two_ (i := 6) (j := 10) (Ni := some 19) (Nj := some 8) ba10_9 ba10_10 rfl rfl rfl rfl (two_of HT_.out (by kernel_rfl)) (by decide) (by decide) (fun K hK => ?_) (fun K hK => ?_)
    ·skip
     refine gz_ Try.func67 #[.slice A1 l1.length c1] ?_
     with_reducible refine (slices_Clone_impl_Link_impl_Link.calls _ _ l1 t231 _ ?side1 ?side2 A6.out).mono ?_
     (case side1 => exact cb_ HR1 HB)
     (case side2 => exact HC1.out)
     rintro e w16 ⟨v232, rfl, ho0, hb⟩
     refine ⟨_, rfl, ?_⟩
     have HO233 := Aside0.mk (Kd.R_lower ho0 (bz_ HB))
     replace BK228 := Aside0.mk (bb_ BK228 hb)
     replace BK229 := Aside0.mk (bb_ BK229 hb)
     replace HB := Aside0.mk (bt_ HB hb)
     (try clear hb)
     (try clear hb2)
     (try clear hk)
     (try clear hi)
     (try clear ho0)
     refine hK.out _ _ ⟨(blk_cell BK228.out 0).trans rfl, (blk_cell BK228.out 1).trans rfl, (blk_cell BK228.out 2).trans rfl, (blk_cell BK228.out 3).trans rfl, (blk_cell BK228.out 4).trans rfl⟩ (fun hHeld => ?_)
     clear hK K
     refine nz_ 19 ?_
     refine two_ (i := 8) (j := 10) (Ni := some 21) (Nj := some 8) ba10_11 ba10_12 rfl rfl rfl rfl (two_of HT_.out (by kernel_rfl)) (by decide) (by decide) (fun K hK => ?_) (fun K hK => ?_)
     ·skip
      refine gz_ Try.func68 #[.slice A2 l2.length c2] ?_
      with_reducible refine (slices_Clone_impl_Stub_impl_Stub.calls _ _ l2 t234 _ ?side1 ?side2 A7.out).mono ?_
      (case side1 => exact cb_ HR2 HB)
      (case side2 => exact HC2.out)
      rintro e w17 ⟨v235, rfl, ho0, hb⟩
      refine ⟨_, rfl, ?_⟩
      have HO236 := Aside0.mk (Kd.R_lower ho0 (bz_ HB))
      replace HO233 := rb_ HO233 hb
      replace BK228 := Aside0.mk (bb_ BK228 hb)
      replace BK229 := Aside0.mk (bb_ BK229 hb)
      replace HB := Aside0.mk (bt_ HB hb)
      (try clear hb)
      (try clear hb2)
      (try clear hk)
      (try clear hi)
      (try clear ho0)
      obtain ⟨Ao18, co18, eo18⟩ := Kd.R_slice HO236.out
      (first | subst eo18 | (injection eo18 with f1_ f2_ f3_; have f4_ := f1_.symm; have f5_ := f3_.symm; clear f1_ f2_ f3_; subst f4_; subst f5_))
      obtain ⟨Ao19, co19, eo19⟩ := Kd.R_slice HO233.out
      (first | subst eo19 | (injection eo19 with f1_ f2_ f3_; have f4_ := f1_.symm; have f5_ := f3_.symm; clear f1_ f2_ f3_; subst f4_; subst f5_))
      refine hK.out _ _ ⟨(blk_cell BK228.out 0).trans rfl, (blk_cell BK228.out 1).trans rfl, (blk_cell BK228.out 2).trans rfl, (blk_cell BK228.out 3).trans rfl, (blk_cell BK228.out 4).trans rfl⟩ (fun hHeld => ?_)
      clear hK K
      refine nz_ 21 ?_
      refine pz_ 9 22 ba10_13 HT_ ?_
      refine one_ (i := 10) (N := some 8) ba10_8 rfl rfl (one_of HT_.out (by kernel_rfl)) (by decide) (fun K hK => ?_)
      refine box_step ?hg (N := 8) ?hd (cs := #[.int .i64 0, .int .i64 0, .int .i64 0, .slice none 0 0, .slice none 0 0]) (t := 31) ?hr ?_; (case hd => rfl); (case hg => rfl); (case hr => first | (go_simp; done) | (go_simp; rfl))
      intro gb237 hg w20 hbox hb
      have BK237 := Aside0.mk hbox
      have GW237 := ge_ HB hg
      have GE237 := ge_ HB hg
      have NB228_237 := nl_ BK228 hg
      have NB237_228 := ng_ BK228 hg
      have NB229_237 := nl_ BK229 hg
      have NB237_229 := ng_ BK229 hg
      replace HO233 := rb_ HO233 hb
      replace HO236 := rb_ HO236 hb
      replace HB := Aside0.mk (bt_ HB hb)
      replace BK228 := Aside0.mk (bb_ BK228 hb)
      replace BK229 := Aside0.mk (bb_ BK229 hb)
      clear hb hbox hg
      refine hK.out _ _ ⟨(blk_cell BK228.out 0).trans rfl, (blk_cell BK228.out 1).trans rfl, (blk_cell BK228.out 2).trans rfl, (blk_cell BK228.out 3).trans rfl, (blk_cell BK228.out 4).trans rfl⟩ (fun hHeld => ?_)
      clear hK K
      refine nz_ 8 ?_
      exact norm_ (by simp only [putAll, Act.put, List.setIfInBounds_toArray, List.set_cons_zero, List.set_cons_succ]) (hCont (.slice Ao19 t231.length co19, .slice Ao18 t234.length co18, gb237) _ ⟨hHeld, (hd_ HO233), (hd_ HO236), (by (with_reducible repeat (first | refine blk_drewN ?_ _ | refine blk_drew ?_ | refine blk_alloc ?_ _)); exact BK228.out), (by (with_reducible repeat (first | refine blk_drewN ?_ _ | refine blk_drew ?_ | refine blk_alloc ?_ _)); exact BK229.out), (by (with_reducible repeat (first | refine blk_drewN ?_ _ | refine blk_drew ?_ | refine blk_alloc ?_ _)); exact BK237.out), GW237.out, GE237.out, NB228_237.out, NB237_228.out, NB229_237.out, NB237_229.out, (by repeat (first | (with_reducible first | exact HB.out | apply below_alloc | apply pw_below_drewN | apply below_drew1 | refine below_set ?_ GE228.out | refine below_set ?_ GE229.out | refine below_set ?_ GE237.out) | exact HB.out))⟩)
     ·skip
      refine box_step ?hg (N := 8) ?hd (cs := #[.int .i64 0, .int .i64 0, .int .i64 0, .slice none 0 0, .slice none 0 0]) (t := 31) ?hr ?_; (case hd => rfl); (case hg => rfl); (case hr => first | (go_simp; done) | (go_simp; rfl))
      intro gb237 hg w17 hbox hb
      have BK237 := Aside0.mk hbox
      have GW237 := ge_ HB hg
      have GE237 := ge_ HB hg
      have NB228_237 := nl_ BK228 hg
      have NB237_228 := ng_ BK228 hg
      have NB229_237 := nl_ BK229 hg
      have NB237_229 := ng_ BK229 hg
      replace HO233 := rb_ HO233 hb
      replace HB := Aside0.mk (bt_ HB hb)
      replace BK228 := Aside0.mk (bb_ BK228 hb)
      replace BK229 := Aside0.mk (bb_ BK229 hb)
      clear hb hbox hg
      refine hK.out _ _ ⟨(blk_cell BK228.out 0).trans rfl, (blk_cell BK228.out 1).trans rfl, (blk_cell BK228.out 2).trans rfl, (blk_cell BK228.out 3).trans rfl, (blk_cell BK228.out 4).trans rfl⟩ (fun hHeld => ?_)
      clear hK K
      refine nz_ 8 ?_
      refine one_ (i := 8) (N := some 21) ba10_14 rfl rfl (one_of HT_.out (by kernel_rfl)) (by decide) (fun K hK => ?_)
      refine gz_ Try.func68 #[.slice A2 l2.length c2] ?_
      with_reducible refine (slices_Clone_impl_Stub_impl_Stub.calls _ _ l2 t234 _ ?side1 ?side2 A7.out).mono ?_
      (case side1 => exact cb_ HR2 HB)
      (case side2 => exact HC2.out)
      rintro e w18 ⟨v235, rfl, ho0, hb⟩
      refine ⟨_, rfl, ?_⟩
      have HO236 := Aside0.mk (Kd.R_lower ho0 (bz_ HB))
      replace HO233 := rb_ HO233 hb
      replace BK228 := Aside0.mk (bb_ BK228 hb)
      replace BK229 := Aside0.mk (bb_ BK229 hb)
      replace BK237 := Aside0.mk (bb_ BK237 hb)
      replace HB := Aside0.mk (bt_ HB hb)
      (try clear hb)
      (try clear hb2)
      (try clear hk)
      (try clear hi)
      (try clear ho0)
      obtain ⟨Ao19, co19, eo19⟩ := Kd.R_slice HO236.out
      (first | subst eo19 | (injection eo19 with f1_ f2_ f3_; have f4_ := f1_.symm; have f5_ := f3_.symm; clear f1_ f2_ f3_; subst f4_; subst f5_))
      obtain ⟨Ao20, co20, eo20⟩ := Kd.R_slice HO233.out
      (first | subst eo20 | (injection eo20 with f1_ f2_ f3_; have f4_ := f1_.symm; have f5_ := f3_.symm; clear f1_ f2_ f3_; subst f4_; subst f5_))
      refine hK.out _ _ ⟨(blk_cell BK228.out 0).trans rfl, (blk_cell BK228.out 1).trans rfl, (blk_cell BK228.out 2).trans rfl, (blk_cell BK228.out 3).trans rfl, (blk_cell BK228.out 4).trans rfl⟩ (fun hHeld => ?_)
      clear hK K
      refine nz_ 21 ?_
      refine pz_ 9 22 ba10_8 HT_ ?_
      exact norm_ (by simp only [putAll, Act.put, List.setIfInBounds_toArray, List.set_cons_zero, List.set_cons_succ]) (hCont (.slice Ao20 t231.length co20, .slice Ao19 t234.length co19, gb237) _ ⟨hHeld, (hd_ HO233), (hd_ HO236), (by (with_reducible repeat (first | refine blk_drewN ?_ _ | refine blk_drew ?_ | refine blk_alloc ?_ _)); exact BK228.out), (by (with_reducible repeat (first | refine blk_drewN ?_ _ | refine blk_drew ?_ | refine blk_alloc ?_ _)); exact BK229.out), (by (with_reducible repeat (first | refine blk_drewN ?_ _ | refine blk_drew ?_ | refine blk_alloc ?_ _)); exact BK237.out), GW237.out, GE237.out, NB228_237.out, NB237_228.out, NB229_237.out, NB237_229.out, (by repeat (first | (with_reducible first | exact HB.out | apply below_alloc | apply pw_below_drewN | apply below_drew1 | refine below_set ?_ GE228.out | refine below_set ?_ GE229.out | refine below_set ?_ GE237.out) | exact HB.out))⟩)
    ·skip
     refine box_step ?hg (N := 8) ?hd (cs := #[.int .i64 0, .int .i64 0, .int .i64 0, .slice none 0 0, .slice none 0 0]) (t := 31) ?hr ?_; (case hd => rfl); (case hg => rfl); (case hr => first | (go_simp; done) | (go_simp; rfl))
     intro gb237 hg w16 hbox hb
     have BK237 := Aside0.mk hbox
     have GW237 := ge_ HB hg
     have GE237 := ge_ HB hg
     have NB228_237 := nl_ BK228 hg
     have NB237_228 := ng_ BK228 hg
     have NB229_237 := nl_ BK229 hg
     have NB237_229 := ng_ BK229 hg
     replace HB := Aside0.mk (bt_ HB hb)
     replace BK228 := Aside0.mk (bb_ BK228 hb)
     replace BK229 := Aside0.mk (bb_ BK229 hb)
     clear hb hbox hg
     refine hK.out _ _ ⟨(blk_cell BK228.out 0).trans rfl, (blk_cell BK228.out 1).trans rfl, (blk_cell BK228.out 2).trans rfl, (blk_cell BK228.out 3).trans rfl, (blk_cell BK228.out 4).trans rfl⟩ (fun hHeld => ?_)
     clear hK K
     refine nz_ 8 ?_
     refine one_ (i := 6) (N := some 19) ba10_12 rfl rfl (one_of HT_.out (by kernel_rfl)) (by decide) (fun K hK => ?_)
     refine gz_ Try.func67 #[.slice A1 l1.length c1] ?_
     with_reducible refine (slices_Clone_impl_Link_impl_Link.calls _ _ l1 t231 _ ?side1 ?side2 A6.out).mono ?_
     (case side1 => exact cb_ HR1 HB)
     (case side2 => exact HC1.out)
     rintro e w17 ⟨v232, rfl, ho0, hb⟩
     refine ⟨_, rfl, ?_⟩
     have HO233 := Aside0.mk (Kd.R_lower ho0 (bz_ HB))
     replace BK228 := Aside0.mk (bb_ BK228 hb)
     replace BK229 := Aside0.mk (bb_ BK229 hb)
     replace BK237 := Aside0.mk (bb_ BK237 hb)
     replace HB := Aside0.mk (bt_ HB hb)
     (try clear hb)
     (try clear hb2)
     (try clear hk)
     (try clear hi)
     (try clear ho0)
     refine hK.out _ _ ⟨(blk_cell BK228.out 0).trans rfl, (blk_cell BK228.out 1).trans rfl, (blk_cell BK228.out 2).trans rfl, (blk_cell BK228.out 3).trans rfl, (blk_cell BK228.out 4).trans rfl⟩ (fun hHeld => ?_)
     clear hK K
     refine nz_ 19 ?_
     refine one_ (i := 8) (N := some 21) ba10_14 rfl rfl (one_of HT_.out (by kernel_rfl)) (by decide) (fun K hK => ?_)
     refine gz_ Try.func68 #[.slice A2 l2.length c2] ?_
     with_reducible refine (slices_Clone_impl_Stub_impl_Stub.calls _ _ l2 t234 _ ?side1 ?side2 A7.out).mono ?_
     (case side1 => exact cb_ HR2 HB)
     (case side2 => exact HC2.out)
     rintro e w18 ⟨v235, rfl, ho0, hb⟩
     refine ⟨_, rfl, ?_⟩
     have HO236 := Aside0.mk (Kd.R_lower ho0 (bz_ HB))
     replace HO233 := rb_ HO233 hb
     replace BK228 := Aside0.mk (bb_ BK228 hb)
     replace BK229 := Aside0.mk (bb_ BK229 hb)
     replace BK237 := Aside0.mk (bb_ BK237 hb)
     replace HB := Aside0.mk (bt_ HB hb)
     (try clear hb)
     (try clear hb2)
     (try clear hk)
     (try clear hi)
     (try clear ho0)
     obtain ⟨Ao19, co19, eo19⟩ := Kd.R_slice HO236.out
     (first | subst eo19 | (injection eo19 with f1_ f2_ f3_; have f4_ := f1_.symm; have f5_ := f3_.symm; clear f1_ f2_ f3_; subst f4_; subst f5_))
     obtain ⟨Ao20, co20, eo20⟩ := Kd.R_slice HO233.out
     (first | subst eo20 | (injection eo20 with f1_ f2_ f3_; have f4_ := f1_.symm; have f5_ := f3_.symm; clear f1_ f2_ f3_; subst f4_; subst f5_))
     refine hK.out _ _ ⟨(blk_cell BK228.out 0).trans rfl, (blk_cell BK228.out 1).trans rfl, (blk_cell BK228.out 2).trans rfl, (blk_cell BK228.out 3).trans rfl, (blk_cell BK228.out 4).trans rfl⟩ (fun hHeld => ?_)
     clear hK K
     refine nz_ 21 ?_
     refine pz_ 9 22 ba10_8 HT_ ?_
     exact norm_ (by simp only [putAll, Act.put, List.setIfInBounds_toArray, List.set_cons_zero, List.set_cons_succ]) (hCont (.slice Ao20 t231.length co20, .slice Ao19 t234.length co19, gb237) _ ⟨hHeld, (hd_ HO233), (hd_ HO236), (by (with_reducible repeat (first | refine blk_drewN ?_ _ | refine blk_drew ?_ | refine blk_alloc ?_ _)); exact BK228.out), (by (with_reducible repeat (first | refine blk_drewN ?_ _ | refine blk_drew ?_ | refine blk_alloc ?_ _)); exact BK229.out), (by (with_reducible repeat (first | refine blk_drewN ?_ _ | refine blk_drew ?_ | refine blk_alloc ?_ _)); exact BK237.out), GW237.out, GE237.out, NB228_237.out, NB237_228.out, NB229_237.out, NB237_229.out, (by repeat (first | (with_reducible first | exact HB.out | apply below_alloc | apply pw_below_drewN | apply below_drew1 | refine below_set ?_ GE228.out | refine below_set ?_ GE229.out | refine below_set ?_ GE237.out) | exact HB.out))⟩)
   rintro ⟨v232, v235, gb237⟩ w21 ⟨hS_, h0_, h1_, h2_, h3_, h4_, h5_, h6_, h7_, h8_, h9_, h10_, h11_⟩
   have HO233 : Aside0 (Kd.R k70 70 w21 w.heap.size (fun _ => True) v232 t231) := ⟨h0_⟩
   have HO236 : Aside0 (Kd.R k74 74 w21 w.heap.size (fun _ => True) v235 t234) := ⟨h1_⟩
   have BK237 : Aside0 (w21.heap[gb237]? = some (.cells #[.int .i64 0, .int .i64 0, .int .i64 0, .slice none 0 0, .slice none 0 0] 31 (0, 0))) := ⟨h4_⟩
   have GW237 : Aside0 (w.heap.size ≤ gb237) := ⟨h5_⟩
   have GE237 : Aside0 (w.heap.size ≤ gb237) := ⟨h6_⟩
   have NB228_237 : Aside0 (gb228 ≠ gb237) := ⟨h7_⟩
   have NB237_228 : Aside0 (gb237 ≠ gb228) := ⟨h8_⟩
   have NB229_237 : Aside0 (gb229 ≠ gb237) := ⟨h9_⟩
   have NB237_229 : Aside0 (gb237 ≠ gb229) := ⟨h10_⟩
   replace BK228 : Aside0 (w21.heap[gb228]? = some (.cells #[.int .i64 a0_0, .int .i64 a0_1, .int .i64 a0_2, .slice A0_3 l0_3.length c0_3, .slice A0_4 l0_4.length c0_4] 31 (0, 0))) := ⟨h2_⟩
   replace BK229 : Aside0 (w21.heap[gb229]? = some (.cells #[.int .i64 0, .int .i64 0, .int .i64 0, .slice none 0 0, .slice none 0 0] 31 (0, 0))) := ⟨h3_⟩
   replace HB : Aside0 (Below w.heap.size w w21) := ⟨h11_⟩
   clear h0_ h1_ h2_ h3_ h4_ h5_ h6_ h7_ h8_ h9_ h10_ h11_
   have hHeld : w21.cell? ⟨gb228, 0, none⟩ = some (.int .i64 a0_0) ∧ w21.cell? ⟨gb228, 1, none⟩ = some (.int .i64 a0_1) ∧ w21.cell? ⟨gb228, 2, none⟩ = some (.int .i64 a0_2) ∧ w21.cell? ⟨gb228, 3, none⟩ = some (.slice A0_3 l0_3.length c0_3) ∧ w21.cell? ⟨gb228, 4, none⟩ = some (.slice A0_4 l0_4.length c0_4) := hS_
   obtain ⟨Ao22, co22, eo22⟩ := Kd.R_slice HO236.out
   (first | subst eo22 | (injection eo22 with f1_ f2_ f3_; have f4_ := f1_.symm; have f5_ := f3_.symm; clear f1_ f2_ f3_; subst f4_; subst f5_))
   obtain ⟨Ao23, co23, eo23⟩ := Kd.R_slice HO233.out
   (first | subst eo23 | (injection eo23 with f1_ f2_ f3_; have f4_ := f1_.symm; have f5_ := f3_.symm; clear f1_ f2_ f3_; subst f4_; subst f5_))
   refine norm_ (a' := ?_) ?_ ?_
   rotate_left; · simp only [putAll, Act.put, List.setIfInBounds_toArray, List.set_cons_zero, List.set_cons_succ]; rfl
   refine one_ (i := 11) (N := none) ba10_15 rfl rfl (one_of HT_.out (by kernel_rfl)) (by decide) (fun K hK => ?_)
   have hs24 : w21.cell? ⟨gb237, 0, none⟩ = some (.int .i64 0) := (blk_cell BK237.out 0).trans rfl
   have hfs24 := blk_frozen BK237.out 0
   have hns24_0 := NB228_237.out
   have hns24_1 := NB229_237.out
   have hms24_0 := NB237_228.out
   have hms24_1 := NB237_229.out
   have hs25 : w21.cell? ⟨gb237, 1, none⟩ = some (.int .i64 0) := (blk_cell BK237.out 1).trans rfl
   have hfs25 := blk_frozen BK237.out 1
   have hns25_0 := NB228_237.out
   have hns25_1 := NB229_237.out
   have hms25_0 := NB237_228.out
   have hms25_1 := NB237_229.out
   have hs26 : w21.cell? ⟨gb237, 2, none⟩ = some (.int .i64 0) := (blk_cell BK237.out 2).trans rfl
   have hfs26 := blk_frozen BK237.out 2
   have hns26_0 := NB228_237.out
   have hns26_1 := NB229_237.out
   have hms26_0 := NB237_228.out
   have hms26_1 := NB237_229.out
   have hs27 : w21.cell? ⟨gb237, 3, none⟩ = some (.slice none 0 0) := (blk_cell BK237.out 3).trans rfl
   have hfs27 := blk_frozen BK237.out 3
   have hns27_0 := NB228_237.out
   have hns27_1 := NB229_237.out
   have hms27_0 := NB237_228.out
   have hms27_1 := NB237_229.out
   have hs28 : w21.cell? ⟨gb237, 4, none⟩ = some (.slice none 0 0) := (blk_cell BK237.out 4).trans rfl
   have hfs28 := blk_frozen BK237.out 4
   have hns28_0 := NB228_237.out
   have hns28_1 := NB229_237.out
   have hms28_0 := NB237_228.out
   have hms28_1 := NB237_229.out
   refine skip_ (w1 := ?_) (by rfl) rfl ?_ ?_
   rotate_left; · go_simp; rfl
   refine hK.out _ _ ⟨((cell_far (p := ⟨gb237, _, none⟩) NB228_237.out _).trans (((cell_far (p := ⟨gb237, _, none⟩) NB228_237.out _).trans (((cell_far (p := ⟨gb237, _, none⟩) NB228_237.out _).trans (((cell_far (p := ⟨gb237, _, none⟩) NB228_237.out _).trans (((cell_far (p := ⟨gb237, _, none⟩) NB228_237.out _).trans (hHeld.1)))))))))), ((cell_far (p := ⟨gb237, _, none⟩) NB228_237.out _).trans (((cell_far (p := ⟨gb237, _, none⟩) NB228_237.out _).trans (((cell_far (p := ⟨gb237, _, none⟩) NB228_237.out _).trans (((cell_far (p := ⟨gb237, _, none⟩) NB228_237.out _).trans (((cell_far (p := ⟨gb237, _, none⟩) NB228_237.out _).trans (hHeld.2.1)))))))))), ((cell_far (p := ⟨gb237, _, none⟩) NB228_237.out _).trans (((cell_far (p := ⟨gb237, _, none⟩) NB228_237.out _).trans (((cell_far (p := ⟨gb237, _, none⟩) NB228_237.out _).trans (((cell_far (p := ⟨gb237, _, none⟩) NB228_237.out _).trans (((cell_far (p := ⟨gb237, _, none⟩) NB228_237.out _).trans (hHeld.2.2.1)))))))))), ((cell_far (p := ⟨gb237, _, none⟩) NB228_237.out _).trans (((cell_far (p := ⟨gb237, _, none⟩) NB228_237.out _).trans (((cell_far (p := ⟨gb237, _, none⟩) NB228_237.out _).trans (((cell_far (p := ⟨gb237, _, none⟩) NB228_237.out _).trans (((cell_far (p := ⟨gb237, _, none⟩) NB228_237.out _).trans (hHeld.2.2.2.1)))))))))), ((cell_far (p := ⟨gb237, _, none⟩) NB228_237.out _).trans (((cell_far (p := ⟨gb237, _, none⟩) NB228_237.out _).trans (((cell_far (p := ⟨gb237, _, none⟩) NB228_237.out _).trans (((cell_far (p := ⟨gb237, _, none⟩) NB228_237.out _).trans (((cell_far (p := ⟨gb237, _, none⟩) NB228_237.out _).trans (hHeld.2.2.2.2))))))))))⟩ (fun hHeld => ?_)
   clear hK K
   refine done_ (done_of HT_.out (by kernel_rfl)) ?_
   have hnb29 := NB237_228.out
   have hnc29 := NB228_237.out
   have hnb30 := NB237_229.out
   have hnc30 := NB229_237.out
   have hcz31_0 := cz_ BK237 0 (.int .i64 0)
   have hcz31_1 := cz_ BK237 1 (.int .i64 0)
   have hcz31_2 := cz_ BK237 2 (.int .i64 0)
   have hcz31_3 := cz_ BK237 3 (.slice none 0 0)
   have hcz31_4 := cz_ BK237 4 (.slice none 0 0)
   have hfz31_0 := blk_frozen BK237.out 0
   have hfz31_1 := blk_frozen BK237.out 1
   have hfz31_2 := blk_frozen BK237.out 2
   have hfz31_3 := blk_frozen BK237.out 3
   have hfz31_4 := blk_frozen BK237.out 4
   try go_wp2_with (first | ((with_reducible refine gate_callee (f := 16) rfl ?_); refine gl_ (some 24) Try.func16 #[.agg #[.int .i64 a0_0, .int .i64 (wrap64 (a0_1 + 1)), .int .i64 0, .slice Ao23 t231.length co23, .slice Ao22 t234.length co22]] ?_; (with_reducible refine (impl_LsaOk.calls k a0_0 (wrap64 (a0_1 + 1)) 0 _ _ t231 _ _ t234 true _ ?side1 ?side2 ?side3 ?side4 A8.out).mono ?_); (case side1 => refine (Kd.R_reads' (e := 70) (base := w.heap.size) (ok := fun k_ => True) (n := t231.length) (c := co23) ?_).2.2; exact (hs_ HO233 BK237)); (case side2 => exact (Kd.R_reads' HO233.out).2.1); (case side3 => refine (Kd.R_reads' (e := 74) (base := w.heap.size) (ok := fun k_ => True) (n := t234.length) (c := co22) ?_).2.2; exact (hs_ HO236 BK237)); (case side4 => exact (Kd.R_reads' HO236.out).2.1); rintro e w32 ⟨rfl, hb⟩; refine ⟨_, rfl, ?_⟩; replace HO233 := rs_ HO233 BK237 hb; replace HO236 := rs_ HO236 BK237 hb; replace BK228 := bf_ BK228 NB228_237 hb; replace BK229 := bf_ BK229 NB229_237 hb; replace BK237 := Aside0.mk (blk_below (g := gb237) (o := .cells #[.int .i64 a0_0, .int .i64 (wrap64 (a0_1 + 1)), .int .i64 0, .slice Ao23 t231.length co23, .slice Ao22 t234.length co22] 31 (0, 0)) (by (with_reducible repeat (first | refine blk_drewN ?_ _ | refine blk_drew ?_ | refine blk_alloc ?_ _)); refine blk_put (cs := #[.int .i64 a0_0, .int .i64 (wrap64 (a0_1 + 1)), .int .i64 0, .slice Ao23 t231.length co23, .slice none 0 0]) ?_ 4 _ rfl; (with_reducible repeat (first | refine blk_drewN ?_ _ | refine blk_drew ?_ | refine blk_alloc ?_ _)); refine blk_put (cs := #[.int .i64 a0_0, .int .i64 (wrap64 (a0_1 + 1)), .int .i64 0, .slice none 0 0, .slice none 0 0]) ?_ 3 _ rfl; (with_reducible repeat (first | refine blk_drewN ?_ _ | refine blk_drew ?_ | refine blk_alloc ?_ _)); refine blk_put (cs := #[.int .i64 a0_0, .int .i64 (wrap64 (a0_1 + 1)), .int .i64 0, .slice none 0 0, .slice none 0 0]) ?_ 2 _ rfl; (with_reducible repeat (first | refine blk_drewN ?_ _ | refine blk_drew ?_ | refine blk_alloc ?_ _)); refine blk_put (cs := #[.int .i64 a0_0, .int .i64 0, .int .i64 0, .slice none 0 0, .slice none 0 0]) ?_ 1 _ rfl; (with_reducible repeat (first | refine blk_drewN ?_ _ | refine blk_drew ?_ | refine blk_alloc ?_ _)); refine blk_put (cs := #[.int .i64 0, .int .i64 0, .int .i64 0, .slice none 0 0, .slice none 0 0]) ?_ 0 _ rfl; (with_reducible repeat (first | refine blk_drewN ?_ _ | refine blk_drew ?_ | refine blk_alloc ?_ _)); exact BK237.out) hb); replace HB := Aside0.mk (bt_ HB hb); (try clear hb); (try clear hb2); (try clear hk); (try clear hi); have hcz33_0 := cz_ BK237 0 (.int .i64 a0_0); have hcz33_1 := cz_ BK237 1 (.int .i64 (wrap64 (a0_1 + 1))); have hcz33_2 := cz_ BK237 2 (.int .i64 0); have hcz33_3 := cz_ BK237 3 (.slice Ao23 t231.length co23); have hcz33_4 := cz_ BK237 4 (.slice Ao22 t234.length co22); have hfz33_0 := blk_frozen BK237.out 0; have hfz33_1 := blk_frozen BK237.out 1; have hfz33_2 := blk_frozen BK237.out 2; have hfz33_3 := blk_frozen BK237.out 3; have hfz33_4 := blk_frozen BK237.out 4; have hcz34_0 := cz_ BK229 0 (.int .i64 0); have hcz34_1 := cz_ BK229 1 (.int .i64 0); have hcz34_2 := cz_ BK229 2 (.int .i64 0); have hcz34_3 := cz_ BK229 3 (.slice none 0 0); have hcz34_4 := cz_ BK229 4 (.slice none 0 0); have hfz34_0 := blk_frozen BK229.out 0; have hfz34_1 := blk_frozen BK229.out 1; have hfz34_2 := blk_frozen BK229.out 2; have hfz34_3 := blk_frozen BK229.out 3; have hfz34_4 := blk_frozen BK229.out 4))
   refine bodyPost_ret (results_ct rfl _ _ gb229 31 #[.int .i64 a0_0, .int .i64 (wrap64 (a0_1 + 1)), .int .i64 0, .slice Ao23 t231.length co23, .slice Ao22 t234.length co22] (0, 0) _ rfl (by (with_reducible repeat (first | refine blk_drewN ?_ _ | refine blk_drew ?_ | refine blk_alloc ?_ _)); refine blk_put (cs := #[.int .i64 a0_0, .int .i64 (wrap64 (a0_1 + 1)), .int .i64 0, .slice Ao23 t231.length co23, .slice none 0 0]) ?_ 4 _ rfl; (with_reducible repeat (first | refine blk_drewN ?_ _ | refine blk_drew ?_ | refine blk_alloc ?_ _)); refine blk_put (cs := #[.int .i64 a0_0, .int .i64 (wrap64 (a0_1 + 1)), .int .i64 0, .slice none 0 0, .slice none 0 0]) ?_ 3 _ rfl; (with_reducible repeat (first | refine blk_drewN ?_ _ | refine blk_drew ?_ | refine blk_alloc ?_ _)); refine blk_put (cs := #[.int .i64 a0_0, .int .i64 (wrap64 (a0_1 + 1)), .int .i64 0, .slice none 0 0, .slice none 0 0]) ?_ 2 _ rfl; (with_reducible repeat (first | refine blk_drewN ?_ _ | refine blk_drew ?_ | refine blk_alloc ?_ _)); refine blk_put (cs := #[.int .i64 a0_0, .int .i64 0, .int .i64 0, .slice none 0 0, .slice none 0 0]) ?_ 1 _ rfl; (with_reducible repeat (first | refine blk_drewN ?_ _ | refine blk_drew ?_ | refine blk_alloc ?_ _)); refine blk_put (cs := #[.int .i64 0, .int .i64 0, .int .i64 0, .slice none 0 0, .slice none 0 0]) ?_ 0 _ rfl; (with_reducible repeat (first | refine blk_drewN ?_ _ | refine blk_drew ?_ | refine blk_alloc ?_ _)); exact BK229.out) Try.underlying31 rfl (by kernel_rfl)) rfl ?_
   exact ⟨_, _, by first | rfl | (simp [errW_none, errW_some] <;> rfl) | (simp [*, errW_none, errW_some] <;> rfl), by (with_reducible repeat (first | apply Kd.R_alloc | apply Kd.R_drewN | apply Kd.R_drew)); exact Kd.R_mono (Kd.R_far (p := ⟨gb229, 4, none⟩) (Kd.R_far (p := ⟨gb229, 3, none⟩) (Kd.R_far (p := ⟨gb229, 2, none⟩) (Kd.R_far (p := ⟨gb229, 1, none⟩) (Kd.R_far (p := ⟨gb229, 0, none⟩) (Kd.R_types HO233.out BK229.out (by decide)) (fun _ hk => hk.2) (.int .i64 a0_0)) (fun _ hk => hk.2) (.int .i64 (wrap64 (a0_1 + 1)))) (fun _ hk => hk.2) (.int .i64 0)) (fun _ hk => hk.2) (.slice Ao23 t231.length co23)) (fun _ hk => hk.2) (.slice Ao22 t234.length co22)) (fun _ hk => trivial), by (with_reducible repeat (first | apply Kd.R_alloc | apply Kd.R_drewN | apply Kd.R_drew)); exact Kd.R_mono (Kd.R_far (p := ⟨gb229, 4, none⟩) (Kd.R_far (p := ⟨gb229, 3, none⟩) (Kd.R_far (p := ⟨gb229, 2, none⟩) (Kd.R_far (p := ⟨gb229, 1, none⟩) (Kd.R_far (p := ⟨gb229, 0, none⟩) (Kd.R_types HO236.out BK229.out (by decide)) (fun _ hk => hk.2) (.int .i64 a0_0)) (fun _ hk => hk.2) (.int .i64 (wrap64 (a0_1 + 1)))) (fun _ hk => hk.2) (.int .i64 0)) (fun _ hk => hk.2) (.slice Ao23 t231.length co23)) (fun _ hk => hk.2) (.slice Ao22 t234.length co22)) (fun _ hk => trivial), by repeat (first | (with_reducible first | exact HB.out | apply below_alloc | apply pw_below_drewN | apply below_drew1 | refine below_set ?_ GE228.out | refine below_set ?_ GE229.out | refine below_set ?_ GE237.out) | exact HB.out)⟩
  ·replace c9 := Bool.eq_false_iff.mpr c9
   subst c9
   rw [if_neg (show ¬ (false = true) by decide)] at H
   simp only [Option.some.injEq, Prod.mk.injEq] at H
   obtain ⟨rfl, rfl, rfl, rfl, rfl, rfl⟩ := H
   go_enter Try.func32, Try.ntmps32
   try go_wp2_with (first | ((with_reducible refine gate_dst (N := 3) rfl ?_); refine box_event ?hg (N := 3) ?hd (cs := #[.int .i64 a0_0, .int .i64 a0_1, .int .i64 a0_2, .slice A0_3 l0_3.length c0_3, .slice A0_4 l0_4.length c0_4]) (t := 31) ?hr ?_; (case hd => rfl); (case hg => rfl); (case hr => first | (go_simp; done) | (go_simp; rfl)); intro gb228 hg w35 hbox hb; have BK228 := Aside0.mk hbox; have GW228 := ge_ HB hg; have GE228 := ge_ HB hg; replace HB := Aside0.mk (bt_ HB hb); clear hb hbox hg) | ((with_reducible refine gate_dst (N := 6) rfl ?_); refine box_event ?hg (N := 6) ?hd (cs := #[.int .i64 0, .int .i64 0, .int .i64 0, .slice none 0 0, .slice none 0 0]) (t := 31) ?hr ?_; (case hd => rfl); (case hg => rfl); (case hr => first | (go_simp; done) | (go_simp; rfl)); intro gb229 hg w36 hbox hb; have BK229 := Aside0.mk hbox; have GW229 := ge_ HB hg; have GE229 := ge_ HB hg; have NB228_229 := nl_ BK228 hg; have NB229_228 := ng_ BK228 hg; replace HB := Aside0.mk (bt_ HB hb); replace BK228 := Aside0.mk (bb_ BK228 hb); clear hb hbox hg; have hnb37 := NB228_229.out; have hnc37 := NB229_228.out; have hcz38_0 := cz_ BK228 0 (.int .i64 a0_0); have hcz38_1 := cz_ BK228 1 (.int .i64 a0_1); have hcz38_2 := cz_ BK228 2 (.int .i64 a0_2); have hcz38_3 := cz_ BK228 3 (.slice A0_3 l0_3.length c0_3); have hcz38_4 := cz_ BK228 4 (.slice A0_4 l0_4.length c0_4); have hfz38_0 := blk_frozen BK228.out 0; have hfz38_1 := blk_frozen BK228.out 1; have hfz38_2 := blk_frozen BK228.out 2; have hfz38_3 := blk_frozen BK228.out 3; have hfz38_4 := blk_frozen BK228.out 4) | ((with_reducible refine gate_callee (f := 16) rfl ?_); refine gl_ (some 10) Try.func16 #[.agg #[.int .i64 a0_0, .int .i64 a0_1, .int .i64 a0_2, .slice A0_3 l0_3.length c0_3, .slice A0_4 l0_4.length c0_4]] ?_; (with_reducible refine (impl_LsaOk.calls k a0_0 a0_1 a0_2 _ _ l0_3 _ _ l0_4 true _ ?side1 ?side2 ?side3 ?side4 A4.out).mono ?_); (case side1 => exact cb_ HR0_3 HB); (case side2 => exact HC0_3.out); (case side3 => exact cb_ HR0_4 HB); (case side4 => exact HC0_4.out); rintro e w39 ⟨rfl, hb⟩; refine ⟨_, rfl, ?_⟩; replace BK228 := Aside0.mk (bb_ BK228 hb); replace BK229 := Aside0.mk (bb_ BK229 hb); replace HB := Aside0.mk (bt_ HB hb); (try clear hb); (try clear hb2); (try clear hk); (try clear hi)))
   replace BK228 := Aside0.mk (blk_drew BK228.out)
   replace BK229 := Aside0.mk (blk_drew BK229.out)
   replace HB := Aside0.mk (below_drew1 HB.out)
   refine start_ (n := 12) (S := fun w' => w'.cell? ⟨gb228, 0, none⟩ = some (.int .i64 a0_0) ∧ w'.cell? ⟨gb228, 1, none⟩ = some (.int .i64 a0_1) ∧ w'.cell? ⟨gb228, 2, none⟩ = some (.int .i64 a0_2) ∧ w'.cell? ⟨gb228, 3, none⟩ = some (.slice A0_3 l0_3.length c0_3) ∧ w'.cell? ⟨gb228, 4, none⟩ = some (.slice A0_4 l0_4.length c0_4)) (ds := []) ba10_0 (by kernel_rfl) rfl rfl ⟨(blk_cell BK228.out 0).trans rfl, (blk_cell BK228.out 1).trans rfl, (blk_cell BK228.out 2).trans rfl, (blk_cell BK228.out 3).trans rfl, (blk_cell BK228.out 4).trans rfl⟩ (fun hHeld => ?_); refine with_tabW impl_NextLsa.tab3 impl_NextLsa.bits3 (fun HT_ HW_ => ?_)
   generalize w39.drew = w40 at BK228 BK229 HB hHeld ⊢
   refine pz_ 0 13 ba10_1 HT_ ?_
   refine pz_ 2 15 ba10_2 HT_ ?_
   refine pz_ 5 18 ba10_3 HT_ ?_
   refine pz_ 7 20 ba10_4 HT_ ?_
   refine pt_ 1 14 ba10_5 HT_ HW_ hHeld ?_
   refine pt_ 3 16 ba10_6 HT_ HW_ hHeld ?_
   refine pz_ 4 17 ba10_7 HT_ ?_
   refine join_ (σ := Value × Value × Nat) 1 ba10_8 (fun s_ => [(19, s_.1), (21, s_.2.1), (8, .pointer (some ⟨s_.2.2, 0, none⟩)), (22, .agg #[.int .i64 a0_0, .int .i64 (wrap64 (a0_1 + 1)), .int .i64 0, s_.1, s_.2.1])]) (fun s_ w' => (w'.cell? ⟨gb228, 0, none⟩ = some (.int .i64 a0_0) ∧ w'.cell? ⟨gb228, 1, none⟩ = some (.int .i64 a0_1) ∧ w'.cell? ⟨gb228, 2, none⟩ = some (.int .i64 a0_2) ∧ w'.cell? ⟨gb228, 3, none⟩ = some (.slice A0_3 l0_3.length c0_3) ∧ w'.cell? ⟨gb228, 4, none⟩ = some (.slice A0_4 l0_4.length c0_4)) ∧ (Kd.R k70 70 w' w.heap.size (fun _ => True) s_.1 t231) ∧ (Kd.R k74 74 w' w.heap.size (fun _ => True) s_.2.1 t234) ∧ (w'.heap[gb228]? = some (.cells #[.int .i64 a0_0, .int .i64 a0_1, .int .i64 a0_2, .slice A0_3 l0_3.length c0_3, .slice A0_4 l0_4.length c0_4] 31 (0, 0))) ∧ (w'.heap[gb229]? = some (.cells #[.int .i64 0, .int .i64 0, .int .i64 0, .slice none 0 0, .slice none 0 0] 31 (0, 0))) ∧ (w'.heap[s_.2.2]? = some (.cells #[.int .i64 0, .int .i64 0, .int .i64 0, .slice none 0 0, .slice none 0 0] 31 (0, 0))) ∧ (w.heap.size ≤ s_.2.2) ∧ (w.heap.size ≤ s_.2.2) ∧ (gb228 ≠ s_.2.2) ∧ (s_.2.2 ≠ gb228) ∧ (gb229 ≠ s_.2.2) ∧ (s_.2.2 ≠ gb229) ∧ (Below w.heap.size w w')) ?_ ?_
   rotate_left
   ·intro hCont
    refine two_ (i := 6) (j := 10) (Ni := some 19) (Nj := some 8) ba10_9 ba10_10 rfl rfl rfl rfl (two_of HT_.out (by kernel_rfl)) (by decide) (by decide) (fun K hK => ?_) (fun K hK => ?_)
    ·skip
     refine gz_ Try.func67 #[.slice A1 l1.length c1] ?_
     with_reducible refine (slices_Clone_impl_Link_impl_Link.calls _ _ l1 t231 _ ?side1 ?side2 A6.out).mono ?_
     (case side1 => exact cb_ HR1 HB)
     (case side2 => exact HC1.out)
     rintro e w41 ⟨v232, rfl, ho0, hb⟩
     refine ⟨_, rfl, ?_⟩
     have HO233 := Aside0.mk (Kd.R_lower ho0 (bz_ HB))
     replace BK228 := Aside0.mk (bb_ BK228 hb)
     replace BK229 := Aside0.mk (bb_ BK229 hb)
     replace HB := Aside0.mk (bt_ HB hb)
     (try clear hb)
     (try clear hb2)
     (try clear hk)
     (try clear hi)
     (try clear ho0)
     refine hK.out _ _ ⟨(blk_cell BK228.out 0).trans rfl, (blk_cell BK228.out 1).trans rfl, (blk_cell BK228.out 2).trans rfl, (blk_cell BK228.out 3).trans rfl, (blk_cell BK228.out 4).trans rfl⟩ (fun hHeld => ?_)
     clear hK K
     refine nz_ 19 ?_
     refine two_ (i := 8) (j := 10) (Ni := some 21) (Nj := some 8) ba10_11 ba10_12 rfl rfl rfl rfl (two_of HT_.out (by kernel_rfl)) (by decide) (by decide) (fun K hK => ?_) (fun K hK => ?_)
     ·skip
      refine gz_ Try.func68 #[.slice A2 l2.length c2] ?_
      with_reducible refine (slices_Clone_impl_Stub_impl_Stub.calls _ _ l2 t234 _ ?side1 ?side2 A7.out).mono ?_
      (case side1 => exact cb_ HR2 HB)
      (case side2 => exact HC2.out)
      rintro e w42 ⟨v235, rfl, ho0, hb⟩
      refine ⟨_, rfl, ?_⟩
      have HO236 := Aside0.mk (Kd.R_lower ho0 (bz_ HB))
      replace HO233 := rb_ HO233 hb
      replace BK228 := Aside0.mk (bb_ BK228 hb)
      replace BK229 := Aside0.mk (bb_ BK229 hb)
      replace HB := Aside0.mk (bt_ HB hb)
      (try clear hb)
      (try clear hb2)
      (try clear hk)
      (try clear hi)
      (try clear ho0)
      obtain ⟨Ao43, co43, eo43⟩ := Kd.R_slice HO236.out
      (first | subst eo43 | (injection eo43 with f1_ f2_ f3_; have f4_ := f1_.symm; have f5_ := f3_.symm; clear f1_ f2_ f3_; subst f4_; subst f5_))
      obtain ⟨Ao44, co44, eo44⟩ := Kd.R_slice HO233.out
      (first | subst eo44 | (injection eo44 with f1_ f2_ f3_; have f4_ := f1_.symm; have f5_ := f3_.symm; clear f1_ f2_ f3_; subst f4_; subst f5_))
      refine hK.out _ _ ⟨(blk_cell BK228.out 0).trans rfl, (blk_cell BK228.out 1).trans rfl, (blk_cell BK228.out 2).trans rfl, (blk_cell BK228.out 3).trans rfl, (blk_cell BK228.out 4).trans rfl⟩ (fun hHeld => ?_)
      clear hK K
      refine nz_ 21 ?_
      refine pz_ 9 22 ba10_13 HT_ ?_
      refine one_ (i := 10) (N := some 8) ba10_8 rfl rfl (one_of HT_.out (by kernel_rfl)) (by decide) (fun K hK => ?_)
      refine box_step ?hg (N := 8) ?hd (cs := #[.int .i64 0, .int .i64 0, .int .i64 0, .slice none 0 0, .slice none 0 0]) (t := 31) ?hr ?_; (case hd => rfl); (case hg => rfl); (case hr => first | (go_simp; done) | (go_simp; rfl))
      intro gb237 hg w45 hbox hb
      have BK237 := Aside0.mk hbox
      have GW237 := ge_ HB hg
      have GE237 := ge_ HB hg
      have NB228_237 := nl_ BK228 hg
      have NB237_228 := ng_ BK228 hg
      have NB229_237 := nl_ BK229 hg
      have NB237_229 := ng_ BK229 hg
      replace HO233 := rb_ HO233 hb
      replace HO236 := rb_ HO236 hb
      replace HB := Aside0.mk (bt_ HB hb)
      replace BK228 := Aside0.mk (bb_ BK228 hb)
      replace BK229 := Aside0.mk (bb_ BK229 hb)
      clear hb hbox hg
      refine hK.out _ _ ⟨(blk_cell BK228.out 0).trans rfl, (blk_cell BK228.out 1).trans rfl, (blk_cell BK228.out 2).trans rfl, (blk_cell BK228.out 3).trans rfl, (blk_cell BK228.out 4).trans rfl⟩ (fun hHeld => ?_)
      clear hK K
      refine nz_ 8 ?_
      exact norm_ (by simp only [putAll, Act.put, List.setIfInBounds_toArray, List.set_cons_zero, List.set_cons_succ]) (hCont (.slice Ao44 t231.length co44, .slice Ao43 t234.length co43, gb237) _ ⟨hHeld, (hd_ HO233), (hd_ HO236), (by (with_reducible repeat (first | refine blk_drewN ?_ _ | refine blk_drew ?_ | refine blk_alloc ?_ _)); exact BK228.out), (by (with_reducible repeat (first | refine blk_drewN ?_ _ | refine blk_drew ?_ | refine blk_alloc ?_ _)); exact BK229.out), (by (with_reducible repeat (first | refine blk_drewN ?_ _ | refine blk_drew ?_ | refine blk_alloc ?_ _)); exact BK237.out), GW237.out, GE237.out, NB228_237.out, NB237_228.out, NB229_237.out, NB237_229.out, (by repeat (first | (with_reducible first | exact HB.out | apply below_alloc | apply pw_below_drewN | apply below_drew1 | refine below_set ?_ GE228.out | refine below_set ?_ GE229.out | refine below_set ?_ GE237.out) | exact HB.out))⟩)
     ·skip
      refine box_step ?hg (N := 8) ?hd (cs := #[.int .i64 0, .int .i64 0, .int .i64 0, .slice none 0 0, .slice none 0 0]) (t := 31) ?hr ?_; (case hd => rfl); (case hg => rfl); (case hr => first | (go_simp; done) | (go_simp; rfl))
      intro gb237 hg w42 hbox hb
      have BK237 := Aside0.mk hbox
      have GW237 := ge_ HB hg
      have GE237 := ge_ HB hg
      have NB228_237 := nl_ BK228 hg
      have NB237_228 := ng_ BK228 hg
      have NB229_237 := nl_ BK229 hg
      have NB237_229 := ng_ BK229 hg
      replace HO233 := rb_ HO233 hb
      replace HB := Aside0.mk (bt_ HB hb)
      replace BK228 := Aside0.mk (bb_ BK228 hb)
      replace BK229 := Aside0.mk (bb_ BK229 hb)
      clear hb hbox hg
      refine hK.out _ _ ⟨(blk_cell BK228.out 0).trans rfl, (blk_cell BK228.out 1).trans rfl, (blk_cell BK228.out 2).trans rfl, (blk_cell BK228.out 3).trans rfl, (blk_cell BK228.out 4).trans rfl⟩ (fun hHeld => ?_)
      clear hK K
      refine nz_ 8 ?_
      refine one_ (i := 8) (N := some 21) ba10_14 rfl rfl (one_of HT_.out (by kernel_rfl)) (by decide) (fun K hK => ?_)
      refine gz_ Try.func68 #[.slice A2 l2.length c2] ?_
      with_reducible refine (slices_Clone_impl_Stub_impl_Stub.calls _ _ l2 t234 _ ?side1 ?side2 A7.out).mono ?_
      (case side1 => exact cb_ HR2 HB)
      (case side2 => exact HC2.out)
      rintro e w43 ⟨v235, rfl, ho0, hb⟩
      refine ⟨_, rfl, ?_⟩
      have HO236 := Aside0.mk (Kd.R_lower ho0 (bz_ HB))
      replace HO233 := rb_ HO233 hb
      replace BK228 := Aside0.mk (bb_ BK228 hb)
      replace BK229 := Aside0.mk (bb_ BK229 hb)
      replace BK237 := Aside0.mk (bb_ BK237 hb)
      replace HB := Aside0.mk (bt_ HB hb)
      (try clear hb)
      (try clear hb2)
      (try clear hk)
      (try clear hi)
      (try clear ho0)
      obtain ⟨Ao44, co44, eo44⟩ := Kd.R_slice HO236.out
      (first | subst eo44 | (injection eo44 with f1_ f2_ f3_; have f4_ := f1_.symm; have f5_ := f3_.symm; clear f1_ f2_ f3_; subst f4_; subst f5_))
      obtain ⟨Ao45, co45, eo45⟩ := Kd.R_slice HO233.out
      (first | subst eo45 | (injection eo45 with f1_ f2_ f3_; have f4_ := f1_.symm; have f5_ := f3_.symm; clear f1_ f2_ f3_; subst f4_; subst f5_))
      refine hK.out _ _ ⟨(blk_cell BK228.out 0).trans rfl, (blk_cell BK228.out 1).trans rfl, (blk_cell BK228.out 2).trans rfl, (blk_cell BK228.out 3).trans rfl, (blk_cell BK228.out 4).trans rfl⟩ (fun hHeld => ?_)
      clear hK K
      refine nz_ 21 ?_
      refine pz_ 9 22 ba10_8 HT_ ?_
      exact norm_ (by simp only [putAll, Act.put, List.setIfInBounds_toArray, List.set_cons_zero, List.set_cons_succ]) (hCont (.slice Ao45 t231.length co45, .slice Ao44 t234.length co44, gb237) _ ⟨hHeld, (hd_ HO233), (hd_ HO236), (by (with_reducible repeat (first | refine blk_drewN ?_ _ | refine blk_drew ?_ | refine blk_alloc ?_ _)); exact BK228.out), (by (with_reducible repeat (first | refine blk_drewN ?_ _ | refine blk_drew ?_ | refine blk_alloc ?_ _)); exact BK229.out), (by (with_reducible repeat (first | refine blk_drewN ?_ _ | refine blk_drew ?_ | refine blk_alloc ?_ _)); exact BK237.out), GW237.out, GE237.out, NB228_237.out, NB237_228.out, NB229_237.out, NB237_229.out, (by repeat (first | (with_reducible first | exact HB.out | apply below_alloc | apply pw_below_drewN | apply below_drew1 | refine below_set ?_ GE228.out | refine below_set ?_ GE229.out | refine below_set ?_ GE237.out) | exact HB.out))⟩)
    ·skip
     refine box_step ?hg (N := 8) ?hd (cs := #[.int .i64 0, .int .i64 0, .int .i64 0, .slice none 0 0, .slice none 0 0]) (t := 31) ?hr ?_; (case hd => rfl); (case hg => rfl); (case hr => first | (go_simp; done) | (go_simp; rfl))
     intro gb237 hg w41 hbox hb
     have BK237 := Aside0.mk hbox
     have GW237 := ge_ HB hg
     have GE237 := ge_ HB hg
     have NB228_237 := nl_ BK228 hg
     have NB237_228 := ng_ BK228 hg
     have NB229_237 := nl_ BK229 hg
     have NB237_229 := ng_ BK229 hg
     replace HB := Aside0.mk (bt_ HB hb)
     replace BK228 := Aside0.mk (bb_ BK228 hb)
     replace BK229 := Aside0.mk (bb_ BK229 hb)
     clear hb hbox hg
     refine hK.out _ _ ⟨(blk_cell BK228.out 0).trans rfl, (blk_cell BK228.out 1).trans rfl, (blk_cell BK228.out 2).trans rfl, (blk_cell BK228.out 3).trans rfl, (blk_cell BK228.out 4).trans rfl⟩ (fun hHeld => ?_)
     clear hK K
     refine nz_ 8 ?_
     refine one_ (i := 6) (N := some 19) ba10_12 rfl rfl (one_of HT_.out (by kernel_rfl)) (by decide) (fun K hK => ?_)
     refine gz_ Try.func67 #[.slice A1 l1.length c1] ?_
     with_reducible refine (slices_Clone_impl_Link_impl_Link.calls _ _ l1 t231 _ ?side1 ?side2 A6.out).mono ?_
     (case side1 => exact cb_ HR1 HB)
     (case side2 => exact HC1.out)
     rintro e w42 ⟨v232, rfl, ho0, hb⟩
     refine ⟨_, rfl, ?_⟩
     have HO233 := Aside0.mk (Kd.R_lower ho0 (bz_ HB))
     replace BK228 := Aside0.mk (bb_ BK228 hb)
     replace BK229 := Aside0.mk (bb_ BK229 hb)
     replace BK237 := Aside0.mk (bb_ BK237 hb)
     replace HB := Aside0.mk (bt_ HB hb)
     (try clear hb)
     (try clear hb2)
     (try clear hk)
     (try clear hi)
     (try clear ho0)
     refine hK.out _ _ ⟨(blk_cell BK228.out 0).trans rfl, (blk_cell BK228.out 1).trans rfl, (blk_cell BK228.out 2).trans rfl, (blk_cell BK228.out 3).trans rfl, (blk_cell BK228.out 4).trans rfl⟩ (fun hHeld => ?_)
     clear hK K
     refine nz_ 19 ?_
     refine one_ (i := 8) (N := some 21) ba10_14 rfl rfl (one_of HT_.out (by kernel_rfl)) (by decide) (fun K hK => ?_)
     refine gz_ Try.func68 #[.slice A2 l2.length c2] ?_
     with_reducible refine (slices_Clone_impl_Stub_impl_Stub.calls _ _ l2 t234 _ ?side1 ?side2 A7.out).mono ?_
     (case side1 => exact cb_ HR2 HB)
     (case side2 => exact HC2.out)
     rintro e w43 ⟨v235, rfl, ho0, hb⟩
     refine ⟨_, rfl, ?_⟩
     have HO236 := Aside0.mk (Kd.R_lower ho0 (bz_ HB))
     replace HO233 := rb_ HO233 hb
     replace BK228 := Aside0.mk (bb_ BK228 hb)
     replace BK229 := Aside0.mk (bb_ BK229 hb)
     replace BK237 := Aside0.mk (bb_ BK237 hb)
     replace HB := Aside0.mk (bt_ HB hb)
     (try clear hb)
     (try clear hb2)
     (try clear hk)
     (try clear hi)
     (try clear ho0)
     obtain ⟨Ao44, co44, eo44⟩ := Kd.R_slice HO236.out
     (first | subst eo44 | (injection eo44 with f1_ f2_ f3_; have f4_ := f1_.symm; have f5_ := f3_.symm; clear f1_ f2_ f3_; subst f4_; subst f5_))
     obtain ⟨Ao45, co45, eo45⟩ := Kd.R_slice HO233.out
     (first | subst eo45 | (injection eo45 with f1_ f2_ f3_; have f4_ := f1_.symm; have f5_ := f3_.symm; clear f1_ f2_ f3_; subst f4_; subst f5_))
     refine hK.out _ _ ⟨(blk_cell BK228.out 0).trans rfl, (blk_cell BK228.out 1).trans rfl, (blk_cell BK228.out 2).trans rfl, (blk_cell BK228.out 3).trans rfl, (blk_cell BK228.out 4).trans rfl⟩ (fun hHeld => ?_)
     clear hK K
     refine nz_ 21 ?_
     refine pz_ 9 22 ba10_8 HT_ ?_
     exact norm_ (by simp only [putAll, Act.put, List.setIfInBounds_toArray, List.set_cons_zero, List.set_cons_succ]) (hCont (.slice Ao45 t231.length co45, .slice Ao44 t234.length co44, gb237) _ ⟨hHeld, (hd_ HO233), (hd_ HO236), (by (with_reducible repeat (first | refine blk_drewN ?_ _ | refine blk_drew ?_ | refine blk_alloc ?_ _)); exact BK228.out), (by (with_reducible repeat (first | refine blk_drewN ?_ _ | refine blk_drew ?_ | refine blk_alloc ?_ _)); exact BK229.out), (by (with_reducible repeat (first | refine blk_drewN ?_ _ | refine blk_drew ?_ | refine blk_alloc ?_ _)); exact BK237.out), GW237.out, GE237.out, NB228_237.out, NB237_228.out, NB229_237.out, NB237_229.out, (by repeat (first | (with_reducible first | exact HB.out | apply below_alloc | apply pw_below_drewN | apply below_drew1 | refine below_set ?_ GE228.out | refine below_set ?_ GE229.out | refine below_set ?_ GE237.out) | exact HB.out))⟩)
   rintro ⟨v232, v235, gb237⟩ w46 ⟨hS_, h0_, h1_, h2_, h3_, h4_, h5_, h6_, h7_, h8_, h9_, h10_, h11_⟩
   have HO233 : Aside0 (Kd.R k70 70 w46 w.heap.size (fun _ => True) v232 t231) := ⟨h0_⟩
   have HO236 : Aside0 (Kd.R k74 74 w46 w.heap.size (fun _ => True) v235 t234) := ⟨h1_⟩
   have BK237 : Aside0 (w46.heap[gb237]? = some (.cells #[.int .i64 0, .int .i64 0, .int .i64 0, .slice none 0 0, .slice none 0 0] 31 (0, 0))) := ⟨h4_⟩
   have GW237 : Aside0 (w.heap.size ≤ gb237) := ⟨h5_⟩
   have GE237 : Aside0 (w.heap.size ≤ gb237) := ⟨h6_⟩
   have NB228_237 : Aside0 (gb228 ≠ gb237) := ⟨h7_⟩
   have NB237_228 : Aside0 (gb237 ≠ gb228) := ⟨h8_⟩
   have NB229_237 : Aside0 (gb229 ≠ gb237) := ⟨h9_⟩
   have NB237_229 : Aside0 (gb237 ≠ gb229) := ⟨h10_⟩
   replace BK228 : Aside0 (w46.heap[gb228]? = some (.cells #[.int .i64 a0_0, .int .i64 a0_1, .int .i64 a0_2, .slice A0_3 l0_3.length c0_3, .slice A0_4 l0_4.length c0_4] 31 (0, 0))) := ⟨h2_⟩
   replace BK229 : Aside0 (w46.heap[gb229]? = some (.cells #[.int .i64 0, .int .i64 0, .int .i64 0, .slice none 0 0, .slice none 0 0] 31 (0, 0))) := ⟨h3_⟩
   replace HB : Aside0 (Below w.heap.size w w46) := ⟨h11_⟩
   clear h0_ h1_ h2_ h3_ h4_ h5_ h6_ h7_ h8_ h9_ h10_ h11_
   have hHeld : w46.cell? ⟨gb228, 0, none⟩ = some (.int .i64 a0_0) ∧ w46.cell? ⟨gb228, 1, none⟩ = some (.int .i64 a0_1) ∧ w46.cell? ⟨gb228, 2, none⟩ = some (.int .i64 a0_2) ∧ w46.cell? ⟨gb228, 3, none⟩ = some (.slice A0_3 l0_3.length c0_3) ∧ w46.cell? ⟨gb228, 4, none⟩ = some (.slice A0_4 l0_4.length c0_4) := hS_
   obtain ⟨Ao47, co47, eo47⟩ := Kd.R_slice HO236.out
   (first | subst eo47 | (injection eo47 with f1_ f2_ f3_; have f4_ := f1_.symm; have f5_ := f3_.symm; clear f1_ f2_ f3_; subst f4_; subst f5_))
   obtain ⟨Ao48, co48, eo48⟩ := Kd.R_slice HO233.out
   (first | subst eo48 | (injection eo48 with f1_ f2_ f3_; have f4_ := f1_.symm; have f5_ := f3_.symm; clear f1_ f2_ f3_; subst f4_; subst f5_))
   refine norm_ (a' := ?_) ?_ ?_
   rotate_left; · simp only [putAll, Act.put, List.setIfInBounds_toArray, List.set_cons_zero, List.set_cons_succ]; rfl
   refine one_ (i := 11) (N := none) ba10_15 rfl rfl (one_of HT_.out (by kernel_rfl)) (by decide) (fun K hK => ?_)
   have hs49 : w46.cell? ⟨gb237, 0, none⟩ = some (.int .i64 0) := (blk_cell BK237.out 0).trans rfl
   have hfs49 := blk_frozen BK237.out 0
   have hns49_0 := NB228_237.out
   have hns49_1 := NB229_237.out
   have hms49_0 := NB237_228.out
   have hms49_1 := NB237_229.out
   have hs50 : w46.cell? ⟨gb237, 1, none⟩ = some (.int .i64 0) := (blk_cell BK237.out 1).trans rfl
   have hfs50 := blk_frozen BK237.out 1
   have hns50_0 := NB228_237.out
   have hns50_1 := NB229_237.out
   have hms50_0 := NB237_228.out
   have hms50_1 := NB237_229.out
   have hs51 : w46.cell? ⟨gb237, 2, none⟩ = some (.int .i64 0) := (blk_cell BK237.out 2).trans rfl
   have hfs51 := blk_frozen BK237.out 2
   have hns51_0 := NB228_237.out
   have hns51_1 := NB229_237.out
   have hms51_0 := NB237_228.out
   have hms51_1 := NB237_229.out
   have hs52 : w46.cell? ⟨gb237, 3, none⟩ = some (.slice none 0 0) := (blk_cell BK237.out 3).trans rfl
   have hfs52 := blk_frozen BK237.out 3
   have hns52_0 := NB228_237.out
   have hns52_1 := NB229_237.out
   have hms52_0 := NB237_228.out
   have hms52_1 := NB237_229.out
   have hs53 : w46.cell? ⟨gb237, 4, none⟩ = some (.slice none 0 0) := (blk_cell BK237.out 4).trans rfl
   have hfs53 := blk_frozen BK237.out 4
   have hns53_0 := NB228_237.out
   have hns53_1 := NB229_237.out
   have hms53_0 := NB237_228.out
   have hms53_1 := NB237_229.out
   refine skip_ (w1 := ?_) (by rfl) rfl ?_ ?_
   rotate_left; · go_simp; rfl
   refine hK.out _ _ ⟨((cell_far (p := ⟨gb237, _, none⟩) NB228_237.out _).trans (((cell_far (p := ⟨gb237, _, none⟩) NB228_237.out _).trans (((cell_far (p := ⟨gb237, _, none⟩) NB228_237.out _).trans (((cell_far (p := ⟨gb237, _, none⟩) NB228_237.out _).trans (((cell_far (p := ⟨gb237, _, none⟩) NB228_237.out _).trans (hHeld.1)))))))))), ((cell_far (p := ⟨gb237, _, none⟩) NB228_237.out _).trans (((cell_far (p := ⟨gb237, _, none⟩) NB228_237.out _).trans (((cell_far (p := ⟨gb237, _, none⟩) NB228_237.out _).trans (((cell_far (p := ⟨gb237, _, none⟩) NB228_237.out _).trans (((cell_far (p := ⟨gb237, _, none⟩) NB228_237.out _).trans (hHeld.2.1)))))))))), ((cell_far (p := ⟨gb237, _, none⟩) NB228_237.out _).trans (((cell_far (p := ⟨gb237, _, none⟩) NB228_237.out _).trans (((cell_far (p := ⟨gb237, _, none⟩) NB228_237.out _).trans (((cell_far (p := ⟨gb237, _, none⟩) NB228_237.out _).trans (((cell_far (p := ⟨gb237, _, none⟩) NB228_237.out _).trans (hHeld.2.2.1)))))))))), ((cell_far (p := ⟨gb237, _, none⟩) NB228_237.out _).trans (((cell_far (p := ⟨gb237, _, none⟩) NB228_237.out _).trans (((cell_far (p := ⟨gb237, _, none⟩) NB228_237.out _).trans (((cell_far (p := ⟨gb237, _, none⟩) NB228_237.out _).trans (((cell_far (p := ⟨gb237, _, none⟩) NB228_237.out _).trans (hHeld.2.2.2.1)))))))))), ((cell_far (p := ⟨gb237, _, none⟩) NB228_237.out _).trans (((cell_far (p := ⟨gb237, _, none⟩) NB228_237.out _).trans (((cell_far (p := ⟨gb237, _, none⟩) NB228_237.out _).trans (((cell_far (p := ⟨gb237, _, none⟩) NB228_237.out _).trans (((cell_far (p := ⟨gb237, _, none⟩) NB228_237.out _).trans (hHeld.2.2.2.2))))))))))⟩ (fun hHeld => ?_)
   clear hK K
   refine done_ (done_of HT_.out (by kernel_rfl)) ?_
   have hnb54 := NB237_228.out
   have hnc54 := NB228_237.out
   have hnb55 := NB237_229.out
   have hnc55 := NB229_237.out
   have hcz56_0 := cz_ BK237 0 (.int .i64 0)
   have hcz56_1 := cz_ BK237 1 (.int .i64 0)
   have hcz56_2 := cz_ BK237 2 (.int .i64 0)
   have hcz56_3 := cz_ BK237 3 (.slice none 0 0)
   have hcz56_4 := cz_ BK237 4 (.slice none 0 0)
   have hfz56_0 := blk_frozen BK237.out 0
   have hfz56_1 := blk_frozen BK237.out 1
   have hfz56_2 := blk_frozen BK237.out 2
   have hfz56_3 := blk_frozen BK237.out 3
   have hfz56_4 := blk_frozen BK237.out 4
   try go_wp2_with (first | ((with_reducible refine gate_callee (f := 16) rfl ?_); refine gl_ (some 24) Try.func16 #[.agg #[.int .i64 a0_0, .int .i64 (wrap64 (a0_1 + 1)), .int .i64 0, .slice Ao48 t231.length co48, .slice Ao47 t234.length co47]] ?_; (with_reducible refine (impl_LsaOk.calls k a0_0 (wrap64 (a0_1 + 1)) 0 _ _ t231 _ _ t234 false _ ?side1 ?side2 ?side3 ?side4 A8.out).mono ?_); (case side1 => refine (Kd.R_reads' (e := 70) (base := w.heap.size) (ok := fun k_ => True) (n := t231.length) (c := co48) ?_).2.2; exact (hs_ HO233 BK237)); (case side2 => exact (Kd.R_reads' HO233.out).2.1); (case side3 => refine (Kd.R_reads' (e := 74) (base := w.heap.size) (ok := fun k_ => True) (n := t234.length) (c := co47) ?_).2.2; exact (hs_ HO236 BK237)); (case side4 => exact (Kd.R_reads' HO236.out).2.1); rintro e w57 ⟨rfl, hb⟩; refine ⟨_, rfl, ?_⟩; replace HO233 := rs_ HO233 BK237 hb; replace HO236 := rs_ HO236 BK237 hb; replace BK228 := bf_ BK228 NB228_237 hb; replace BK229 := bf_ BK229 NB229_237 hb; replace BK237 := Aside0.mk (blk_below (g := gb237) (o := .cells #[.int .i64 a0_0, .int .i64 (wrap64 (a0_1 + 1)), .int .i64 0, .slice Ao48 t231.length co48, .slice Ao47 t234.length co47] 31 (0, 0)) (by (with_reducible repeat (first | refine blk_drewN ?_ _ | refine blk_drew ?_ | refine blk_alloc ?_ _)); refine blk_put (cs := #[.int .i64 a0_0, .int .i64 (wrap64 (a0_1 + 1)), .int .i64 0, .slice Ao48 t231.length co48, .slice none 0 0]) ?_ 4 _ rfl; (with_reducible repeat (first | refine blk_drewN ?_ _ | refine blk_drew ?_ | refine blk_alloc ?_ _)); refine blk_put (cs := #[.int .i64 a0_0, .int .i64 (wrap64 (a0_1 + 1)), .int .i64 0, .slice none 0 0, .slice none 0 0]) ?_ 3 _ rfl; (with_reducible repeat (first | refine blk_drewN ?_ _ | refine blk_drew ?_ | refine blk_alloc ?_ _)); refine blk_put (cs := #[.int .i64 a0_0, .int .i64 (wrap64 (a0_1 + 1)), .int .i64 0, .slice none 0 0, .slice none 0 0]) ?_ 2 _ rfl; (with_reducible repeat (first | refine blk_drewN ?_ _ | refine blk_drew ?_ | refine blk_alloc ?_ _)); refine blk_put (cs := #[.int .i64 a0_0, .int .i64 0, .int .i64 0, .slice none 0 0, .slice none 0 0]) ?_ 1 _ rfl; (with_reducible repeat (first | refine blk_drewN ?_ _ | refine blk_drew ?_ | refine blk_alloc ?_ _)); refine blk_put (cs := #[.int .i64 0, .int .i64 0, .int .i64 0, .slice none 0 0, .slice none 0 0]) ?_ 0 _ rfl; (with_reducible repeat (first | refine blk_drewN ?_ _ | refine blk_drew ?_ | refine blk_alloc ?_ _)); exact BK237.out) hb); replace HB := Aside0.mk (bt_ HB hb); (try clear hb); (try clear hb2); (try clear hk); (try clear hi); have hcz58_0 := cz_ BK229 0 (.int .i64 0); have hcz58_1 := cz_ BK229 1 (.int .i64 0); have hcz58_2 := cz_ BK229 2 (.int .i64 0); have hcz58_3 := cz_ BK229 3 (.slice none 0 0); have hcz58_4 := cz_ BK229 4 (.slice none 0 0); have hfz58_0 := blk_frozen BK229.out 0; have hfz58_1 := blk_frozen BK229.out 1; have hfz58_2 := blk_frozen BK229.out 2; have hfz58_3 := blk_frozen BK229.out 3; have hfz58_4 := blk_frozen BK229.out 4))
   refine bodyPost_ret (results_ct rfl _ _ gb229 31 #[.int .i64 0, .int .i64 0, .int .i64 0, .slice none 0 0, .slice none 0 0] (0, 0) _ rfl (by (with_reducible repeat (first | refine blk_drewN ?_ _ | refine blk_drew ?_ | refine blk_alloc ?_ _)); refine blk_put (cs := #[.int .i64 0, .int .i64 0, .int .i64 0, .slice none 0 0, .slice none 0 0]) ?_ 4 _ rfl; (with_reducible repeat (first | refine blk_drewN ?_ _ | refine blk_drew ?_ | refine blk_alloc ?_ _)); refine blk_put (cs := #[.int .i64 0, .int .i64 0, .int .i64 0, .slice none 0 0, .slice none 0 0]) ?_ 3 _ rfl; (with_reducible repeat (first | refine blk_drewN ?_ _ | refine blk_drew ?_ | refine blk_alloc ?_ _)); refine blk_put (cs := #[.int .i64 0, .int .i64 0, .int .i64 0, .slice none 0 0, .slice none 0 0]) ?_ 2 _ rfl; (with_reducible repeat (first | refine blk_drewN ?_ _ | refine blk_drew ?_ | refine blk_alloc ?_ _)); refine blk_put (cs := #[.int .i64 0, .int .i64 0, .int .i64 0, .slice none 0 0, .slice none 0 0]) ?_ 1 _ rfl; (with_reducible repeat (first | refine blk_drewN ?_ _ | refine blk_drew ?_ | refine blk_alloc ?_ _)); refine blk_put (cs := #[.int .i64 0, .int .i64 0, .int .i64 0, .slice none 0 0, .slice none 0 0]) ?_ 0 _ rfl; (with_reducible repeat (first | refine blk_drewN ?_ _ | refine blk_drew ?_ | refine blk_alloc ?_ _)); exact BK229.out) Try.underlying31 rfl (by kernel_rfl)) rfl ?_
   exact ⟨_, _, by first | rfl | (simp [errW_none, errW_some] <;> rfl) | (simp [*, errW_none, errW_some] <;> rfl), by first | exact Kd.R_nil _ _ _ _ _ | exact Kd.N_nil _ _ _ _ _ | exact Kd.V_nil _ _ _ _ _ | exact Kd.Q_nil _ _ _ _ _ | exact Kd.S_nil _ _ _ _ _, by first | exact Kd.R_nil _ _ _ _ _ | exact Kd.N_nil _ _ _ _ _ | exact Kd.V_nil _ _ _ _ _ | exact Kd.Q_nil _ _ _ _ _ | exact Kd.S_nil _ _ _ _ _, by repeat (first | (with_reducible first | exact HB.out | apply below_alloc | apply pw_below_drewN | apply below_drew1 | refine below_set ?_ GE228.out | refine below_set ?_ GE229.out | refine below_set ?_ GE237.out) | exact HB.out)⟩
 ·replace c5 := Bool.eq_false_iff.mpr c5
  subst c5
  rw [if_neg (show ¬ (false = true) by decide)] at H
  simp only [Option.some.injEq, Prod.mk.injEq] at H
  obtain ⟨rfl, rfl, rfl, rfl, rfl, rfl⟩ := H
  go_enter Try.func32, Try.ntmps32
  go_wp2_with (first | ((with_reducible refine gate_dst (N := 3) rfl ?_); refine box_event ?hg (N := 3) ?hd (cs := #[.int .i64 a0_0, .int .i64 a0_1, .int .i64 a0_2, .slice A0_3 l0_3.length c0_3, .slice A0_4 l0_4.length c0_4]) (t := 31) ?hr ?_; (case hd => rfl); (case hg => rfl); (case hr => first | (go_simp; done) | (go_simp; rfl)); intro gb228 hg w59 hbox hb; have BK228 := Aside0.mk hbox; have GW228 := ge_ HB hg; have GE228 := ge_ HB hg; replace HB := Aside0.mk (bt_ HB hb); clear hb hbox hg) | ((with_reducible refine gate_dst (N := 6) rfl ?_); refine box_event ?hg (N := 6) ?hd (cs := #[.int .i64 0, .int .i64 0, .int .i64 0, .slice none 0 0, .slice none 0 0]) (t := 31) ?hr ?_; (case hd => rfl); (case hg => rfl); (case hr => first | (go_simp; done) | (go_simp; rfl)); intro gb229 hg w60 hbox hb; have BK229 := Aside0.mk hbox; have GW229 := ge_ HB hg; have GE229 := ge_ HB hg; have NB228_229 := nl_ BK228 hg; have NB229_228 := ng_ BK228 hg; replace HB := Aside0.mk (bt_ HB hb); replace BK228 := Aside0.mk (bb_ BK228 hb); clear hb hbox hg; have hnb61 := NB228_229.out; have hnc61 := NB229_228.out; have hcz62_0 := cz_ BK228 0 (.int .i64 a0_0); have hcz62_1 := cz_ BK228 1 (.int .i64 a0_1); have hcz62_2 := cz_ BK228 2 (.int .i64 a0_2); have hcz62_3 := cz_ BK228 3 (.slice A0_3 l0_3.length c0_3); have hcz62_4 := cz_ BK228 4 (.slice A0_4 l0_4.length c0_4); have hfz62_0 := blk_frozen BK228.out 0; have hfz62_1 := blk_frozen BK228.out 1; have hfz62_2 := blk_frozen BK228.out 2; have hfz62_3 := blk_frozen BK228.out 3; have hfz62_4 := blk_frozen BK228.out 4) | ((with_reducible refine gate_callee (f := 16) rfl ?_); refine gl_ (some 10) Try.func16 #[.agg #[.int .i64 a0_0, .int .i64 a0_1, .int .i64 a0_2, .slice A0_3 l0_3.length c0_3, .slice A0_4 l0_4.length c0_4]] ?_; (with_reducible refine (impl_LsaOk.calls k a0_0 a0_1 a0_2 _ _ l0_3 _ _ l0_4 false _ ?side1 ?side2 ?side3 ?side4 A4.out).mono ?_); (case side1 => exact cb_ HR0_3 HB); (case side2 => exact HC0_3.out); (case side3 => exact cb_ HR0_4 HB); (case side4 => exact HC0_4.out); rintro e w63 ⟨rfl, hb⟩; refine ⟨_, rfl, ?_⟩; replace BK228 := Aside0.mk (bb_ BK228 hb); replace BK229 := Aside0.mk (bb_ BK229 hb); replace HB := Aside0.mk (bt_ HB hb); (try clear hb); (try clear hb2); (try clear hk); (try clear hi); have hcz64_0 := cz_ BK229 0 (.int .i64 0); have hcz64_1 := cz_ BK229 1 (.int .i64 0); have hcz64_2 := cz_ BK229 2 (.int .i64 0); have hcz64_3 := cz_ BK229 3 (.slice none 0 0); have hcz64_4 := cz_ BK229 4 (.slice none 0 0); have hfz64_0 := blk_frozen BK229.out 0; have hfz64_1 := blk_frozen BK229.out 1; have hfz64_2 := blk_frozen BK229.out 2; have hfz64_3 := blk_frozen BK229.out 3; have hfz64_4 := blk_frozen BK229.out 4))
  refine bodyPost_ret (results_ct rfl _ _ gb229 31 #[.int .i64 0, .int .i64 0, .int .i64 0, .slice none 0 0, .slice none 0 0] (0, 0) _ rfl (by (with_reducible repeat (first | refine blk_drewN ?_ _ | refine blk_drew ?_ | refine blk_alloc ?_ _)); refine blk_put (cs := #[.int .i64 0, .int .i64 0, .int .i64 0, .slice none 0 0, .slice none 0 0]) ?_ 4 _ rfl; (with_reducible repeat (first | refine blk_drewN ?_ _ | refine blk_drew ?_ | refine blk_alloc ?_ _)); refine blk_put (cs := #[.int .i64 0, .int .i64 0, .int .i64 0, .slice none 0 0, .slice none 0 0]) ?_ 3 _ rfl; (with_reducible repeat (first | refine blk_drewN ?_ _ | refine blk_drew ?_ | refine blk_alloc ?_ _)); refine blk_put (cs := #[.int .i64 0, .int .i64 0, .int .i64 0, .slice none 0 0, .slice none 0 0]) ?_ 2 _ rfl; (with_reducible repeat (first | refine blk_drewN ?_ _ | refine blk_drew ?_ | refine blk_alloc ?_ _)); refine blk_put (cs := #[.int .i64 0, .int .i64 0, .int .i64 0, .slice none 0 0, .slice none 0 0]) ?_ 1 _ rfl; (with_reducible repeat (first | refine blk_drewN ?_ _ | refine blk_drew ?_ | refine blk_alloc ?_ _)); refine blk_put (cs := #[.int .i64 0, .int .i64 0, .int .i64 0, .slice none 0 0, .slice none 0 0]) ?_ 0 _ rfl; (with_reducible repeat (first | refine blk_drewN ?_ _ | refine blk_drew ?_ | refine blk_alloc ?_ _)); exact BK229.out) Try.underlying31 rfl (by kernel_rfl)) rfl ?_
  exact ⟨_, _, by first | rfl | (simp [errW_none, errW_some] <;> rfl) | (simp [*, errW_none, errW_some] <;> rfl), by first | exact Kd.R_nil _ _ _ _ _ | exact Kd.N_nil _ _ _ _ _ | exact Kd.V_nil _ _ _ _ _ | exact Kd.Q_nil _ _ _ _ _ | exact Kd.S_nil _ _ _ _ _, by first | exact Kd.R_nil _ _ _ _ _ | exact Kd.N_nil _ _ _ _ _ | exact Kd.V_nil _ _ _ _ _ | exact Kd.Q_nil _ _ _ _ _ | exact Kd.S_nil _ _ _ _ _, by repeat (first | (with_reducible first | exact HB.out | apply below_alloc | apply pw_below_drewN | apply below_drew1 | refine below_set ?_ GE228.out | refine below_set ?_ GE229.out) | exact HB.out)⟩

end Go.Proofs.Ytiikcfaodkiakaa.QFnExactNextLsa
