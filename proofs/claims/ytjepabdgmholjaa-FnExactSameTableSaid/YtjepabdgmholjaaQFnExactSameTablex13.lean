/- Contracts of functions that the law reaches: what each call returns and what it leaves in memory. Made by this session over the print of the kit. -/
import Derived.Test.YtjepabdgmholjaaQFnExactSameTablex0
import Derived.Test.YtjepabdgmholjaaQFnExactSameTablex7
import Derived.Test.YtjepabdgmholjaaQFnExactSameTablex8
import Derived.Test.YtjepabdgmholjaaQFnExactSameTablex12
namespace Go.Proofs.Ytjepabdgmholjaa.QFnExactSameTable
open Go.RowKit Go.Proofs.YtjepabdgmholjaaU.PrintWords Go.Proofs.YtjepabdgmholjaaU.PrintLast Go.Proofs.YtjepabdgmholjaaU.PrintMore
attribute [local go_sem] max2_int min2_int max_two min_two max_three min_three max_four min_four   -- for this text's walks alone
set_option linter.unusedVariables false
set_option linter.unusedSimpArgs false
def ba13_0 : Array Bool := #[false, false, false, false, false, false, false, false, false, false, false, false, false, false, false, false]
def ba13_1 : Array Bool := #[true, false, false, false, false, false, false, false, false, false, false, false, false, false, false, false]
def ba13_2 : Array Bool := #[true, true, false, false, false, false, false, false, false, false, false, false, false, false, false, false]
def ba13_3 : Array Bool := #[true, true, true, false, false, false, false, false, false, false, false, false, false, false, false, false]
def ba13_4 : Array Bool := #[true, true, true, true, false, false, false, false, false, false, false, false, false, false, false, false]
def ba13_5 : Array Bool := #[true, true, true, true, true, false, false, false, false, false, false, false, false, false, false, false]
def ba13_6 : Array Bool := #[true, true, true, true, true, true, false, false, false, false, false, false, false, false, false, false]
def ba13_7 : Array Bool := #[true, true, true, true, true, true, true, false, false, false, false, false, false, false, false, false]
def ba13_8 : Array Bool := #[true, true, true, true, true, true, true, true, false, false, false, false, false, false, false, false]
def ba13_9 : Array Bool := #[true, true, true, true, true, true, true, true, false, false, true, false, false, false, false, false]
def ba13_10 : Array Bool := #[true, true, true, true, true, true, true, true, true, false, true, false, false, false, false, false]
def ba13_11 : Array Bool := #[true, true, true, true, true, true, true, true, true, false, true, true, false, false, false, false]
def ba13_12 : Array Bool := #[true, true, true, true, true, true, true, true, true, true, true, true, false, false, false, false]
def ba13_13 : Array Bool := #[true, true, true, true, true, true, true, true, true, true, true, true, true, false, false, false]
def ba13_14 : Array Bool := #[true, true, true, true, true, true, true, true, true, true, true, true, true, true, false, false]
def ba13_15 : Array Bool := #[true, true, true, true, true, true, true, true, true, true, true, true, true, true, true, false]
def ba13_16 : Array Bool := #[true, true, true, true, true, true, true, true, true, true, true, true, true, true, true, true]
def ba13_17 : Array Bool := #[true, true, true, true, true, true, true, true, true, false, false, false, false, false, false, false]
def ba13_18 : Array Bool := #[true, true, true, true, true, true, true, true, true, true, false, false, false, false, false, false]
def ba13_19 : Array Bool := #[true, true, true, true, true, true, true, true, true, true, true, false, false, false, false, false]

/-! ### impl_SameTable: function 29 -/
def impl_SameTable.f (k : Nat) (l0_0 : List (S29)) (l1_0 : List (S29)) : Option (Bool) := (impl_TableOk.f k l0_0).bind fun t253 => (if t253 = true then ((impl_TableOk.f k l1_0).bind fun t254 => (if t254 = true then ((impl_hopsOf.f k l0_0).bind fun t255 => ((impl_hopsOf.f k l1_0).bind fun t258 => ((slices_Equal_int_int.f k t255 t258).bind fun t261 => (some t261)))) else (some false))) else (some false))
theorem impl_SameTable.mono : ∀ a0 a1 k, LeO (impl_SameTable.f k a0 a1) (impl_SameTable.f (k + 1) a0 a1) := by
 intro a0 a1 k
 unfold impl_SameTable.f
 repeat' first
   | (with_reducible exact impl_TableOk.mono _ _)
   | (with_reducible exact impl_hopsOf.mono _ _)
   | (with_reducible exact slices_Equal_int_int.mono _ _ _)
   | (with_reducible exact LeO.refl _)
   | (with_reducible exact LeO.none _)
   | (with_reducible refine LeO.ite ?_ ?_)
   | (with_reducible refine LeO.bind ?_ (fun _ => ?_))
   | exact impl_TableOk.mono _ _
   | exact impl_hopsOf.mono _ _
   | exact slices_Equal_int_int.mono _ _ _
   | exact LeO.none _
   | refine LeO.ite ?_ ?_
   | refine LeO.bind ?_ (fun _ => ?_)
def impl_SameTable.T1 : Bool × List (List Nat × List Nat) := (true, [([], []), ([0], [0]), ([1, 1], [1]), ([2], [2]), ([3, 2, 2], [2, 3]), ([2, 4], [2, 4]), ([5, 4], [5]), ([6], [6]), ([7, 6], [6, 7]), ([8, 6, 6], [6, 8]), ([6], [6]), ([10, 6], [6, 10]), ([11, 9, 6], [6, 11]), ([9, 12, 12, 6], [6, 9, 12]), ([6, 13], [6, 13]), ([14, 13, 0, 1, 2, 3, 4, 5, 6, 7, 8, 9, 10, 11, 12, 13, 14], [14])])
def impl_SameTable.B1 : List Nat := [0, 1, 3, 7, 15, 31, 63, 127, 255, 511, 127, 1151, 4095, 8191, 16383, 32767]
theorem impl_SameTable.tab1 : rtab .any (opsOf Try.f29 1) = impl_SameTable.T1 := by kernel_rfl
theorem impl_SameTable.bits1 : waitsOk impl_SameTable.T1.2 impl_SameTable.B1 = true := by kernel_rfl
set_option maxHeartbeats 8000000 in
set_option maxRecDepth 100000 in
theorem impl_SameTable.calls (k : Nat) (A0_0 : Option Addr) (c0_0 : Nat) (l0_0 : List (S29)) (A1_0 : Option Addr) (c1_0 : Nat) (l1_0 : List (S29)) (r : Bool) (w : World) (hr0_0 : Kd.C k29 w A0_0 l0_0.length l0_0) (hc0_0 : l0_0.length ≤ c0_0) (hr1_0 : Kd.C k29 w A1_0 l1_0.length l1_0) (hc1_0 : l1_0.length ≤ c1_0) (h : impl_SameTable.f k l0_0 l1_0 = some r) :
  Calls Try.prog 29 #[.agg #[.slice A0_0 l0_0.length c0_0], .agg #[.slice A1_0 l1_0.length c1_0]] w fun e w' => e = .returned (.bool r) ∧ Below w.heap.size w w' := by
 have hu34 := Try.underlying34
 have HR0_0 := Aside0.mk hr0_0
 have HC0_0 := Aside0.mk hc0_0
 clear hr0_0 hc0_0
 have HR1_0 := Aside0.mk hr1_0
 have HC1_0 := Aside0.mk hc1_0
 clear hr1_0 hc1_0
 have HB := Aside0.mk (Below.refl w.heap.size w)
 have H : ((impl_TableOk.f k l0_0).bind fun t253 => (if t253 = true then ((impl_TableOk.f k l1_0).bind fun t254 => (if t254 = true then ((impl_hopsOf.f k l0_0).bind fun t255 => ((impl_hopsOf.f k l1_0).bind fun t258 => ((slices_Equal_int_int.f k t255 t258).bind fun t261 => (some t261)))) else (some false))) else (some false))) = some r := h
 clear h
 replace H := Option.bind_eq_some_iff.mp H
 obtain ⟨t253, A30, H⟩ := H
 have A3 := Aside0.mk A30
 clear A30
 by_cases c4 : t253 = true
 ·subst c4
  rw [if_pos rfl] at H
  replace H := Option.bind_eq_some_iff.mp H
  obtain ⟨t254, A50, H⟩ := H
  have A5 := Aside0.mk A50
  clear A50
  by_cases c6 : t254 = true
  ·subst c6
   rw [if_pos rfl] at H
   replace H := Option.bind_eq_some_iff.mp H
   obtain ⟨t255, A70, H⟩ := H
   have A7 := Aside0.mk A70
   clear A70
   replace H := Option.bind_eq_some_iff.mp H
   obtain ⟨t258, A80, H⟩ := H
   have A8 := Aside0.mk A80
   clear A80
   replace H := Option.bind_eq_some_iff.mp H
   obtain ⟨t261, A90, H⟩ := H
   have A9 := Aside0.mk A90
   clear A90
   obtain rfl := Option.some.inj H
   go_enter Try.func29, Try.ntmps29
   try go_wp2_with (first | ((with_reducible refine gate_dst (N := 2) rfl ?_); refine box_event ?hg (N := 2) ?hd (cs := #[.slice A0_0 l0_0.length c0_0]) (t := 34) ?hr ?_; (case hd => rfl); (case hg => rfl); (case hr => first | (go_simp; done) | (go_simp; rfl)); intro gb251 hg w10 hbox hb; have BK251 := Aside0.mk hbox; have GW251 := ge_ HB hg; have GE251 := ge_ HB hg; replace HB := Aside0.mk (bt_ HB hb); clear hb hbox hg) | ((with_reducible refine gate_dst (N := 3) rfl ?_); refine box_event ?hg (N := 3) ?hd (cs := #[.slice A1_0 l1_0.length c1_0]) (t := 34) ?hr ?_; (case hd => rfl); (case hg => rfl); (case hr => first | (go_simp; done) | (go_simp; rfl)); intro gb252 hg w11 hbox hb; have BK252 := Aside0.mk hbox; have GW252 := ge_ HB hg; have GE252 := ge_ HB hg; have NB251_252 := nl_ BK251 hg; have NB252_251 := ng_ BK251 hg; replace HB := Aside0.mk (bt_ HB hb); replace BK251 := Aside0.mk (bb_ BK251 hb); clear hb hbox hg))
   replace BK251 := Aside0.mk (blk_drew BK251.out)
   replace BK252 := Aside0.mk (blk_drew BK252.out)
   replace HB := Aside0.mk (below_drew1 HB.out)
   refine start_ (n := 16) (S := fun w' => w'.cell? ⟨gb251, 0, none⟩ = some (.slice A0_0 l0_0.length c0_0) ∧ w'.cell? ⟨gb252, 0, none⟩ = some (.slice A1_0 l1_0.length c1_0)) (ds := []) ba13_0 (by kernel_rfl) rfl rfl ⟨(blk_cell BK251.out 0).trans rfl, (blk_cell BK252.out 0).trans rfl⟩ (fun hHeld => ?_); refine with_tabW impl_SameTable.tab1 impl_SameTable.bits1 (fun HT_ HW_ => ?_)
   generalize w11.drew = w12 at BK251 BK252 HB hHeld ⊢
   refine pt_ 0 5 ba13_1 HT_ HW_ hHeld ?_
   refine one_ (i := 1) (N := some 6) ba13_2 rfl rfl (one_of HT_.out (by kernel_rfl)) (by decide) (fun K hK => ?_)
   refine gz_ Try.func47 #[.agg #[.slice A0_0 l0_0.length c0_0]] ?_
   with_reducible refine (impl_TableOk.calls k _ _ l0_0 true _ ?side1 ?side2 A3.out).mono ?_
   (case side1 => exact cb_ HR0_0 HB)
   (case side2 => exact HC0_0.out)
   rintro e w13 ⟨rfl, hb⟩
   refine ⟨_, rfl, ?_⟩
   replace BK251 := Aside0.mk (bb_ BK251 hb)
   replace BK252 := Aside0.mk (bb_ BK252 hb)
   replace HB := Aside0.mk (bt_ HB hb)
   (try clear hb)
   (try clear hb2)
   (try clear hk)
   (try clear hi)
   refine hK.out _ _ ⟨(blk_cell BK251.out 0).trans rfl, (blk_cell BK252.out 0).trans rfl⟩ (fun hHeld => ?_)
   clear hK K
   refine nz_ 6 ?_
   refine pz_ 2 7 ba13_3 HT_ ?_
   refine pt_ 3 8 ba13_4 HT_ HW_ hHeld ?_
   refine one_ (i := 4) (N := some 9) ba13_5 rfl rfl (one_of HT_.out (by kernel_rfl)) (by decide) (fun K hK => ?_)
   refine gz_ Try.func47 #[.agg #[.slice A1_0 l1_0.length c1_0]] ?_
   with_reducible refine (impl_TableOk.calls k _ _ l1_0 true _ ?side1 ?side2 A5.out).mono ?_
   (case side1 => exact cb_ HR1_0 HB)
   (case side2 => exact HC1_0.out)
   rintro e w14 ⟨rfl, hb⟩
   refine ⟨_, rfl, ?_⟩
   replace BK251 := Aside0.mk (bb_ BK251 hb)
   replace BK252 := Aside0.mk (bb_ BK252 hb)
   replace HB := Aside0.mk (bt_ HB hb)
   (try clear hb)
   (try clear hb2)
   (try clear hk)
   (try clear hi)
   refine hK.out _ _ ⟨(blk_cell BK251.out 0).trans rfl, (blk_cell BK252.out 0).trans rfl⟩ (fun hHeld => ?_)
   clear hK K
   refine nz_ 9 ?_
   refine pz_ 5 10 ba13_6 HT_ ?_
   refine pz_ 6 11 ba13_7 HT_ ?_
   refine pz_ 7 12 ba13_8 HT_ ?_
   refine pz_ 10 15 ba13_9 HT_ ?_
   refine pt_ 8 13 ba13_10 HT_ HW_ hHeld ?_
   refine pt_ 11 16 ba13_11 HT_ HW_ hHeld ?_
   refine one_ (i := 9) (N := some 14) ba13_12 rfl rfl (one_of HT_.out (by kernel_rfl)) (by decide) (fun K hK => ?_)
   refine gz_ Try.func65 #[.slice A0_0 l0_0.length c0_0] ?_
   with_reducible refine (impl_hopsOf.calls k _ _ l0_0 t255 _ ?side1 ?side2 A7.out).mono ?_
   (case side1 => exact cb_ HR0_0 HB)
   (case side2 => exact HC0_0.out)
   rintro e w15 ⟨v256, rfl, ho0, hb⟩
   refine ⟨_, rfl, ?_⟩
   have HO257 := Aside0.mk (Kd.R_lower ho0 (bz_ HB))
   replace BK251 := Aside0.mk (bb_ BK251 hb)
   replace BK252 := Aside0.mk (bb_ BK252 hb)
   replace HB := Aside0.mk (bt_ HB hb)
   (try clear hb)
   (try clear hb2)
   (try clear hk)
   (try clear hi)
   (try clear ho0)
   refine hK.out _ _ ⟨(blk_cell BK251.out 0).trans rfl, (blk_cell BK252.out 0).trans rfl⟩ (fun hHeld => ?_)
   clear hK K
   refine nz_ 14 ?_
   refine one_ (i := 12) (N := some 17) ba13_13 rfl rfl (one_of HT_.out (by kernel_rfl)) (by decide) (fun K hK => ?_)
   refine gz_ Try.func65 #[.slice A1_0 l1_0.length c1_0] ?_
   with_reducible refine (impl_hopsOf.calls k _ _ l1_0 t258 _ ?side1 ?side2 A8.out).mono ?_
   (case side1 => exact cb_ HR1_0 HB)
   (case side2 => exact HC1_0.out)
   rintro e w16 ⟨v259, rfl, ho0, hb⟩
   refine ⟨_, rfl, ?_⟩
   have HO260 := Aside0.mk (Kd.R_lower (Kd.R_new' ho0 (Kd.R_lt (hd_ HO257))) (bz_ HB))
   replace HO257 := Aside0.mk (Kd.R_elder' (hd_ HO257) (Kd.R_base ho0) hb)
   replace BK251 := Aside0.mk (bb_ BK251 hb)
   replace BK252 := Aside0.mk (bb_ BK252 hb)
   replace HB := Aside0.mk (bt_ HB hb)
   (try clear hb)
   (try clear hb2)
   (try clear hk)
   (try clear hi)
   (try clear ho0)
   obtain ⟨Ao17, co17, eo17⟩ := Kd.R_slice HO257.out
   (first | subst eo17 | (injection eo17 with f1_ f2_ f3_; have f4_ := f1_.symm; have f5_ := f3_.symm; clear f1_ f2_ f3_; subst f4_; subst f5_))
   obtain ⟨Ao18, co18, eo18⟩ := Kd.R_slice HO260.out
   (first | subst eo18 | (injection eo18 with f1_ f2_ f3_; have f4_ := f1_.symm; have f5_ := f3_.symm; clear f1_ f2_ f3_; subst f4_; subst f5_))
   refine hK.out _ _ ⟨(blk_cell BK251.out 0).trans rfl, (blk_cell BK252.out 0).trans rfl⟩ (fun hHeld => ?_)
   clear hK K
   refine nz_ 17 ?_
   refine one_ (i := 13) (N := some 18) ba13_14 rfl rfl (one_of HT_.out (by kernel_rfl)) (by decide) (fun K hK => ?_)
   refine gz_ Try.func64 #[.slice Ao17 t255.length co17, .slice Ao18 t258.length co18] ?_
   with_reducible refine (slices_Equal_int_int.calls k _ _ t255 _ _ t258 t261 _ ?side1 ?side2 ?side3 ?side4 A9.out).mono ?_
   (case side1 => exact rc_ HO257)
   (case side2 => exact (Kd.R_reads' HO257.out).2.1)
   (case side3 => exact rc_ HO260)
   (case side4 => exact (Kd.R_reads' HO260.out).2.1)
   rintro e w' ⟨rfl, ⟨nd, rfl⟩⟩
   refine ⟨_, rfl, ?_⟩
   refine hK.out _ _ ⟨(blk_cell BK251.out 0).trans rfl, (blk_cell BK252.out 0).trans rfl⟩ (fun hHeld => ?_)
   clear hK K
   refine nz_ 18 ?_
   refine pz_ 14 19 ba13_15 HT_ ?_
   refine pz_ 15 4 ba13_16 HT_ ?_
   refine done_ (done_of HT_.out (by kernel_rfl)) ?_
   try go_wp2
   go_ret
   exact ⟨by first | rfl | (simp [errW_none, errW_some] <;> rfl) | (simp [*, errW_none, errW_some] <;> rfl), by repeat (first | (with_reducible first | exact HB.out | apply below_alloc | apply pw_below_drewN | apply below_drew1 | refine below_set ?_ GE251.out | refine below_set ?_ GE252.out) | exact HB.out)⟩
  ·replace c6 := Bool.eq_false_iff.mpr c6
   subst c6
   rw [if_neg (show ¬ (false = true) by decide)] at H
   obtain rfl := Option.some.inj H
   go_enter Try.func29, Try.ntmps29
   try go_wp2_with (first | ((with_reducible refine gate_dst (N := 2) rfl ?_); refine box_event ?hg (N := 2) ?hd (cs := #[.slice A0_0 l0_0.length c0_0]) (t := 34) ?hr ?_; (case hd => rfl); (case hg => rfl); (case hr => first | (go_simp; done) | (go_simp; rfl)); intro gb251 hg w19 hbox hb; have BK251 := Aside0.mk hbox; have GW251 := ge_ HB hg; have GE251 := ge_ HB hg; replace HB := Aside0.mk (bt_ HB hb); clear hb hbox hg) | ((with_reducible refine gate_dst (N := 3) rfl ?_); refine box_event ?hg (N := 3) ?hd (cs := #[.slice A1_0 l1_0.length c1_0]) (t := 34) ?hr ?_; (case hd => rfl); (case hg => rfl); (case hr => first | (go_simp; done) | (go_simp; rfl)); intro gb252 hg w20 hbox hb; have BK252 := Aside0.mk hbox; have GW252 := ge_ HB hg; have GE252 := ge_ HB hg; have NB251_252 := nl_ BK251 hg; have NB252_251 := ng_ BK251 hg; replace HB := Aside0.mk (bt_ HB hb); replace BK251 := Aside0.mk (bb_ BK251 hb); clear hb hbox hg))
   replace BK251 := Aside0.mk (blk_drew BK251.out)
   replace BK252 := Aside0.mk (blk_drew BK252.out)
   replace HB := Aside0.mk (below_drew1 HB.out)
   refine start_ (n := 16) (S := fun w' => w'.cell? ⟨gb251, 0, none⟩ = some (.slice A0_0 l0_0.length c0_0) ∧ w'.cell? ⟨gb252, 0, none⟩ = some (.slice A1_0 l1_0.length c1_0)) (ds := []) ba13_0 (by kernel_rfl) rfl rfl ⟨(blk_cell BK251.out 0).trans rfl, (blk_cell BK252.out 0).trans rfl⟩ (fun hHeld => ?_); refine with_tabW impl_SameTable.tab1 impl_SameTable.bits1 (fun HT_ HW_ => ?_)
   generalize w20.drew = w21 at BK251 BK252 HB hHeld ⊢
   refine pt_ 0 5 ba13_1 HT_ HW_ hHeld ?_
   refine one_ (i := 1) (N := some 6) ba13_2 rfl rfl (one_of HT_.out (by kernel_rfl)) (by decide) (fun K hK => ?_)
   refine gz_ Try.func47 #[.agg #[.slice A0_0 l0_0.length c0_0]] ?_
   with_reducible refine (impl_TableOk.calls k _ _ l0_0 true _ ?side1 ?side2 A3.out).mono ?_
   (case side1 => exact cb_ HR0_0 HB)
   (case side2 => exact HC0_0.out)
   rintro e w22 ⟨rfl, hb⟩
   refine ⟨_, rfl, ?_⟩
   replace BK251 := Aside0.mk (bb_ BK251 hb)
   replace BK252 := Aside0.mk (bb_ BK252 hb)
   replace HB := Aside0.mk (bt_ HB hb)
   (try clear hb)
   (try clear hb2)
   (try clear hk)
   (try clear hi)
   refine hK.out _ _ ⟨(blk_cell BK251.out 0).trans rfl, (blk_cell BK252.out 0).trans rfl⟩ (fun hHeld => ?_)
   clear hK K
   refine nz_ 6 ?_
   refine pz_ 2 7 ba13_3 HT_ ?_
   refine pt_ 3 8 ba13_4 HT_ HW_ hHeld ?_
   refine one_ (i := 4) (N := some 9) ba13_5 rfl rfl (one_of HT_.out (by kernel_rfl)) (by decide) (fun K hK => ?_)
   refine gz_ Try.func47 #[.agg #[.slice A1_0 l1_0.length c1_0]] ?_
   with_reducible refine (impl_TableOk.calls k _ _ l1_0 false _ ?side1 ?side2 A5.out).mono ?_
   (case side1 => exact cb_ HR1_0 HB)
   (case side2 => exact HC1_0.out)
   rintro e w23 ⟨rfl, hb⟩
   refine ⟨_, rfl, ?_⟩
   replace BK251 := Aside0.mk (bb_ BK251 hb)
   replace BK252 := Aside0.mk (bb_ BK252 hb)
   replace HB := Aside0.mk (bt_ HB hb)
   (try clear hb)
   (try clear hb2)
   (try clear hk)
   (try clear hi)
   refine hK.out _ _ ⟨(blk_cell BK251.out 0).trans rfl, (blk_cell BK252.out 0).trans rfl⟩ (fun hHeld => ?_)
   clear hK K
   refine nz_ 9 ?_
   refine pz_ 5 10 ba13_6 HT_ ?_
   refine pz_ 6 11 ba13_7 HT_ ?_
   refine pu_ 7 12 ba13_8 HT_ ?_
   refine pu_ 8 13 ba13_17 HT_ ?_
   refine pu_ 9 14 ba13_18 HT_ ?_
   refine pu_ 10 15 ba13_19 HT_ ?_
   refine pu_ 11 16 ba13_12 HT_ ?_
   refine pu_ 12 17 ba13_13 HT_ ?_
   refine pu_ 13 18 ba13_14 HT_ ?_
   refine pz_ 14 19 ba13_15 HT_ ?_
   refine pz_ 15 4 ba13_16 HT_ ?_
   refine done_ (done_of HT_.out (by kernel_rfl)) ?_
   try go_wp2
   go_ret
   exact ⟨by first | rfl | (simp [errW_none, errW_some] <;> rfl) | (simp [*, errW_none, errW_some] <;> rfl), by repeat (first | (with_reducible first | exact HB.out | apply below_alloc | apply pw_below_drewN | apply below_drew1 | refine below_set ?_ GE251.out | refine below_set ?_ GE252.out) | exact HB.out)⟩
 ·replace c4 := Bool.eq_false_iff.mpr c4
  subst c4
  rw [if_neg (show ¬ (false = true) by decide)] at H
  obtain rfl := Option.some.inj H
  go_enter Try.func29, Try.ntmps29
  try go_wp2_with (first | ((with_reducible refine gate_dst (N := 2) rfl ?_); refine box_event ?hg (N := 2) ?hd (cs := #[.slice A0_0 l0_0.length c0_0]) (t := 34) ?hr ?_; (case hd => rfl); (case hg => rfl); (case hr => first | (go_simp; done) | (go_simp; rfl)); intro gb251 hg w24 hbox hb; have BK251 := Aside0.mk hbox; have GW251 := ge_ HB hg; have GE251 := ge_ HB hg; replace HB := Aside0.mk (bt_ HB hb); clear hb hbox hg) | ((with_reducible refine gate_dst (N := 3) rfl ?_); refine box_event ?hg (N := 3) ?hd (cs := #[.slice A1_0 l1_0.length c1_0]) (t := 34) ?hr ?_; (case hd => rfl); (case hg => rfl); (case hr => first | (go_simp; done) | (go_simp; rfl)); intro gb252 hg w25 hbox hb; have BK252 := Aside0.mk hbox; have GW252 := ge_ HB hg; have GE252 := ge_ HB hg; have NB251_252 := nl_ BK251 hg; have NB252_251 := ng_ BK251 hg; replace HB := Aside0.mk (bt_ HB hb); replace BK251 := Aside0.mk (bb_ BK251 hb); clear hb hbox hg))
  replace BK251 := Aside0.mk (blk_drew BK251.out)
  replace BK252 := Aside0.mk (blk_drew BK252.out)
  replace HB := Aside0.mk (below_drew1 HB.out)
  refine start_ (n := 16) (S := fun w' => w'.cell? ⟨gb251, 0, none⟩ = some (.slice A0_0 l0_0.length c0_0)) (ds := []) ba13_0 (by kernel_rfl) rfl rfl ((blk_cell BK251.out 0).trans rfl) (fun hHeld => ?_); refine with_tabW impl_SameTable.tab1 impl_SameTable.bits1 (fun HT_ HW_ => ?_)
  generalize w25.drew = w26 at BK251 BK252 HB hHeld ⊢
  refine take_ (i := 0) (N := some 5) (v := ?_) (a' := ?_) ba13_1 rfl rfl (take_ofW HT_.out HW_.out (by kernel_rfl)) (fun _ _ _ h => h) (Or.inl ⟨by rfl, ?_⟩) hHeld ?_ ?_
  rotate_left; · intro w' s0; go_simp; with_reducible rfl
  rotate_left; · simp only [Act.put, List.setIfInBounds_toArray, List.set_cons_zero, List.set_cons_succ, i64_w, i32_w]; rfl
  refine one_ (i := 1) (N := some 6) ba13_2 rfl rfl (one_of HT_.out (by kernel_rfl)) (by decide) (fun K hK => ?_)
  refine gz_ Try.func47 #[.agg #[.slice A0_0 l0_0.length c0_0]] ?_
  with_reducible refine (impl_TableOk.calls k _ _ l0_0 false _ ?side1 ?side2 A3.out).mono ?_
  (case side1 => exact cb_ HR0_0 HB)
  (case side2 => exact HC0_0.out)
  rintro e w27 ⟨rfl, hb⟩
  refine ⟨_, rfl, ?_⟩
  replace BK251 := Aside0.mk (bb_ BK251 hb)
  replace BK252 := Aside0.mk (bb_ BK252 hb)
  replace HB := Aside0.mk (bt_ HB hb)
  (try clear hb)
  (try clear hb2)
  (try clear hk)
  (try clear hi)
  refine hK.out _ _ ((blk_cell BK251.out 0).trans rfl) (fun hHeld => ?_)
  clear hK K
  refine nz_ 6 ?_
  refine pz_ 2 7 ba13_3 HT_ ?_
  refine pu_ 3 8 ba13_4 HT_ ?_
  refine pu_ 4 9 ba13_5 HT_ ?_
  refine pz_ 5 10 ba13_6 HT_ ?_
  refine pz_ 6 11 ba13_7 HT_ ?_
  refine pu_ 7 12 ba13_8 HT_ ?_
  refine pu_ 8 13 ba13_17 HT_ ?_
  refine pu_ 9 14 ba13_18 HT_ ?_
  refine pu_ 10 15 ba13_19 HT_ ?_
  refine pu_ 11 16 ba13_12 HT_ ?_
  refine pu_ 12 17 ba13_13 HT_ ?_
  refine pu_ 13 18 ba13_14 HT_ ?_
  refine pz_ 14 19 ba13_15 HT_ ?_
  refine pz_ 15 4 ba13_16 HT_ ?_
  refine done_ (done_of HT_.out (by kernel_rfl)) ?_
  try go_wp2
  go_ret
  exact ⟨by first | rfl | (simp [errW_none, errW_some] <;> rfl) | (simp [*, errW_none, errW_some] <;> rfl), by repeat (first | (with_reducible first | exact HB.out | apply below_alloc | apply pw_below_drewN | apply below_drew1 | refine below_set ?_ GE251.out | refine below_set ?_ GE252.out) | exact HB.out)⟩

end Go.Proofs.Ytjepabdgmholjaa.QFnExactSameTable
