/- Contracts of functions that the law reaches: what each call returns and what it leaves in memory. Made by this session over the print of the kit. -/
import Derived.Test.YtiikcfaodkiakaaQFnExactPutLsax0
import Derived.Test.YtiikcfaodkiakaaQFnExactPutLsax12
import Derived.Test.YtiikcfaodkiakaaQFnExactPutLsax13
namespace Go.Proofs.Ytiikcfaodkiakaa.QFnExactPutLsa
open Go.RowKit Go.Proofs.YtiikcfaodkiakaaU.PrintWords Go.Proofs.YtiikcfaodkiakaaU.PrintLast Go.Proofs.YtiikcfaodkiakaaU.PrintMore
attribute [local go_sem] max2_int min2_int max_two min_two max_three min_three max_four min_four   -- for this text's walks alone
set_option linter.unusedVariables false
set_option linter.unusedSimpArgs false
def ba14_0 : Array Bool := #[false, false, false, false, false, false, false, false, false, false, false]
def ba14_1 : Array Bool := #[false, false, true, false, false, false, false, false, false, false, false]
def ba14_2 : Array Bool := #[true, false, true, false, false, false, false, false, false, false, false]
def ba14_3 : Array Bool := #[true, false, true, true, false, false, false, false, false, false, false]
def ba14_4 : Array Bool := #[true, false, true, true, true, false, false, false, false, false, false]
def ba14_5 : Array Bool := #[true, false, true, true, true, false, false, true, false, false, false]
def ba14_6 : Array Bool := #[true, true, true, true, true, true, false, true, false, false, false]
def ba14_7 : Array Bool := #[true, true, true, true, true, false, false, true, false, false, false]
def ba14_8 : Array Bool := #[true, false, true, true, true, true, false, true, false, false, false]
def ba14_9 : Array Bool := #[true, true, true, true, true, true, true, true, false, false, false]
def ba14_10 : Array Bool := #[true, true, true, true, true, true, true, true, true, false, false]
def ba14_11 : Array Bool := #[true, true, true, true, true, true, true, true, true, true, false]
def ba14_12 : Array Bool := #[true, true, true, true, true, true, true, true, true, true, true]

/-! ### impl_PutLsa: function 47 -/
def impl_PutLsa.f (k : Nat) (a0_0 : Int) (a0_1 : Int) (a0_2 : Int) (l0_3 : List (S70)) (l0_4 : List (S74)) : Option (List Int) := (impl_LsaOk.f k a0_0 a0_1 a0_2 l0_3 l0_4).bind fun t359 => (if t359 = true then ((impl_Lsa_bytes.f k a0_0 a0_1 a0_2 l0_3 l0_4).bind fun t360 => ((some (([(a0_2) % 256] : List Int) : List Int)).bind fun y363 => (if t360.length + y363.length < 140737488355328 then ((impl_Lsa_sum.f k a0_0 a0_1 a0_2 l0_3 l0_4).bind fun t369 => ((impl_big.f k (t360 ++ y363) t369 3).bind fun t370 => (some t370))) else (none)))) else (some ([] : List Int)))
theorem impl_PutLsa.mono : ∀ a0 a1 a2 a3 a4 k, LeO (impl_PutLsa.f k a0 a1 a2 a3 a4) (impl_PutLsa.f (k + 1) a0 a1 a2 a3 a4) := by
 intro a0 a1 a2 a3 a4 k
 unfold impl_PutLsa.f
 repeat' first
   | (with_reducible exact impl_LsaOk.mono _ _ _ _ _ _)
   | (with_reducible exact impl_Lsa_bytes.mono _ _ _ _ _ _)
   | (with_reducible exact impl_Lsa_sum.mono _ _ _ _ _ _)
   | (with_reducible exact impl_big.mono _ _ _ _)
   | (with_reducible exact LeO.refl _)
   | (with_reducible exact LeO.none _)
   | (with_reducible refine LeO.ite ?_ ?_)
   | (with_reducible refine LeO.bind ?_ (fun _ => ?_))
   | exact impl_LsaOk.mono _ _ _ _ _ _
   | exact impl_Lsa_bytes.mono _ _ _ _ _ _
   | exact impl_Lsa_sum.mono _ _ _ _ _ _
   | exact impl_big.mono _ _ _ _
   | exact LeO.none _
   | refine LeO.ite ?_ ?_
   | refine LeO.bind ?_ (fun _ => ?_)
def impl_PutLsa.T3 : Bool × List (List Nat × List Nat) := (true, [([], []), ([0], [0]), ([], []), ([2], [2]), ([3], [3]), ([4], [4]), ([1, 5, 1], [1, 5]), ([], []), ([7, 6], [7]), ([6, 8, 8], [6, 8]), ([9, 9, 0, 1, 2, 3, 4, 5, 6, 7, 8, 9], [9])])
def impl_PutLsa.B3 : List Nat := [0, 1, 0, 4, 12, 28, 63, 0, 255, 511, 1023]
theorem impl_PutLsa.tab3 : rtab .any (opsOf Try.f47 3) = impl_PutLsa.T3 := by kernel_rfl
theorem impl_PutLsa.bits3 : waitsOk impl_PutLsa.T3.2 impl_PutLsa.B3 = true := by kernel_rfl
set_option maxHeartbeats 8000000 in
set_option maxRecDepth 100000 in
theorem impl_PutLsa.calls (k : Nat) (a0_0 : Int) (a0_1 : Int) (a0_2 : Int) (A0_3 : Option Addr) (c0_3 : Nat) (l0_3 : List (S70)) (A0_4 : Option Addr) (c0_4 : Nat) (l0_4 : List (S74)) (r : List Int) (w : World) (hr0_3 : Kd.C k70 w A0_3 l0_3.length l0_3) (hc0_3 : l0_3.length ≤ c0_3) (hr0_4 : Kd.C k74 w A0_4 l0_4.length l0_4) (hc0_4 : l0_4.length ≤ c0_4) (h : impl_PutLsa.f k a0_0 a0_1 a0_2 l0_3 l0_4 = some r) :
  Calls Try.prog 47 #[.agg #[.int .i64 a0_0, .int .i64 a0_1, .int .i64 a0_2, .slice A0_3 l0_3.length c0_3, .slice A0_4 l0_4.length c0_4]] w fun e w' => ∃ v0_ : Value, e = .returned (v0_) ∧ Kd.R (Kd.int .u8) 5 w' w.heap.size (fun _ => True) v0_ r ∧ Below w.heap.size w w' := by
 have hu31 := Try.underlying31
 have HR0_3 := Aside0.mk hr0_3
 have HC0_3 := Aside0.mk hc0_3
 clear hr0_3 hc0_3
 have HR0_4 := Aside0.mk hr0_4
 have HC0_4 := Aside0.mk hc0_4
 clear hr0_4 hc0_4
 have HB := Aside0.mk (Below.refl w.heap.size w)
 have H : ((impl_LsaOk.f k a0_0 a0_1 a0_2 l0_3 l0_4).bind fun t359 => (if t359 = true then ((impl_Lsa_bytes.f k a0_0 a0_1 a0_2 l0_3 l0_4).bind fun t360 => ((some (([(a0_2) % 256] : List Int) : List Int)).bind fun y363 => (if t360.length + y363.length < 140737488355328 then ((impl_Lsa_sum.f k a0_0 a0_1 a0_2 l0_3 l0_4).bind fun t369 => ((impl_big.f k (t360 ++ y363) t369 3).bind fun t370 => (some t370))) else (none)))) else (some ([] : List Int)))) = some r := h
 clear h
 replace H := Option.bind_eq_some_iff.mp H
 obtain ⟨t359, A20, H⟩ := H
 have A2 := Aside0.mk A20
 clear A20
 by_cases c3 : t359 = true
 ·subst c3
  rw [if_pos rfl] at H
  replace H := Option.bind_eq_some_iff.mp H
  obtain ⟨t360, A40, H⟩ := H
  have A4 := Aside0.mk A40
  clear A40
  obtain ⟨y363, hy363⟩ : ∃ y_ : List Int, y_ = (([(a0_2) % 256] : List Int)) := ⟨_, rfl⟩
  replace H : (if t360.length + y363.length < 140737488355328 then ((impl_Lsa_sum.f k a0_0 a0_1 a0_2 l0_3 l0_4).bind fun t369 => ((impl_big.f k (t360 ++ y363) t369 3).bind fun t370 => (some t370))) else (none)) = some r := by first | (rw [hy363]; with_reducible exact H) | (have H2_ := (Option.bind_some _ _).symm.trans H; rw [hy363]; with_reducible exact H2_) | (have H2_ := (Option.bind_some _ _).symm.trans H; with_reducible exact H2_) | with_reducible exact H | (rw [hy363]; exact H) | exact H
  have Ny363 := Aside0.mk hy363
  clear hy363
  by_cases c5 : t360.length + y363.length < 140737488355328
  ·rw [if_pos c5] at H
   have LMc5 := Aside0.mk c5
   clear c5
   obtain ⟨y366, hy366⟩ : ∃ y_ : List Int, y_ = (t360 ++ y363) := ⟨_, rfl⟩
   replace H : ((impl_Lsa_sum.f k a0_0 a0_1 a0_2 l0_3 l0_4).bind fun t369 => ((impl_big.f k y366 t369 3).bind fun t370 => (some t370))) = some r := by first | (rw [hy366]; with_reducible exact H) | (have H2_ := (Option.bind_some _ _).symm.trans H; rw [hy366]; with_reducible exact H2_) | (have H2_ := (Option.bind_some _ _).symm.trans H; with_reducible exact H2_) | with_reducible exact H | (rw [hy366]; exact H) | exact H
   have Ny366 := Aside0.mk hy366
   clear hy366
   replace H := Option.bind_eq_some_iff.mp H
   obtain ⟨t369, A60, H⟩ := H
   have A6 := Aside0.mk A60
   clear A60
   replace H := Option.bind_eq_some_iff.mp H
   obtain ⟨t370, A70, H⟩ := H
   have A7 := Aside0.mk A70
   clear A70
   obtain rfl := Option.some.inj H
   go_enter Try.func47, Try.ntmps47
   try go_wp2_with (first | ((with_reducible refine gate_dst (N := 1) rfl ?_); refine box_event ?hg (N := 1) ?hd (cs := #[.int .i64 a0_0, .int .i64 a0_1, .int .i64 a0_2, .slice A0_3 l0_3.length c0_3, .slice A0_4 l0_4.length c0_4]) (t := 31) ?hr ?_; (case hd => rfl); (case hg => rfl); (case hr => first | (go_simp; done) | (go_simp; rfl)); intro gb358 hg w8 hbox hb; have BK358 := Aside0.mk hbox; have GW358 := ge_ HB hg; have GE358 := ge_ HB hg; replace HB := Aside0.mk (bt_ HB hb); clear hb hbox hg; have hcz9_0 := cz_ BK358 0 (.int .i64 a0_0); have hcz9_1 := cz_ BK358 1 (.int .i64 a0_1); have hcz9_2 := cz_ BK358 2 (.int .i64 a0_2); have hcz9_3 := cz_ BK358 3 (.slice A0_3 l0_3.length c0_3); have hcz9_4 := cz_ BK358 4 (.slice A0_4 l0_4.length c0_4); have hfz9_0 := blk_frozen BK358.out 0; have hfz9_1 := blk_frozen BK358.out 1; have hfz9_2 := blk_frozen BK358.out 2; have hfz9_3 := blk_frozen BK358.out 3; have hfz9_4 := blk_frozen BK358.out 4) | ((with_reducible refine gate_callee (f := 16) rfl ?_); refine gl_ (some 4) Try.func16 #[.agg #[.int .i64 a0_0, .int .i64 a0_1, .int .i64 a0_2, .slice A0_3 l0_3.length c0_3, .slice A0_4 l0_4.length c0_4]] ?_; (with_reducible refine (impl_LsaOk.calls k a0_0 a0_1 a0_2 _ _ l0_3 _ _ l0_4 true _ ?side1 ?side2 ?side3 ?side4 A2.out).mono ?_); (case side1 => exact cb_ HR0_3 HB); (case side2 => exact HC0_3.out); (case side3 => exact cb_ HR0_4 HB); (case side4 => exact HC0_4.out); rintro e w10 ⟨rfl, hb⟩; refine ⟨_, rfl, ?_⟩; replace BK358 := Aside0.mk (bb_ BK358 hb); replace HB := Aside0.mk (bt_ HB hb); (try clear hb); (try clear hb2); (try clear hk); (try clear hi)))
   replace BK358 := Aside0.mk (blk_drew BK358.out)
   replace HB := Aside0.mk (below_drew1 HB.out)
   refine start_ (n := 11) (S := fun w' => w'.cell? ⟨gb358, 0, none⟩ = some (.int .i64 a0_0) ∧ w'.cell? ⟨gb358, 1, none⟩ = some (.int .i64 a0_1) ∧ w'.cell? ⟨gb358, 2, none⟩ = some (.int .i64 a0_2) ∧ w'.cell? ⟨gb358, 3, none⟩ = some (.slice A0_3 l0_3.length c0_3) ∧ w'.cell? ⟨gb358, 4, none⟩ = some (.slice A0_4 l0_4.length c0_4)) (ds := []) ba14_0 (by kernel_rfl) rfl rfl ⟨(blk_cell BK358.out 0).trans rfl, (blk_cell BK358.out 1).trans rfl, (blk_cell BK358.out 2).trans rfl, (blk_cell BK358.out 3).trans rfl, (blk_cell BK358.out 4).trans rfl⟩ (fun hHeld => ?_); refine with_tabW impl_PutLsa.tab3 impl_PutLsa.bits3 (fun HT_ HW_ => ?_)
   generalize w10.drew = w11 at BK358 HB hHeld ⊢
   refine pz_ 2 8 ba14_1 HT_ ?_
   refine pt_ 0 6 ba14_2 HT_ HW_ hHeld ?_
   refine pt_ 3 9 ba14_3 HT_ HW_ hHeld ?_
   refine pz_ 4 10 ba14_4 HT_ ?_
   refine pt_ 7 13 ba14_5 HT_ HW_ hHeld ?_
   refine join_ (σ := Value × Value) 4 ba14_6 (fun s_ => [(7, s_.1), (11, s_.2)]) (fun s_ w' => (w'.cell? ⟨gb358, 0, none⟩ = some (.int .i64 a0_0) ∧ w'.cell? ⟨gb358, 1, none⟩ = some (.int .i64 a0_1) ∧ w'.cell? ⟨gb358, 2, none⟩ = some (.int .i64 a0_2) ∧ w'.cell? ⟨gb358, 3, none⟩ = some (.slice A0_3 l0_3.length c0_3) ∧ w'.cell? ⟨gb358, 4, none⟩ = some (.slice A0_4 l0_4.length c0_4)) ∧ (Kd.R (Kd.int .u8) 5 w' w.heap.size (fun k_ => some k_ ≠ (s_.2 : Value).ownBlock) s_.1 t360) ∧ (Kd.R (Kd.int .u8) 5 w' w.heap.size (fun k_ => some k_ ≠ (s_.1 : Value).ownBlock) s_.2 y363) ∧ (w'.heap[gb358]? = some (.cells #[.int .i64 a0_0, .int .i64 a0_1, .int .i64 a0_2, .slice A0_3 l0_3.length c0_3, .slice A0_4 l0_4.length c0_4] 31 (0, 0))) ∧ (Below w.heap.size w w')) ?_ ?_
   rotate_left
   ·intro hCont
    refine two_ (i := 1) (j := 5) (Ni := some 7) (Nj := some 11) ba14_7 ba14_8 rfl rfl rfl rfl (two_of HT_.out (by kernel_rfl)) (by decide) (by decide) (fun K hK => ?_) (fun K hK => ?_)
    ·skip
     refine gz_ Try.func77 #[.agg #[.int .i64 a0_0, .int .i64 a0_1, .int .i64 a0_2, .slice A0_3 l0_3.length c0_3, .slice A0_4 l0_4.length c0_4]] ?_
     with_reducible refine (impl_Lsa_bytes.calls k a0_0 a0_1 a0_2 _ _ l0_3 _ _ l0_4 t360 _ ?side1 ?side2 ?side3 ?side4 A4.out).mono ?_
     (case side1 => exact cb_ HR0_3 HB)
     (case side2 => exact HC0_3.out)
     (case side3 => exact cb_ HR0_4 HB)
     (case side4 => exact HC0_4.out)
     rintro e w12 ⟨v361, rfl, ho0, hb⟩
     refine ⟨_, rfl, ?_⟩
     have HO362 := Aside0.mk (Kd.R_lower ho0 (bz_ HB))
     replace BK358 := Aside0.mk (bb_ BK358 hb)
     replace HB := Aside0.mk (bt_ HB hb)
     (try clear hb)
     (try clear hb2)
     (try clear hk)
     (try clear hi)
     (try clear ho0)
     refine hK.out _ _ ⟨(blk_cell BK358.out 0).trans rfl, (blk_cell BK358.out 1).trans rfl, (blk_cell BK358.out 2).trans rfl, (blk_cell BK358.out 3).trans rfl, (blk_cell BK358.out 4).trans rfl⟩ (fun hHeld => ?_)
     clear hK K
     refine nz_ 7 ?_
     refine one_ (i := 5) (N := some 11) ba14_6 rfl rfl (one_of HT_.out (by kernel_rfl)) (by decide) (fun K hK => ?_)
     refine Kd.R_lit_step (Kd.int .u8) _ 5 ?hg (N := 11) ?hd (xs := ([(a0_2) % 256] : List Int)) (inner := [.int .u8 ((a0_2) % 256)]) (ok := fun _ => True) (okp := fun _ => True) ?hr ?hp (fun _ hk => hk) trivial (Below.refl _ _) (Nat.le_refl _) (by simp) ?_; (case hd => rfl); (case hg => rfl); (case hr => first | (go_simp; done) | (go_simp; rfl)); (case hp => exact (Reps.one (show Kd.M (Kd.int .u8) _ _ _ ((a0_2) % 256) [.int .u8 ((a0_2) % 256)] from rfl) (Reps.none _ _)))
     intro v364 w13 ho14 hb hg_ hnew_
     clear hg_ hnew_
     (first | rw [← Ny363.out] at ho14 | (simp only [Int.reduceToNat] at ho14; rw [← Ny363.out] at ho14))
     have HO365 := Aside0.mk (Kd.R_lower (Kd.R_new' ho14 (Kd.R_lt (hd_ HO362))) (bz_ HB))
     replace HO362 := Aside0.mk (Kd.R_elder' (hd_ HO362) (Kd.R_base ho14) hb)
     replace BK358 := Aside0.mk (bb_ BK358 hb)
     replace HB := Aside0.mk (bt_ HB hb)
     clear hb ho14
     refine hK.out _ _ ⟨(blk_cell BK358.out 0).trans rfl, (blk_cell BK358.out 1).trans rfl, (blk_cell BK358.out 2).trans rfl, (blk_cell BK358.out 3).trans rfl, (blk_cell BK358.out 4).trans rfl⟩ (fun hHeld => ?_)
     clear hK K
     refine nz_ 11 ?_
     exact norm_ (by simp only [putAll, Act.put, List.setIfInBounds_toArray, List.set_cons_zero, List.set_cons_succ]) (hCont (v361, v364) _ ⟨hHeld, (by (with_reducible repeat (first | apply Kd.R_alloc | apply Kd.R_drewN | apply Kd.R_drew)); exact Kd.R_mono HO362.out (fun _ hk => hk.2)), (by (with_reducible repeat (first | apply Kd.R_alloc | apply Kd.R_drewN | apply Kd.R_drew)); exact Kd.R_mono HO365.out (fun _ hk => hk.2)), (by (with_reducible repeat (first | refine blk_drewN ?_ _ | refine blk_drew ?_ | refine blk_alloc ?_ _)); exact BK358.out), (by repeat (first | (with_reducible first | exact HB.out | apply below_alloc | apply pw_below_drewN | apply below_drew1 | refine below_set ?_ GE358.out) | exact HB.out))⟩)
    ·skip
     refine Kd.R_lit_step (Kd.int .u8) _ 5 ?hg (N := 11) ?hd (xs := ([(a0_2) % 256] : List Int)) (inner := [.int .u8 ((a0_2) % 256)]) (ok := fun _ => True) (okp := fun _ => True) ?hr ?hp (fun _ hk => hk) trivial (Below.refl _ _) (Nat.le_refl _) (by simp) ?_; (case hd => rfl); (case hg => rfl); (case hr => first | (go_simp; done) | (go_simp; rfl)); (case hp => exact (Reps.one (show Kd.M (Kd.int .u8) _ _ _ ((a0_2) % 256) [.int .u8 ((a0_2) % 256)] from rfl) (Reps.none _ _)))
     intro v364 w12 ho13 hb hg_ hnew_
     clear hg_ hnew_
     (first | rw [← Ny363.out] at ho13 | (simp only [Int.reduceToNat] at ho13; rw [← Ny363.out] at ho13))
     have HO365 := Aside0.mk (Kd.R_lower ho13 (bz_ HB))
     replace BK358 := Aside0.mk (bb_ BK358 hb)
     replace HB := Aside0.mk (bt_ HB hb)
     clear hb ho13
     refine hK.out _ _ ⟨(blk_cell BK358.out 0).trans rfl, (blk_cell BK358.out 1).trans rfl, (blk_cell BK358.out 2).trans rfl, (blk_cell BK358.out 3).trans rfl, (blk_cell BK358.out 4).trans rfl⟩ (fun hHeld => ?_)
     clear hK K
     refine nz_ 11 ?_
     refine one_ (i := 1) (N := some 7) ba14_6 rfl rfl (one_of HT_.out (by kernel_rfl)) (by decide) (fun K hK => ?_)
     refine gz_ Try.func77 #[.agg #[.int .i64 a0_0, .int .i64 a0_1, .int .i64 a0_2, .slice A0_3 l0_3.length c0_3, .slice A0_4 l0_4.length c0_4]] ?_
     with_reducible refine (impl_Lsa_bytes.calls k a0_0 a0_1 a0_2 _ _ l0_3 _ _ l0_4 t360 _ ?side1 ?side2 ?side3 ?side4 A4.out).mono ?_
     (case side1 => exact cb_ HR0_3 HB)
     (case side2 => exact HC0_3.out)
     (case side3 => exact cb_ HR0_4 HB)
     (case side4 => exact HC0_4.out)
     rintro e w14 ⟨v361, rfl, ho0, hb⟩
     refine ⟨_, rfl, ?_⟩
     have HO362 := Aside0.mk (Kd.R_lower (Kd.R_new' ho0 (Kd.R_lt (hd_ HO365))) (bz_ HB))
     replace HO365 := Aside0.mk (Kd.R_elder' (hd_ HO365) (Kd.R_base ho0) hb)
     replace BK358 := Aside0.mk (bb_ BK358 hb)
     replace HB := Aside0.mk (bt_ HB hb)
     (try clear hb)
     (try clear hb2)
     (try clear hk)
     (try clear hi)
     (try clear ho0)
     refine hK.out _ _ ⟨(blk_cell BK358.out 0).trans rfl, (blk_cell BK358.out 1).trans rfl, (blk_cell BK358.out 2).trans rfl, (blk_cell BK358.out 3).trans rfl, (blk_cell BK358.out 4).trans rfl⟩ (fun hHeld => ?_)
     clear hK K
     refine nz_ 7 ?_
     exact norm_ (by simp only [putAll, Act.put, List.setIfInBounds_toArray, List.set_cons_zero, List.set_cons_succ]) (hCont (v361, v364) _ ⟨hHeld, (by (with_reducible repeat (first | apply Kd.R_alloc | apply Kd.R_drewN | apply Kd.R_drew)); exact Kd.R_mono HO362.out (fun _ hk => hk.2)), (by (with_reducible repeat (first | apply Kd.R_alloc | apply Kd.R_drewN | apply Kd.R_drew)); exact Kd.R_mono HO365.out (fun _ hk => hk.2)), (by (with_reducible repeat (first | refine blk_drewN ?_ _ | refine blk_drew ?_ | refine blk_alloc ?_ _)); exact BK358.out), (by repeat (first | (with_reducible first | exact HB.out | apply below_alloc | apply pw_below_drewN | apply below_drew1 | refine below_set ?_ GE358.out) | exact HB.out))⟩)
   rintro ⟨v361, v364⟩ w15 ⟨hS_, h0_, h1_, h2_, h3_⟩
   have HO362 : Aside0 (Kd.R (Kd.int .u8) 5 w15 w.heap.size (fun k_ => some k_ ≠ (v364 : Value).ownBlock) v361 t360) := ⟨h0_⟩
   have HO365 : Aside0 (Kd.R (Kd.int .u8) 5 w15 w.heap.size (fun k_ => some k_ ≠ (v361 : Value).ownBlock) v364 y363) := ⟨h1_⟩
   replace BK358 : Aside0 (w15.heap[gb358]? = some (.cells #[.int .i64 a0_0, .int .i64 a0_1, .int .i64 a0_2, .slice A0_3 l0_3.length c0_3, .slice A0_4 l0_4.length c0_4] 31 (0, 0))) := ⟨h2_⟩
   replace HB : Aside0 (Below w.heap.size w w15) := ⟨h3_⟩
   clear h0_ h1_ h2_ h3_
   have hHeld : w15.cell? ⟨gb358, 0, none⟩ = some (.int .i64 a0_0) ∧ w15.cell? ⟨gb358, 1, none⟩ = some (.int .i64 a0_1) ∧ w15.cell? ⟨gb358, 2, none⟩ = some (.int .i64 a0_2) ∧ w15.cell? ⟨gb358, 3, none⟩ = some (.slice A0_3 l0_3.length c0_3) ∧ w15.cell? ⟨gb358, 4, none⟩ = some (.slice A0_4 l0_4.length c0_4) := hS_
   obtain ⟨Ao17, co17, eo17⟩ := Kd.R_slice HO365.out
   (first | subst eo17 | (injection eo17 with f1_ f2_ f3_; have f4_ := f1_.symm; have f5_ := f3_.symm; clear f1_ f2_ f3_; subst f4_; subst f5_))
   refine norm_ (a' := ?_) ?_ ?_
   rotate_left; · simp only [putAll, Act.put, List.setIfInBounds_toArray, List.set_cons_zero, List.set_cons_succ]; rfl
   refine one_ (i := 6) (N := some 12) ba14_9 rfl rfl (one_of HT_.out (by kernel_rfl)) (by decide) (fun K hK => ?_)
   refine Kd.R_append_rows_step (Kd.int .u8) (w0 := w) w.heap.size (by rfl) (.tmp 7) (.tmp 11) 62 5 (.int .u8 0) 1 rfl Try.underlying62 info5 rfl (by decide) (by omega) v361 t360 y363 _ _ _ (fun k_ => some k_ ≠ (.slice Ao17 y363.length co17 : Value).ownBlock) (fun _ => False) rfl rfl ?aO ?aR (fun _ _ h => h) (fun _ h => h.elim) ?aF ?aB ?aS ?aL ?_
   (case aR => exact rc_ HO365)
   (case aB => exact (by repeat (first | (with_reducible first | exact HB.out | apply below_alloc | apply pw_below_drewN | apply below_drew1 | refine below_set ?_ GE358.out) | exact HB.out)))
   (case aF => exact (fun k_ hk => Kd.fresh' (Kd.R_lt (hd_ HO365)) k_ hk))
   (case aO => exact (hd_ HO362))
   (case aS => exact (bz_ HB))
   (case aL => have := LMc5.out; omega)
   intro v367 w16 ho hb hg hat
   rw [← Ny366.out] at ho
   have HO368 := Aside0.mk ho
   replace BK358 := Aside0.mk (blk_grown (g := gb358) (o := .cells #[.int .i64 a0_0, .int .i64 a0_1, .int .i64 a0_2, .slice A0_3 l0_3.length c0_3, .slice A0_4 l0_4.length c0_4] 31 (0, 0)) (by (with_reducible repeat (first | refine blk_drewN ?_ _ | refine blk_drew ?_ | refine blk_alloc ?_ _)); exact BK358.out) hg (Kd.R_ne HO362.out BK358.out (by decide)))
   replace HO365 := Aside0.mk (Kd.R_after (ok := (fun _ => True)) (by (with_reducible repeat (first | apply Kd.R_alloc | apply Kd.R_drewN | apply Kd.R_drew)); exact Kd.R_mono HO365.out (fun _ hk => by first | exact ⟨trivial, hk⟩ | grind)) hg hat)
   replace HB := Aside0.mk (hb)
   clear HO362
   clear ho hb hg hat
   refine hK.out _ _ ⟨(blk_cell BK358.out 0).trans rfl, (blk_cell BK358.out 1).trans rfl, (blk_cell BK358.out 2).trans rfl, (blk_cell BK358.out 3).trans rfl, (blk_cell BK358.out 4).trans rfl⟩ (fun hHeld => ?_)
   clear hK K
   refine nz_ 12 ?_
   refine one_ (i := 8) (N := some 14) ba14_10 rfl rfl (one_of HT_.out (by kernel_rfl)) (by decide) (fun K hK => ?_)
   refine gz_ Try.func63 #[.agg #[.int .i64 a0_0, .int .i64 a0_1, .int .i64 a0_2, .slice A0_3 l0_3.length c0_3, .slice A0_4 l0_4.length c0_4]] ?_
   with_reducible refine (impl_Lsa_sum.calls k a0_0 a0_1 a0_2 _ _ l0_3 _ _ l0_4 t369 _ ?side1 ?side2 ?side3 ?side4 A6.out).mono ?_
   (case side1 => exact cb_ HR0_3 HB)
   (case side2 => exact HC0_3.out)
   (case side3 => exact cb_ HR0_4 HB)
   (case side4 => exact HC0_4.out)
   rintro e w18 ⟨rfl, hb⟩
   refine ⟨_, rfl, ?_⟩
   replace HO365 := rb_ HO365 hb
   replace HO368 := rb_ HO368 hb
   replace BK358 := Aside0.mk (bb_ BK358 hb)
   replace HB := Aside0.mk (bt_ HB hb)
   (try clear hb)
   (try clear hb2)
   (try clear hk)
   (try clear hi)
   obtain ⟨Ao19, co19, eo19⟩ := Kd.R_slice HO368.out
   (first | subst eo19 | (injection eo19 with f1_ f2_ f3_; have f4_ := f1_.symm; have f5_ := f3_.symm; clear f1_ f2_ f3_; subst f4_; subst f5_))
   refine hK.out _ _ ⟨(blk_cell BK358.out 0).trans rfl, (blk_cell BK358.out 1).trans rfl, (blk_cell BK358.out 2).trans rfl, (blk_cell BK358.out 3).trans rfl, (blk_cell BK358.out 4).trans rfl⟩ (fun hHeld => ?_)
   clear hK K
   refine nz_ 14 ?_
   refine one_ (i := 9) (N := some 15) ba14_11 rfl rfl (one_of HT_.out (by kernel_rfl)) (by decide) (fun K hK => ?_)
   refine gz_ Try.func78 #[.slice Ao19 y366.length co19, .int .i64 t369, .int .i64 3] ?_
   with_reducible refine (impl_big.calls k (fun k_ => some k_ = (.slice Ao19 y366.length co19 : Value).ownBlock) (.slice Ao19 y366.length co19) y366 t369 3 t370 w _ ?side1 ?side2 A7.out).mono ?_
   (case side1 => exact by_ HB)
   (case side2 => exact Kd.R_tight rfl HO368.out)
   rintro e w20 ⟨v371, rfl, ho0, hb, hkp⟩
   refine ⟨_, rfl, ?_⟩
   have HO372 := Aside0.mk (Kd.R_mono (ok' := fun k_ => some k_ ≠ (.slice Ao17 y363.length co17 : Value).ownBlock) ho0 (fun k_ hk_ => Or.elim hk_ (fun hs_ => fun e_ => (((HO365.out).1 k_ e_.symm).2) hs_) (fun hn_ => (Kd.fresh' (Kd.R_lt (hd_ HO365)) k_ hn_))))
   replace BK358 := bk_ BK358 hkp (fun hs_ => (Kd.R_ne HO368.out BK358.out (by decide)) hs_)
   replace HO365 := kp_ (fun k_ => some k_ ≠ (v371 : Value).ownBlock) (HO365.out) hkp (ho := (fun k_ hk_ => fun e_ => Or.elim (ho0.1 k_ e_.symm) (fun hs_ => hk_.2.1 hs_) (fun hn_ => Nat.not_le.2 hk_.2.2 hn_)))
   replace HB := Aside0.mk (hb)
   clear HO368
   (try clear hb)
   (try clear hkp)
   (try clear ho0)
   refine hK.out _ _ ⟨(blk_cell BK358.out 0).trans rfl, (blk_cell BK358.out 1).trans rfl, (blk_cell BK358.out 2).trans rfl, (blk_cell BK358.out 3).trans rfl, (blk_cell BK358.out 4).trans rfl⟩ (fun hHeld => ?_)
   clear hK K
   refine nz_ 15 ?_
   refine pz_ 10 2 ba14_12 HT_ ?_
   refine done_ (done_of HT_.out (by kernel_rfl)) ?_
   try go_wp2
   go_ret
   exact ⟨_, by first | rfl | (simp [errW_none, errW_some] <;> rfl) | (simp [*, errW_none, errW_some] <;> rfl), by (with_reducible repeat (first | apply Kd.R_alloc | apply Kd.R_drewN | apply Kd.R_drew)); exact Kd.R_mono HO372.out (fun _ hk => trivial), by repeat (first | (with_reducible first | exact HB.out | apply below_alloc | apply pw_below_drewN | apply below_drew1 | refine below_set ?_ GE358.out) | exact HB.out)⟩
  ·rw [if_neg c5] at H
   exact absurd H (by simp)
 ·replace c3 := Bool.eq_false_iff.mpr c3
  subst c3
  rw [if_neg (show ¬ (false = true) by decide)] at H
  obtain rfl := Option.some.inj H
  go_enter Try.func47, Try.ntmps47
  go_wp2_with (first | ((with_reducible refine gate_dst (N := 1) rfl ?_); refine box_event ?hg (N := 1) ?hd (cs := #[.int .i64 a0_0, .int .i64 a0_1, .int .i64 a0_2, .slice A0_3 l0_3.length c0_3, .slice A0_4 l0_4.length c0_4]) (t := 31) ?hr ?_; (case hd => rfl); (case hg => rfl); (case hr => first | (go_simp; done) | (go_simp; rfl)); intro gb358 hg w21 hbox hb; have BK358 := Aside0.mk hbox; have GW358 := ge_ HB hg; have GE358 := ge_ HB hg; replace HB := Aside0.mk (bt_ HB hb); clear hb hbox hg; have hcz22_0 := cz_ BK358 0 (.int .i64 a0_0); have hcz22_1 := cz_ BK358 1 (.int .i64 a0_1); have hcz22_2 := cz_ BK358 2 (.int .i64 a0_2); have hcz22_3 := cz_ BK358 3 (.slice A0_3 l0_3.length c0_3); have hcz22_4 := cz_ BK358 4 (.slice A0_4 l0_4.length c0_4); have hfz22_0 := blk_frozen BK358.out 0; have hfz22_1 := blk_frozen BK358.out 1; have hfz22_2 := blk_frozen BK358.out 2; have hfz22_3 := blk_frozen BK358.out 3; have hfz22_4 := blk_frozen BK358.out 4) | ((with_reducible refine gate_callee (f := 16) rfl ?_); refine gl_ (some 4) Try.func16 #[.agg #[.int .i64 a0_0, .int .i64 a0_1, .int .i64 a0_2, .slice A0_3 l0_3.length c0_3, .slice A0_4 l0_4.length c0_4]] ?_; (with_reducible refine (impl_LsaOk.calls k a0_0 a0_1 a0_2 _ _ l0_3 _ _ l0_4 false _ ?side1 ?side2 ?side3 ?side4 A2.out).mono ?_); (case side1 => exact cb_ HR0_3 HB); (case side2 => exact HC0_3.out); (case side3 => exact cb_ HR0_4 HB); (case side4 => exact HC0_4.out); rintro e w23 ⟨rfl, hb⟩; refine ⟨_, rfl, ?_⟩; replace BK358 := Aside0.mk (bb_ BK358 hb); replace HB := Aside0.mk (bt_ HB hb); (try clear hb); (try clear hb2); (try clear hk); (try clear hi)))
  go_ret
  exact ⟨_, by first | rfl | (simp [errW_none, errW_some] <;> rfl) | (simp [*, errW_none, errW_some] <;> rfl), by first | exact Kd.R_nil _ _ _ _ _ | exact Kd.N_nil _ _ _ _ _ | exact Kd.V_nil _ _ _ _ _ | exact Kd.Q_nil _ _ _ _ _ | exact Kd.S_nil _ _ _ _ _, by repeat (first | (with_reducible first | exact HB.out | apply below_alloc | apply pw_below_drewN | apply below_drew1 | refine below_set ?_ GE358.out) | exact HB.out)⟩

end Go.Proofs.Ytiikcfaodkiakaa.QFnExactPutLsa
