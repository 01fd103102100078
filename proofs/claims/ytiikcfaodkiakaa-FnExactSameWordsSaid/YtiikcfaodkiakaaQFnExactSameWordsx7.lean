/- Contracts of functions that the law reaches: what each call returns and what it leaves in memory. Made by this session over the print of the kit. -/
import Derived.Test.YtiikcfaodkiakaaQFnExactSameWordsx0
import Derived.Test.YtiikcfaodkiakaaQFnExactSameWordsx1
import Derived.Test.YtiikcfaodkiakaaQFnExactSameWordsx2
import Derived.Test.YtiikcfaodkiakaaQFnExactSameWordsx6
namespace Go.Proofs.Ytiikcfaodkiakaa.QFnExactSameWords
open Go.RowKit Go.Proofs.YtiikcfaodkiakaaY.PrintWords Go.Proofs.YtiikcfaodkiakaaY.PrintLast Go.Proofs.YtiikcfaodkiakaaY.PrintMore
attribute [local go_sem] max2_int min2_int max_two min_two max_three min_three max_four min_four   -- for this text's walks alone
set_option linter.unusedVariables false
set_option linter.unusedSimpArgs false

attribute [local go_sem high] eqA70 eqA74
/-! ### spec_SameWords: function 18 -/
mutual
def spec_SameWords.j0 : Nat → Bool → Int → Int → Int → List (S70) → List (S74) → Int → Int → Int → List (S70) → List (S74) → Option (Bool)
 | 0, _, _, _, _, _, _, _, _, _, _, _ => none
 | k + 1, x39, x179000, x179001, x179002, x179003, x179004, x180000, x180001, x180002, x180003, x180004 => if x39 = true then (some false) else (spec_SameWords.l0 k 0 x179000 x179001 x179002 x179003 x179004 x180000 x180001 x180002 x180003 x180004)
def spec_SameWords.l0 : Nat → Int → Int → Int → Int → List (S70) → List (S74) → Int → Int → Int → List (S70) → List (S74) → Option (Bool)
 | 0, _, _, _, _, _, _, _, _, _, _, _ => none
 | k + 1, x5, x179000, x179001, x179002, x179003, x179004, x180000, x180001, x180002, x180003, x180004 => if x5 < (x179003.length : Int) then (if 0 ≤ x5 then (if x5 < (x180003.length : Int) then (if (!(((rd_T70 x179003 x5).f0) == ((rd_T70 x180003 x5).f0)) || (!(((rd_T70 x179003 x5).f1) == ((rd_T70 x180003 x5).f1)))) = true then (some false) else (spec_SameWords.l0 k (wrap64 (x5 + 1)) x179000 x179001 x179002 x179003 x179004 x180000 x180001 x180002 x180003 x180004)) else (none)) else (none)) else (spec_SameWords.l1 k 0 x179000 x179001 x179002 x179003 x179004 x180000 x180001 x180002 x180003 x180004)
def spec_SameWords.l1 : Nat → Int → Int → Int → Int → List (S70) → List (S74) → Int → Int → Int → List (S70) → List (S74) → Option (Bool)
 | 0, _, _, _, _, _, _, _, _, _, _, _ => none
 | k + 1, x6, x179000, x179001, x179002, x179003, x179004, x180000, x180001, x180002, x180003, x180004 => if x6 < (x179004.length : Int) then (if 0 ≤ x6 then (if x6 < (x180004.length : Int) then (if ((!(((rd_T74 x179004 x6).f0.f0) == ((rd_T74 x180004 x6).f0.f0)) || (!(((rd_T74 x179004 x6).f0.f1) == ((rd_T74 x180004 x6).f0.f1)))) || (!(((rd_T74 x179004 x6).f1) == ((rd_T74 x180004 x6).f1)))) = true then (some false) else (spec_SameWords.l1 k (wrap64 (x6 + 1)) x179000 x179001 x179002 x179003 x179004 x180000 x180001 x180002 x180003 x180004)) else (none)) else (none)) else (some true)
end
def spec_SameWords.f (k : Nat) (a0_0 : Int) (a0_1 : Int) (a0_2 : Int) (l0_3 : List (S70)) (l0_4 : List (S74)) (a1_0 : Int) (a1_1 : Int) (a1_2 : Int) (l1_3 : List (S70)) (l1_4 : List (S74)) : Option (Bool) := (spec_LsaOk.f k a0_0 a0_1 a0_2 l0_3 l0_4).bind fun t180 => (if t180 = true then ((spec_LsaOk.f k a1_0 a1_1 a1_2 l1_3 l1_4).bind fun t181 => (if t181 = true then (if a0_0 = a1_0 then (if (l0_3.length : Int) = (l1_3.length : Int) then (spec_SameWords.j0 k ((l0_4.length : Int) != (l1_4.length : Int)) a0_0 a0_1 a0_2 l0_3 l0_4 a1_0 a1_1 a1_2 l1_3 l1_4) else (spec_SameWords.j0 k true a0_0 a0_1 a0_2 l0_3 l0_4 a1_0 a1_1 a1_2 l1_3 l1_4)) else (spec_SameWords.j0 k true a0_0 a0_1 a0_2 l0_3 l0_4 a1_0 a1_1 a1_2 l1_3 l1_4)) else (spec_SameWords.j0 k true a0_0 a0_1 a0_2 l0_3 l0_4 a1_0 a1_1 a1_2 l1_3 l1_4))) else (spec_SameWords.j0 k true a0_0 a0_1 a0_2 l0_3 l0_4 a1_0 a1_1 a1_2 l1_3 l1_4))
theorem spec_SameWords.mono_l : ∀ k, (∀ y0 y1 y2 y3 y4 y5 y6 y7 y8 y9 y10, LeO (spec_SameWords.j0 k y0 y1 y2 y3 y4 y5 y6 y7 y8 y9 y10) (spec_SameWords.j0 (k + 1) y0 y1 y2 y3 y4 y5 y6 y7 y8 y9 y10)) ∧ (∀ y0 y1 y2 y3 y4 y5 y6 y7 y8 y9 y10, LeO (spec_SameWords.l0 k y0 y1 y2 y3 y4 y5 y6 y7 y8 y9 y10) (spec_SameWords.l0 (k + 1) y0 y1 y2 y3 y4 y5 y6 y7 y8 y9 y10)) ∧ (∀ y0 y1 y2 y3 y4 y5 y6 y7 y8 y9 y10, LeO (spec_SameWords.l1 k y0 y1 y2 y3 y4 y5 y6 y7 y8 y9 y10) (spec_SameWords.l1 (k + 1) y0 y1 y2 y3 y4 y5 y6 y7 y8 y9 y10))
 | 0 => ⟨fun _ _ _ _ _ _ _ _ _ _ _ r h => by simp [spec_SameWords.j0] at h, fun _ _ _ _ _ _ _ _ _ _ _ r h => by simp [spec_SameWords.l0] at h, fun _ _ _ _ _ _ _ _ _ _ _ r h => by simp [spec_SameWords.l1] at h⟩
 | k + 1 => by
  obtain ⟨ih0, ih1, ih2⟩ := spec_SameWords.mono_l k
  refine ⟨?_, ?_, ?_⟩
  ·intro y0 y1 y2 y3 y4 y5 y6 y7 y8 y9 y10
   unfold spec_SameWords.j0
   repeat' first
   | (with_reducible exact ih0 _ _ _ _ _ _ _ _ _ _ _)
   | (with_reducible exact ih1 _ _ _ _ _ _ _ _ _ _ _)
   | (with_reducible exact ih2 _ _ _ _ _ _ _ _ _ _ _)
   | (with_reducible exact spec_LsaOk.mono _ _ _ _ _ _)
   | (with_reducible exact LeO.refl _)
   | (with_reducible exact LeO.none _)
   | (with_reducible refine LeO.ite ?_ ?_)
   | (with_reducible refine LeO.bind ?_ (fun _ => ?_))
   | exact ih0 _ _ _ _ _ _ _ _ _ _ _
   | exact ih1 _ _ _ _ _ _ _ _ _ _ _
   | exact ih2 _ _ _ _ _ _ _ _ _ _ _
   | exact spec_LsaOk.mono _ _ _ _ _ _
   | exact LeO.none _
   | refine LeO.ite ?_ ?_
   | refine LeO.bind ?_ (fun _ => ?_)
  ·intro y0 y1 y2 y3 y4 y5 y6 y7 y8 y9 y10
   unfold spec_SameWords.l0
   repeat' first
   | (with_reducible exact ih0 _ _ _ _ _ _ _ _ _ _ _)
   | (with_reducible exact ih1 _ _ _ _ _ _ _ _ _ _ _)
   | (with_reducible exact ih2 _ _ _ _ _ _ _ _ _ _ _)
   | (with_reducible exact spec_LsaOk.mono _ _ _ _ _ _)
   | (with_reducible exact LeO.refl _)
   | (with_reducible exact LeO.none _)
   | (with_reducible refine LeO.ite ?_ ?_)
   | (with_reducible refine LeO.bind ?_ (fun _ => ?_))
   | exact ih0 _ _ _ _ _ _ _ _ _ _ _
   | exact ih1 _ _ _ _ _ _ _ _ _ _ _
   | exact ih2 _ _ _ _ _ _ _ _ _ _ _
   | exact spec_LsaOk.mono _ _ _ _ _ _
   | exact LeO.none _
   | refine LeO.ite ?_ ?_
   | refine LeO.bind ?_ (fun _ => ?_)
  ·intro y0 y1 y2 y3 y4 y5 y6 y7 y8 y9 y10
   unfold spec_SameWords.l1
   repeat' first
   | (with_reducible exact ih0 _ _ _ _ _ _ _ _ _ _ _)
   | (with_reducible exact ih1 _ _ _ _ _ _ _ _ _ _ _)
   | (with_reducible exact ih2 _ _ _ _ _ _ _ _ _ _ _)
   | (with_reducible exact spec_LsaOk.mono _ _ _ _ _ _)
   | (with_reducible exact LeO.refl _)
   | (with_reducible exact LeO.none _)
   | (with_reducible refine LeO.ite ?_ ?_)
   | (with_reducible refine LeO.bind ?_ (fun _ => ?_))
   | exact ih0 _ _ _ _ _ _ _ _ _ _ _
   | exact ih1 _ _ _ _ _ _ _ _ _ _ _
   | exact ih2 _ _ _ _ _ _ _ _ _ _ _
   | exact spec_LsaOk.mono _ _ _ _ _ _
   | exact LeO.none _
   | refine LeO.ite ?_ ?_
   | refine LeO.bind ?_ (fun _ => ?_)
theorem spec_SameWords.mono : ∀ a0 a1 a2 a3 a4 a5 a6 a7 a8 a9 k, LeO (spec_SameWords.f k a0 a1 a2 a3 a4 a5 a6 a7 a8 a9) (spec_SameWords.f (k + 1) a0 a1 a2 a3 a4 a5 a6 a7 a8 a9) := by
 intro a0 a1 a2 a3 a4 a5 a6 a7 a8 a9 k
 obtain ⟨ih0, ih1, ih2⟩ := spec_SameWords.mono_l k
 unfold spec_SameWords.f
 repeat' first
   | (with_reducible exact ih0 _ _ _ _ _ _ _ _ _ _ _)
   | (with_reducible exact ih1 _ _ _ _ _ _ _ _ _ _ _)
   | (with_reducible exact ih2 _ _ _ _ _ _ _ _ _ _ _)
   | (with_reducible exact spec_LsaOk.mono _ _ _ _ _ _)
   | (with_reducible exact LeO.refl _)
   | (with_reducible exact LeO.none _)
   | (with_reducible refine LeO.ite ?_ ?_)
   | (with_reducible refine LeO.bind ?_ (fun _ => ?_))
   | exact ih0 _ _ _ _ _ _ _ _ _ _ _
   | exact ih1 _ _ _ _ _ _ _ _ _ _ _
   | exact ih2 _ _ _ _ _ _ _ _ _ _ _
   | exact spec_LsaOk.mono _ _ _ _ _ _
   | exact LeO.none _
   | refine LeO.ite ?_ ?_
   | refine LeO.bind ?_ (fun _ => ?_)
set_option maxHeartbeats 8000000 in
set_option maxRecDepth 100000 in
theorem spec_SameWords.calls (k : Nat) (a0_0 : Int) (a0_1 : Int) (a0_2 : Int) (A0_3 : Option Addr) (c0_3 : Nat) (l0_3 : List (S70)) (A0_4 : Option Addr) (c0_4 : Nat) (l0_4 : List (S74)) (a1_0 : Int) (a1_1 : Int) (a1_2 : Int) (A1_3 : Option Addr) (c1_3 : Nat) (l1_3 : List (S70)) (A1_4 : Option Addr) (c1_4 : Nat) (l1_4 : List (S74)) (r : Bool) (w : World) (hr0_3 : Kd.C k70 w A0_3 l0_3.length l0_3) (hc0_3 : l0_3.length ≤ c0_3) (hr0_4 : Kd.C k74 w A0_4 l0_4.length l0_4) (hc0_4 : l0_4.length ≤ c0_4) (hr1_3 : Kd.C k70 w A1_3 l1_3.length l1_3) (hc1_3 : l1_3.length ≤ c1_3) (hr1_4 : Kd.C k74 w A1_4 l1_4.length l1_4) (hc1_4 : l1_4.length ≤ c1_4) (h : spec_SameWords.f k a0_0 a0_1 a0_2 l0_3 l0_4 a1_0 a1_1 a1_2 l1_3 l1_4 = some r) :
  Calls Try.prog 18 #[.agg #[.int .i64 a0_0, .int .i64 a0_1, .int .i64 a0_2, .slice A0_3 l0_3.length c0_3, .slice A0_4 l0_4.length c0_4], .agg #[.int .i64 a1_0, .int .i64 a1_1, .int .i64 a1_2, .slice A1_3 l1_3.length c1_3, .slice A1_4 l1_4.length c1_4]] w fun e w' => e = .returned (.bool r) ∧ Below w.heap.size w w' := by
 have hu31 := Try.underlying31
 have hu70 := Try.underlying70
 have hu74 := Try.underlying74
 have HR0_3 := Aside0.mk hr0_3
 have HC0_3 := Aside0.mk hc0_3
 clear hr0_3 hc0_3
 have HR0_4 := Aside0.mk hr0_4
 have HC0_4 := Aside0.mk hc0_4
 clear hr0_4 hc0_4
 have HR1_3 := Aside0.mk hr1_3
 have HC1_3 := Aside0.mk hc1_3
 clear hr1_3 hc1_3
 have HR1_4 := Aside0.mk hr1_4
 have HC1_4 := Aside0.mk hc1_4
 clear hr1_4 hc1_4
 have HB := Aside0.mk (Below.refl w.heap.size w)
 have H : ((spec_LsaOk.f k a0_0 a0_1 a0_2 l0_3 l0_4).bind fun t180 => (if t180 = true then ((spec_LsaOk.f k a1_0 a1_1 a1_2 l1_3 l1_4).bind fun t181 => (if t181 = true then (if a0_0 = a1_0 then (if (l0_3.length : Int) = (l1_3.length : Int) then (spec_SameWords.j0 k ((l0_4.length : Int) != (l1_4.length : Int)) a0_0 a0_1 a0_2 l0_3 l0_4 a1_0 a1_1 a1_2 l1_3 l1_4) else (spec_SameWords.j0 k true a0_0 a0_1 a0_2 l0_3 l0_4 a1_0 a1_1 a1_2 l1_3 l1_4)) else (spec_SameWords.j0 k true a0_0 a0_1 a0_2 l0_3 l0_4 a1_0 a1_1 a1_2 l1_3 l1_4)) else (spec_SameWords.j0 k true a0_0 a0_1 a0_2 l0_3 l0_4 a1_0 a1_1 a1_2 l1_3 l1_4))) else (spec_SameWords.j0 k true a0_0 a0_1 a0_2 l0_3 l0_4 a1_0 a1_1 a1_2 l1_3 l1_4))) = some r := h
 clear h
 have HC3 := Aside0.mk H
 clear H
 go_enter Try.func18, Try.ntmps18
 go_upto_region 1 with (first | ((with_reducible refine gate_dst (N := 2) rfl ?_); refine box_event ?hg (N := 2) ?hd (cs := #[.int .i64 a0_0, .int .i64 a0_1, .int .i64 a0_2, .slice A0_3 l0_3.length c0_3, .slice A0_4 l0_4.length c0_4]) (t := 31) ?hr ?_; (case hd => rfl); (case hg => rfl); (case hr => first | (go_simp; done) | (go_simp; rfl)); intro gb178 hg w4 hbox hb; have BK178 := Aside0.mk hbox; have GW178 := ge_ HB hg; have GE178 := ge_ HB hg; replace HB := Aside0.mk (bt_ HB hb); clear hb hbox hg) | ((with_reducible refine gate_dst (N := 3) rfl ?_); refine box_event ?hg (N := 3) ?hd (cs := #[.int .i64 a1_0, .int .i64 a1_1, .int .i64 a1_2, .slice A1_3 l1_3.length c1_3, .slice A1_4 l1_4.length c1_4]) (t := 31) ?hr ?_; (case hd => rfl); (case hg => rfl); (case hr => first | (go_simp; done) | (go_simp; rfl)); intro gb179 hg w5 hbox hb; have BK179 := Aside0.mk hbox; have GW179 := ge_ HB hg; have GE179 := ge_ HB hg; have NB178_179 := nl_ BK178 hg; have NB179_178 := ng_ BK178 hg; replace HB := Aside0.mk (bt_ HB hb); replace BK178 := Aside0.mk (bb_ BK178 hb); clear hb hbox hg))
 repeat (go_quiet (first | ((with_reducible refine gate_dst (N := 2) rfl ?_); refine box_event ?hg (N := 2) ?hd (cs := #[.int .i64 a0_0, .int .i64 a0_1, .int .i64 a0_2, .slice A0_3 l0_3.length c0_3, .slice A0_4 l0_4.length c0_4]) (t := 31) ?hr ?_; (case hd => rfl); (case hg => rfl); (case hr => first | (go_simp; done) | (go_simp; rfl)); intro gb178 hg w4 hbox hb; have BK178 := Aside0.mk hbox; have GW178 := ge_ HB hg; have GE178 := ge_ HB hg; replace HB := Aside0.mk (bt_ HB hb); clear hb hbox hg) | ((with_reducible refine gate_dst (N := 3) rfl ?_); refine box_event ?hg (N := 3) ?hd (cs := #[.int .i64 a1_0, .int .i64 a1_1, .int .i64 a1_2, .slice A1_3 l1_3.length c1_3, .slice A1_4 l1_4.length c1_4]) (t := 31) ?hr ?_; (case hd => rfl); (case hg => rfl); (case hr => first | (go_simp; done) | (go_simp; rfl)); intro gb179 hg w5 hbox hb; have BK179 := Aside0.mk hbox; have GW179 := ge_ HB hg; have GE179 := ge_ HB hg; have NB178_179 := nl_ BK178 hg; have NB179_178 := ng_ BK178 hg; replace HB := Aside0.mk (bt_ HB hb); replace BK178 := Aside0.mk (bb_ BK178 hb); clear hb hbox hg)); go_upto_region 1 with (first | ((with_reducible refine gate_dst (N := 2) rfl ?_); refine box_event ?hg (N := 2) ?hd (cs := #[.int .i64 a0_0, .int .i64 a0_1, .int .i64 a0_2, .slice A0_3 l0_3.length c0_3, .slice A0_4 l0_4.length c0_4]) (t := 31) ?hr ?_; (case hd => rfl); (case hg => rfl); (case hr => first | (go_simp; done) | (go_simp; rfl)); intro gb178 hg w4 hbox hb; have BK178 := Aside0.mk hbox; have GW178 := ge_ HB hg; have GE178 := ge_ HB hg; replace HB := Aside0.mk (bt_ HB hb); clear hb hbox hg) | ((with_reducible refine gate_dst (N := 3) rfl ?_); refine box_event ?hg (N := 3) ?hd (cs := #[.int .i64 a1_0, .int .i64 a1_1, .int .i64 a1_2, .slice A1_3 l1_3.length c1_3, .slice A1_4 l1_4.length c1_4]) (t := 31) ?hr ?_; (case hd => rfl); (case hg => rfl); (case hr => first | (go_simp; done) | (go_simp; rfl)); intro gb179 hg w5 hbox hb; have BK179 := Aside0.mk hbox; have GW179 := ge_ HB hg; have GE179 := ge_ HB hg; have NB178_179 := nl_ BK178 hg; have NB179_178 := ng_ BK178 hg; replace HB := Aside0.mk (bt_ HB hb); replace BK178 := Aside0.mk (bb_ BK178 hb); clear hb hbox hg)))
 (try simp only [Act.put, List.setIfInBounds_toArray, List.set_cons_zero, List.set_cons_succ])
 go_cut [39] (fun v39 wc => ∃ (kq : Nat) (x39_2 : Bool), v39 = .bool x39_2 ∧ Aside0 (spec_SameWords.j0 kq x39_2 a0_0 a0_1 a0_2 l0_3 l0_4 a1_0 a1_1 a1_2 l1_3 l1_4 = some r) ∧ Aside0 (kq ≤ k) ∧ Aside0 (wc.heap[gb178]? = some (.cells #[.int .i64 a0_0, .int .i64 a0_1, .int .i64 a0_2, (.slice A0_3 l0_3.length c0_3), (.slice A0_4 l0_4.length c0_4)] 31 (0, 0))) ∧ Aside0 (wc.heap[gb179]? = some (.cells #[.int .i64 a1_0, .int .i64 a1_1, .int .i64 a1_2, (.slice A1_3 l1_3.length c1_3), (.slice A1_4 l1_4.length c1_4)] 31 (0, 0))) ∧ Aside0 (Below w.heap.size w wc))
 case first =>
  have H := HC3.out
  clear HC3
  replace H := Option.bind_eq_some_iff.mp H
  obtain ⟨t180, A60, H⟩ := H
  have A6 := Aside0.mk A60
  clear A60
  by_cases c7 : t180 = true
  ·subst c7
   rw [if_pos rfl] at H
   replace H := Option.bind_eq_some_iff.mp H
   obtain ⟨t181, A80, H⟩ := H
   have A8 := Aside0.mk A80
   clear A80
   by_cases c9 : t181 = true
   ·subst c9
    rw [if_pos rfl] at H
    by_cases c10 : a0_0 = a1_0
    ·rw [if_pos c10] at H
     have c10b0 : (a0_0 == a1_0) = true := beq_iff_eq.mpr c10
     have c10b1 : (a0_0 != a1_0) = false := bne_eq_false_iff_eq.mpr c10
     clear c10
     (first | rw [c10b0] | (simp only [i64_w, i32_w]; rw [c10b0]) | skip)
     by_cases c11 : (l0_3.length : Int) = (l1_3.length : Int)
     ·rw [if_pos c11] at H
      have c11b0 : ((l0_3.length : Int) == (l1_3.length : Int)) = true := beq_iff_eq.mpr c11
      have c11b1 : ((l0_3.length : Int) != (l1_3.length : Int)) = false := bne_eq_false_iff_eq.mpr c11
      have c11b2 : (l0_3.length == l1_3.length) = true := by first | simpa using c11 | (simp at c11 ⊢; omega)
      clear c11
      have H' := Aside0.mk H
      clear H
      have hnb12 := NB178_179.out
      have hnc12 := NB179_178.out
      have hcz13_0 := cz_ BK178 0 (.int .i64 a0_0)
      have hcz13_1 := cz_ BK178 1 (.int .i64 a0_1)
      have hcz13_2 := cz_ BK178 2 (.int .i64 a0_2)
      have hcz13_3 := cz_ BK178 3 (.slice A0_3 l0_3.length c0_3)
      have hcz13_4 := cz_ BK178 4 (.slice A0_4 l0_4.length c0_4)
      have hfz13_0 := blk_frozen BK178.out 0
      have hfz13_1 := blk_frozen BK178.out 1
      have hfz13_2 := blk_frozen BK178.out 2
      have hfz13_3 := blk_frozen BK178.out 3
      have hfz13_4 := blk_frozen BK178.out 4
      go_wp2_with (first | (go_at_call 14; (with_reducible refine (spec_LsaOk.calls k a0_0 a0_1 a0_2 _ _ l0_3 _ _ l0_4 true _ ?side1 ?side2 ?side3 ?side4 A6.out).mono ?_); (case side1 => exact cb_ HR0_3 HB); (case side2 => exact HC0_3.out); (case side3 => exact cb_ HR0_4 HB); (case side4 => exact HC0_4.out); rintro e w14 ⟨rfl, hb⟩; replace BK178 := Aside0.mk (bb_ BK178 hb); replace BK179 := Aside0.mk (bb_ BK179 hb); replace HB := Aside0.mk (bt_ HB hb); (try clear hb); (try clear hb2); (try clear hk); (try clear hi); have hcz15_0 := cz_ BK179 0 (.int .i64 a1_0); have hcz15_1 := cz_ BK179 1 (.int .i64 a1_1); have hcz15_2 := cz_ BK179 2 (.int .i64 a1_2); have hcz15_3 := cz_ BK179 3 (.slice A1_3 l1_3.length c1_3); have hcz15_4 := cz_ BK179 4 (.slice A1_4 l1_4.length c1_4); have hfz15_0 := blk_frozen BK179.out 0; have hfz15_1 := blk_frozen BK179.out 1; have hfz15_2 := blk_frozen BK179.out 2; have hfz15_3 := blk_frozen BK179.out 3; have hfz15_4 := blk_frozen BK179.out 4) | (go_at_call 14; (with_reducible refine (spec_LsaOk.calls k a1_0 a1_1 a1_2 _ _ l1_3 _ _ l1_4 true _ ?side1 ?side2 ?side3 ?side4 A8.out).mono ?_); (case side1 => exact cb_ HR1_3 HB); (case side2 => exact HC1_3.out); (case side3 => exact cb_ HR1_4 HB); (case side4 => exact HC1_4.out); rintro e w16 ⟨rfl, hb⟩; replace BK178 := Aside0.mk (bb_ BK178 hb); replace BK179 := Aside0.mk (bb_ BK179 hb); replace HB := Aside0.mk (bt_ HB hb); (try clear hb); (try clear hb2); (try clear hk); (try clear hi); have hcz17_0 := cz_ BK178 0 (.int .i64 a0_0); have hcz17_1 := cz_ BK178 1 (.int .i64 a0_1); have hcz17_2 := cz_ BK178 2 (.int .i64 a0_2); have hcz17_3 := cz_ BK178 3 (.slice A0_3 l0_3.length c0_3); have hcz17_4 := cz_ BK178 4 (.slice A0_4 l0_4.length c0_4); have hfz17_0 := blk_frozen BK178.out 0; have hfz17_1 := blk_frozen BK178.out 1; have hfz17_2 := blk_frozen BK178.out 2; have hfz17_3 := blk_frozen BK178.out 3; have hfz17_4 := blk_frozen BK178.out 4; have hcz18_0 := cz_ BK179 0 (.int .i64 a1_0); have hcz18_1 := cz_ BK179 1 (.int .i64 a1_1); have hcz18_2 := cz_ BK179 2 (.int .i64 a1_2); have hcz18_3 := cz_ BK179 3 (.slice A1_3 l1_3.length c1_3); have hcz18_4 := cz_ BK179 4 (.slice A1_4 l1_4.length c1_4); have hfz18_0 := blk_frozen BK179.out 0; have hfz18_1 := blk_frozen BK179.out 1; have hfz18_2 := blk_frozen BK179.out 2; have hfz18_3 := blk_frozen BK179.out 3; have hfz18_4 := blk_frozen BK179.out 4))
      repeat (go_quiet (first | (go_at_call 14; (with_reducible refine (spec_LsaOk.calls k a0_0 a0_1 a0_2 _ _ l0_3 _ _ l0_4 true _ ?side1 ?side2 ?side3 ?side4 A6.out).mono ?_); (case side1 => exact cb_ HR0_3 HB); (case side2 => exact HC0_3.out); (case side3 => exact cb_ HR0_4 HB); (case side4 => exact HC0_4.out); rintro e w14 ⟨rfl, hb⟩; replace BK178 := Aside0.mk (bb_ BK178 hb); replace BK179 := Aside0.mk (bb_ BK179 hb); replace HB := Aside0.mk (bt_ HB hb); (try clear hb); (try clear hb2); (try clear hk); (try clear hi); have hcz15_0 := cz_ BK179 0 (.int .i64 a1_0); have hcz15_1 := cz_ BK179 1 (.int .i64 a1_1); have hcz15_2 := cz_ BK179 2 (.int .i64 a1_2); have hcz15_3 := cz_ BK179 3 (.slice A1_3 l1_3.length c1_3); have hcz15_4 := cz_ BK179 4 (.slice A1_4 l1_4.length c1_4); have hfz15_0 := blk_frozen BK179.out 0; have hfz15_1 := blk_frozen BK179.out 1; have hfz15_2 := blk_frozen BK179.out 2; have hfz15_3 := blk_frozen BK179.out 3; have hfz15_4 := blk_frozen BK179.out 4) | (go_at_call 14; (with_reducible refine (spec_LsaOk.calls k a1_0 a1_1 a1_2 _ _ l1_3 _ _ l1_4 true _ ?side1 ?side2 ?side3 ?side4 A8.out).mono ?_); (case side1 => exact cb_ HR1_3 HB); (case side2 => exact HC1_3.out); (case side3 => exact cb_ HR1_4 HB); (case side4 => exact HC1_4.out); rintro e w16 ⟨rfl, hb⟩; replace BK178 := Aside0.mk (bb_ BK178 hb); replace BK179 := Aside0.mk (bb_ BK179 hb); replace HB := Aside0.mk (bt_ HB hb); (try clear hb); (try clear hb2); (try clear hk); (try clear hi); have hcz17_0 := cz_ BK178 0 (.int .i64 a0_0); have hcz17_1 := cz_ BK178 1 (.int .i64 a0_1); have hcz17_2 := cz_ BK178 2 (.int .i64 a0_2); have hcz17_3 := cz_ BK178 3 (.slice A0_3 l0_3.length c0_3); have hcz17_4 := cz_ BK178 4 (.slice A0_4 l0_4.length c0_4); have hfz17_0 := blk_frozen BK178.out 0; have hfz17_1 := blk_frozen BK178.out 1; have hfz17_2 := blk_frozen BK178.out 2; have hfz17_3 := blk_frozen BK178.out 3; have hfz17_4 := blk_frozen BK178.out 4; have hcz18_0 := cz_ BK179 0 (.int .i64 a1_0); have hcz18_1 := cz_ BK179 1 (.int .i64 a1_1); have hcz18_2 := cz_ BK179 2 (.int .i64 a1_2); have hcz18_3 := cz_ BK179 3 (.slice A1_3 l1_3.length c1_3); have hcz18_4 := cz_ BK179 4 (.slice A1_4 l1_4.length c1_4); have hfz18_0 := blk_frozen BK179.out 0; have hfz18_1 := blk_frozen BK179.out 1; have hfz18_2 := blk_frozen BK179.out 2; have hfz18_3 := blk_frozen BK179.out 3; have hfz18_4 := blk_frozen BK179.out 4)); try go_wp2_with (first | (go_at_call 14; (with_reducible refine (spec_LsaOk.calls k a0_0 a0_1 a0_2 _ _ l0_3 _ _ l0_4 true _ ?side1 ?side2 ?side3 ?side4 A6.out).mono ?_); (case side1 => exact cb_ HR0_3 HB); (case side2 => exact HC0_3.out); (case side3 => exact cb_ HR0_4 HB); (case side4 => exact HC0_4.out); rintro e w14 ⟨rfl, hb⟩; replace BK178 := Aside0.mk (bb_ BK178 hb); replace BK179 := Aside0.mk (bb_ BK179 hb); replace HB := Aside0.mk (bt_ HB hb); (try clear hb); (try clear hb2); (try clear hk); (try clear hi); have hcz15_0 := cz_ BK179 0 (.int .i64 a1_0); have hcz15_1 := cz_ BK179 1 (.int .i64 a1_1); have hcz15_2 := cz_ BK179 2 (.int .i64 a1_2); have hcz15_3 := cz_ BK179 3 (.slice A1_3 l1_3.length c1_3); have hcz15_4 := cz_ BK179 4 (.slice A1_4 l1_4.length c1_4); have hfz15_0 := blk_frozen BK179.out 0; have hfz15_1 := blk_frozen BK179.out 1; have hfz15_2 := blk_frozen BK179.out 2; have hfz15_3 := blk_frozen BK179.out 3; have hfz15_4 := blk_frozen BK179.out 4) | (go_at_call 14; (with_reducible refine (spec_LsaOk.calls k a1_0 a1_1 a1_2 _ _ l1_3 _ _ l1_4 true _ ?side1 ?side2 ?side3 ?side4 A8.out).mono ?_); (case side1 => exact cb_ HR1_3 HB); (case side2 => exact HC1_3.out); (case side3 => exact cb_ HR1_4 HB); (case side4 => exact HC1_4.out); rintro e w16 ⟨rfl, hb⟩; replace BK178 := Aside0.mk (bb_ BK178 hb); replace BK179 := Aside0.mk (bb_ BK179 hb); replace HB := Aside0.mk (bt_ HB hb); (try clear hb); (try clear hb2); (try clear hk); (try clear hi); have hcz17_0 := cz_ BK178 0 (.int .i64 a0_0); have hcz17_1 := cz_ BK178 1 (.int .i64 a0_1); have hcz17_2 := cz_ BK178 2 (.int .i64 a0_2); have hcz17_3 := cz_ BK178 3 (.slice A0_3 l0_3.length c0_3); have hcz17_4 := cz_ BK178 4 (.slice A0_4 l0_4.length c0_4); have hfz17_0 := blk_frozen BK178.out 0; have hfz17_1 := blk_frozen BK178.out 1; have hfz17_2 := blk_frozen BK178.out 2; have hfz17_3 := blk_frozen BK178.out 3; have hfz17_4 := blk_frozen BK178.out 4; have hcz18_0 := cz_ BK179 0 (.int .i64 a1_0); have hcz18_1 := cz_ BK179 1 (.int .i64 a1_1); have hcz18_2 := cz_ BK179 2 (.int .i64 a1_2); have hcz18_3 := cz_ BK179 3 (.slice A1_3 l1_3.length c1_3); have hcz18_4 := cz_ BK179 4 (.slice A1_4 l1_4.length c1_4); have hfz18_0 := blk_frozen BK179.out 0; have hfz18_1 := blk_frozen BK179.out 1; have hfz18_2 := blk_frozen BK179.out 2; have hfz18_3 := blk_frozen BK179.out 3; have hfz18_4 := blk_frozen BK179.out 4)))
      go_meet
      case rel => exact ⟨_, (((l0_4.length : Int) != (l1_4.length : Int))), (by first | rfl | (simp; done) | (simp [*]; done)), H', ⟨by first | omega | exact Nat.le_refl _⟩, ⟨by (with_reducible repeat (first | refine blk_drewN ?_ _ | refine blk_drew ?_ | refine blk_alloc ?_ _)); exact BK178.out⟩, ⟨by (with_reducible repeat (first | refine blk_drewN ?_ _ | refine blk_drew ?_ | refine blk_alloc ?_ _)); exact BK179.out⟩, ⟨by repeat (first | (with_reducible first | exact HB.out | apply below_alloc | apply pw_below_drewN | apply below_drew1 | refine below_set ?_ GE178.out | refine below_set ?_ GE179.out) | exact HB.out)⟩⟩
     ·rw [if_neg c11] at H
      have c11b0 : ((l0_3.length : Int) == (l1_3.length : Int)) = false := beq_eq_false_iff_ne.mpr c11
      have c11b1 : ((l0_3.length : Int) != (l1_3.length : Int)) = true := bne_iff_ne.mpr c11
      have c11b2 : (l0_3.length == l1_3.length) = false := by first | simpa using c11 | (simp at c11 ⊢; omega)
      have H' := Aside0.mk H
      clear H
      have hnb19 := NB178_179.out
      have hnc19 := NB179_178.out
      have hcz20_0 := cz_ BK178 0 (.int .i64 a0_0)
      have hcz20_1 := cz_ BK178 1 (.int .i64 a0_1)
      have hcz20_2 := cz_ BK178 2 (.int .i64 a0_2)
      have hcz20_3 := cz_ BK178 3 (.slice A0_3 l0_3.length c0_3)
      have hcz20_4 := cz_ BK178 4 (.slice A0_4 l0_4.length c0_4)
      have hfz20_0 := blk_frozen BK178.out 0
      have hfz20_1 := blk_frozen BK178.out 1
      have hfz20_2 := blk_frozen BK178.out 2
      have hfz20_3 := blk_frozen BK178.out 3
      have hfz20_4 := blk_frozen BK178.out 4
      go_wp2_with (first | (go_at_call 14; (with_reducible refine (spec_LsaOk.calls k a0_0 a0_1 a0_2 _ _ l0_3 _ _ l0_4 true _ ?side1 ?side2 ?side3 ?side4 A6.out).mono ?_); (case side1 => exact cb_ HR0_3 HB); (case side2 => exact HC0_3.out); (case side3 => exact cb_ HR0_4 HB); (case side4 => exact HC0_4.out); rintro e w21 ⟨rfl, hb⟩; replace BK178 := Aside0.mk (bb_ BK178 hb); replace BK179 := Aside0.mk (bb_ BK179 hb); replace HB := Aside0.mk (bt_ HB hb); (try clear hb); (try clear hb2); (try clear hk); (try clear hi); have hcz22_0 := cz_ BK179 0 (.int .i64 a1_0); have hcz22_1 := cz_ BK179 1 (.int .i64 a1_1); have hcz22_2 := cz_ BK179 2 (.int .i64 a1_2); have hcz22_3 := cz_ BK179 3 (.slice A1_3 l1_3.length c1_3); have hcz22_4 := cz_ BK179 4 (.slice A1_4 l1_4.length c1_4); have hfz22_0 := blk_frozen BK179.out 0; have hfz22_1 := blk_frozen BK179.out 1; have hfz22_2 := blk_frozen BK179.out 2; have hfz22_3 := blk_frozen BK179.out 3; have hfz22_4 := blk_frozen BK179.out 4) | (go_at_call 14; (with_reducible refine (spec_LsaOk.calls k a1_0 a1_1 a1_2 _ _ l1_3 _ _ l1_4 true _ ?side1 ?side2 ?side3 ?side4 A8.out).mono ?_); (case side1 => exact cb_ HR1_3 HB); (case side2 => exact HC1_3.out); (case side3 => exact cb_ HR1_4 HB); (case side4 => exact HC1_4.out); rintro e w23 ⟨rfl, hb⟩; replace BK178 := Aside0.mk (bb_ BK178 hb); replace BK179 := Aside0.mk (bb_ BK179 hb); replace HB := Aside0.mk (bt_ HB hb); (try clear hb); (try clear hb2); (try clear hk); (try clear hi); have hcz24_0 := cz_ BK178 0 (.int .i64 a0_0); have hcz24_1 := cz_ BK178 1 (.int .i64 a0_1); have hcz24_2 := cz_ BK178 2 (.int .i64 a0_2); have hcz24_3 := cz_ BK178 3 (.slice A0_3 l0_3.length c0_3); have hcz24_4 := cz_ BK178 4 (.slice A0_4 l0_4.length c0_4); have hfz24_0 := blk_frozen BK178.out 0; have hfz24_1 := blk_frozen BK178.out 1; have hfz24_2 := blk_frozen BK178.out 2; have hfz24_3 := blk_frozen BK178.out 3; have hfz24_4 := blk_frozen BK178.out 4; have hcz25_0 := cz_ BK179 0 (.int .i64 a1_0); have hcz25_1 := cz_ BK179 1 (.int .i64 a1_1); have hcz25_2 := cz_ BK179 2 (.int .i64 a1_2); have hcz25_3 := cz_ BK179 3 (.slice A1_3 l1_3.length c1_3); have hcz25_4 := cz_ BK179 4 (.slice A1_4 l1_4.length c1_4); have hfz25_0 := blk_frozen BK179.out 0; have hfz25_1 := blk_frozen BK179.out 1; have hfz25_2 := blk_frozen BK179.out 2; have hfz25_3 := blk_frozen BK179.out 3; have hfz25_4 := blk_frozen BK179.out 4))
      repeat (go_quiet (first | (go_at_call 14; (with_reducible refine (spec_LsaOk.calls k a0_0 a0_1 a0_2 _ _ l0_3 _ _ l0_4 true _ ?side1 ?side2 ?side3 ?side4 A6.out).mono ?_); (case side1 => exact cb_ HR0_3 HB); (case side2 => exact HC0_3.out); (case side3 => exact cb_ HR0_4 HB); (case side4 => exact HC0_4.out); rintro e w21 ⟨rfl, hb⟩; replace BK178 := Aside0.mk (bb_ BK178 hb); replace BK179 := Aside0.mk (bb_ BK179 hb); replace HB := Aside0.mk (bt_ HB hb); (try clear hb); (try clear hb2); (try clear hk); (try clear hi); have hcz22_0 := cz_ BK179 0 (.int .i64 a1_0); have hcz22_1 := cz_ BK179 1 (.int .i64 a1_1); have hcz22_2 := cz_ BK179 2 (.int .i64 a1_2); have hcz22_3 := cz_ BK179 3 (.slice A1_3 l1_3.length c1_3); have hcz22_4 := cz_ BK179 4 (.slice A1_4 l1_4.length c1_4); have hfz22_0 := blk_frozen BK179.out 0; have hfz22_1 := blk_frozen BK179.out 1; have hfz22_2 := blk_frozen BK179.out 2; have hfz22_3 := blk_frozen BK179.out 3; have hfz22_4 := blk_frozen BK179.out 4) | (go_at_call 14; (with_reducible refine (spec_LsaOk.calls k a1_0 a1_1 a1_2 _ _ l1_3 _ _ l1_4 true _ ?side1 ?side2 ?side3 ?side4 A8.out).mono ?_); (case side1 => exact cb_ HR1_3 HB); (case side2 => exact HC1_3.out); (case side3 => exact cb_ HR1_4 HB); (case side4 => exact HC1_4.out); rintro e w23 ⟨rfl, hb⟩; replace BK178 := Aside0.mk (bb_ BK178 hb); replace BK179 := Aside0.mk (bb_ BK179 hb); replace HB := Aside0.mk (bt_ HB hb); (try clear hb); (try clear hb2); (try clear hk); (try clear hi); have hcz24_0 := cz_ BK178 0 (.int .i64 a0_0); have hcz24_1 := cz_ BK178 1 (.int .i64 a0_1); have hcz24_2 := cz_ BK178 2 (.int .i64 a0_2); have hcz24_3 := cz_ BK178 3 (.slice A0_3 l0_3.length c0_3); have hcz24_4 := cz_ BK178 4 (.slice A0_4 l0_4.length c0_4); have hfz24_0 := blk_frozen BK178.out 0; have hfz24_1 := blk_frozen BK178.out 1; have hfz24_2 := blk_frozen BK178.out 2; have hfz24_3 := blk_frozen BK178.out 3; have hfz24_4 := blk_frozen BK178.out 4; have hcz25_0 := cz_ BK179 0 (.int .i64 a1_0); have hcz25_1 := cz_ BK179 1 (.int .i64 a1_1); have hcz25_2 := cz_ BK179 2 (.int .i64 a1_2); have hcz25_3 := cz_ BK179 3 (.slice A1_3 l1_3.length c1_3); have hcz25_4 := cz_ BK179 4 (.slice A1_4 l1_4.length c1_4); have hfz25_0 := blk_frozen BK179.out 0; have hfz25_1 := blk_frozen BK179.out 1; have hfz25_2 := blk_frozen BK179.out 2; have hfz25_3 := blk_frozen BK179.out 3; have hfz25_4 := blk_frozen BK179.out 4)); try go_wp2_with (first | (go_at_call 14; (with_reducible refine (spec_LsaOk.calls k a0_0 a0_1 a0_2 _ _ l0_3 _ _ l0_4 true _ ?side1 ?side2 ?side3 ?side4 A6.out).mono ?_); (case side1 => exact cb_ HR0_3 HB); (case side2 => exact HC0_3.out); (case side3 => exact cb_ HR0_4 HB); (case side4 => exact HC0_4.out); rintro e w21 ⟨rfl, hb⟩; replace BK178 := Aside0.mk (bb_ BK178 hb); replace BK179 := Aside0.mk (bb_ BK179 hb); replace HB := Aside0.mk (bt_ HB hb); (try clear hb); (try clear hb2); (try clear hk); (try clear hi); have hcz22_0 := cz_ BK179 0 (.int .i64 a1_0); have hcz22_1 := cz_ BK179 1 (.int .i64 a1_1); have hcz22_2 := cz_ BK179 2 (.int .i64 a1_2); have hcz22_3 := cz_ BK179 3 (.slice A1_3 l1_3.length c1_3); have hcz22_4 := cz_ BK179 4 (.slice A1_4 l1_4.length c1_4); have hfz22_0 := blk_frozen BK179.out 0; have hfz22_1 := blk_frozen BK179.out 1; have hfz22_2 := blk_frozen BK179.out 2; have hfz22_3 := blk_frozen BK179.out 3; have hfz22_4 := blk_frozen BK179.out 4) | (go_at_call 14; (with_reducible refine (spec_LsaOk.calls k a1_0 a1_1 a1_2 _ _ l1_3 _ _ l1_4 true _ ?side1 ?side2 ?side3 ?side4 A8.out).mono ?_); (case side1 => exact cb_ HR1_3 HB); (case side2 => exact HC1_3.out); (case side3 => exact cb_ HR1_4 HB); (case side4 => exact HC1_4.out); rintro e w23 ⟨rfl, hb⟩; replace BK178 := Aside0.mk (bb_ BK178 hb); replace BK179 := Aside0.mk (bb_ BK179 hb); replace HB := Aside0.mk (bt_ HB hb); (try clear hb); (try clear hb2); (try clear hk); (try clear hi); have hcz24_0 := cz_ BK178 0 (.int .i64 a0_0); have hcz24_1 := cz_ BK178 1 (.int .i64 a0_1); have hcz24_2 := cz_ BK178 2 (.int .i64 a0_2); have hcz24_3 := cz_ BK178 3 (.slice A0_3 l0_3.length c0_3); have hcz24_4 := cz_ BK178 4 (.slice A0_4 l0_4.length c0_4); have hfz24_0 := blk_frozen BK178.out 0; have hfz24_1 := blk_frozen BK178.out 1; have hfz24_2 := blk_frozen BK178.out 2; have hfz24_3 := blk_frozen BK178.out 3; have hfz24_4 := blk_frozen BK178.out 4; have hcz25_0 := cz_ BK179 0 (.int .i64 a1_0); have hcz25_1 := cz_ BK179 1 (.int .i64 a1_1); have hcz25_2 := cz_ BK179 2 (.int .i64 a1_2); have hcz25_3 := cz_ BK179 3 (.slice A1_3 l1_3.length c1_3); have hcz25_4 := cz_ BK179 4 (.slice A1_4 l1_4.length c1_4); have hfz25_0 := blk_frozen BK179.out 0; have hfz25_1 := blk_frozen BK179.out 1; have hfz25_2 := blk_frozen BK179.out 2; have hfz25_3 := blk_frozen BK179.out 3; have hfz25_4 := blk_frozen BK179.out 4)))
      go_meet
      case rel => exact ⟨_, (true), (by first | rfl | (simp; done) | (simp [*]; done)), H', ⟨by first | omega | exact Nat.le_refl _⟩, ⟨by (with_reducible repeat (first | refine blk_drewN ?_ _ | refine blk_drew ?_ | refine blk_alloc ?_ _)); exact BK178.out⟩, ⟨by (with_reducible repeat (first | refine blk_drewN ?_ _ | refine blk_drew ?_ | refine blk_alloc ?_ _)); exact BK179.out⟩, ⟨by repeat (first | (with_reducible first | exact HB.out | apply below_alloc | apply pw_below_drewN | apply below_drew1 | refine below_set ?_ GE178.out | refine below_set ?_ GE179.out) | exact HB.out)⟩⟩
    ·rw [if_neg c10] at H
     have c10b0 : (a0_0 == a1_0) = false := beq_eq_false_iff_ne.mpr c10
     have c10b1 : (a0_0 != a1_0) = true := bne_iff_ne.mpr c10
     (first | rw [c10b0] | (simp only [i64_w, i32_w]; rw [c10b0]) | skip)
     have H' := Aside0.mk H
     clear H
     have hnb26 := NB178_179.out
     have hnc26 := NB179_178.out
     have hcz27_0 := cz_ BK178 0 (.int .i64 a0_0)
     have hcz27_1 := cz_ BK178 1 (.int .i64 a0_1)
     have hcz27_2 := cz_ BK178 2 (.int .i64 a0_2)
     have hcz27_3 := cz_ BK178 3 (.slice A0_3 l0_3.length c0_3)
     have hcz27_4 := cz_ BK178 4 (.slice A0_4 l0_4.length c0_4)
     have hfz27_0 := blk_frozen BK178.out 0
     have hfz27_1 := blk_frozen BK178.out 1
     have hfz27_2 := blk_frozen BK178.out 2
     have hfz27_3 := blk_frozen BK178.out 3
     have hfz27_4 := blk_frozen BK178.out 4
     go_wp2_with (first | (go_at_call 14; (with_reducible refine (spec_LsaOk.calls k a0_0 a0_1 a0_2 _ _ l0_3 _ _ l0_4 true _ ?side1 ?side2 ?side3 ?side4 A6.out).mono ?_); (case side1 => exact cb_ HR0_3 HB); (case side2 => exact HC0_3.out); (case side3 => exact cb_ HR0_4 HB); (case side4 => exact HC0_4.out); rintro e w28 ⟨rfl, hb⟩; replace BK178 := Aside0.mk (bb_ BK178 hb); replace BK179 := Aside0.mk (bb_ BK179 hb); replace HB := Aside0.mk (bt_ HB hb); (try clear hb); (try clear hb2); (try clear hk); (try clear hi); have hcz29_0 := cz_ BK179 0 (.int .i64 a1_0); have hcz29_1 := cz_ BK179 1 (.int .i64 a1_1); have hcz29_2 := cz_ BK179 2 (.int .i64 a1_2); have hcz29_3 := cz_ BK179 3 (.slice A1_3 l1_3.length c1_3); have hcz29_4 := cz_ BK179 4 (.slice A1_4 l1_4.length c1_4); have hfz29_0 := blk_frozen BK179.out 0; have hfz29_1 := blk_frozen BK179.out 1; have hfz29_2 := blk_frozen BK179.out 2; have hfz29_3 := blk_frozen BK179.out 3; have hfz29_4 := blk_frozen BK179.out 4) | (go_at_call 14; (with_reducible refine (spec_LsaOk.calls k a1_0 a1_1 a1_2 _ _ l1_3 _ _ l1_4 true _ ?side1 ?side2 ?side3 ?side4 A8.out).mono ?_); (case side1 => exact cb_ HR1_3 HB); (case side2 => exact HC1_3.out); (case side3 => exact cb_ HR1_4 HB); (case side4 => exact HC1_4.out); rintro e w30 ⟨rfl, hb⟩; replace BK178 := Aside0.mk (bb_ BK178 hb); replace BK179 := Aside0.mk (bb_ BK179 hb); replace HB := Aside0.mk (bt_ HB hb); (try clear hb); (try clear hb2); (try clear hk); (try clear hi); have hcz31_0 := cz_ BK178 0 (.int .i64 a0_0); have hcz31_1 := cz_ BK178 1 (.int .i64 a0_1); have hcz31_2 := cz_ BK178 2 (.int .i64 a0_2); have hcz31_3 := cz_ BK178 3 (.slice A0_3 l0_3.length c0_3); have hcz31_4 := cz_ BK178 4 (.slice A0_4 l0_4.length c0_4); have hfz31_0 := blk_frozen BK178.out 0; have hfz31_1 := blk_frozen BK178.out 1; have hfz31_2 := blk_frozen BK178.out 2; have hfz31_3 := blk_frozen BK178.out 3; have hfz31_4 := blk_frozen BK178.out 4; have hcz32_0 := cz_ BK179 0 (.int .i64 a1_0); have hcz32_1 := cz_ BK179 1 (.int .i64 a1_1); have hcz32_2 := cz_ BK179 2 (.int .i64 a1_2); have hcz32_3 := cz_ BK179 3 (.slice A1_3 l1_3.length c1_3); have hcz32_4 := cz_ BK179 4 (.slice A1_4 l1_4.length c1_4); have hfz32_0 := blk_frozen BK179.out 0; have hfz32_1 := blk_frozen BK179.out 1; have hfz32_2 := blk_frozen BK179.out 2; have hfz32_3 := blk_frozen BK179.out 3; have hfz32_4 := blk_frozen BK179.out 4))
     repeat (go_quiet (first | (go_at_call 14; (with_reducible refine (spec_LsaOk.calls k a0_0 a0_1 a0_2 _ _ l0_3 _ _ l0_4 true _ ?side1 ?side2 ?side3 ?side4 A6.out).mono ?_); (case side1 => exact cb_ HR0_3 HB); (case side2 => exact HC0_3.out); (case side3 => exact cb_ HR0_4 HB); (case side4 => exact HC0_4.out); rintro e w28 ⟨rfl, hb⟩; replace BK178 := Aside0.mk (bb_ BK178 hb); replace BK179 := Aside0.mk (bb_ BK179 hb); replace HB := Aside0.mk (bt_ HB hb); (try clear hb); (try clear hb2); (try clear hk); (try clear hi); have hcz29_0 := cz_ BK179 0 (.int .i64 a1_0); have hcz29_1 := cz_ BK179 1 (.int .i64 a1_1); have hcz29_2 := cz_ BK179 2 (.int .i64 a1_2); have hcz29_3 := cz_ BK179 3 (.slice A1_3 l1_3.length c1_3); have hcz29_4 := cz_ BK179 4 (.slice A1_4 l1_4.length c1_4); have hfz29_0 := blk_frozen BK179.out 0; have hfz29_1 := blk_frozen BK179.out 1; have hfz29_2 := blk_frozen BK179.out 2; have hfz29_3 := blk_frozen BK179.out 3; have hfz29_4 := blk_frozen BK179.out 4) | (go_at_call 14; (with_reducible refine (spec_LsaOk.calls k a1_0 a1_1 a1_2 _ _ l1_3 _ _ l1_4 true _ ?side1 ?side2 ?side3 ?side4 A8.out).mono ?_); (case side1 => exact cb_ HR1_3 HB); (case side2 => exact HC1_3.out); (case side3 => exact cb_ HR1_4 HB); (case side4 => exact HC1_4.out); rintro e w30 ⟨rfl, hb⟩; replace BK178 := Aside0.mk (bb_ BK178 hb); replace BK179 := Aside0.mk (bb_ BK179 hb); replace HB := Aside0.mk (bt_ HB hb); (try clear hb); (try clear hb2); (try clear hk); (try clear hi); have hcz31_0 := cz_ BK178 0 (.int .i64 a0_0); have hcz31_1 := cz_ BK178 1 (.int .i64 a0_1); have hcz31_2 := cz_ BK178 2 (.int .i64 a0_2); have hcz31_3 := cz_ BK178 3 (.slice A0_3 l0_3.length c0_3); have hcz31_4 := cz_ BK178 4 (.slice A0_4 l0_4.length c0_4); have hfz31_0 := blk_frozen BK178.out 0; have hfz31_1 := blk_frozen BK178.out 1; have hfz31_2 := blk_frozen BK178.out 2; have hfz31_3 := blk_frozen BK178.out 3; have hfz31_4 := blk_frozen BK178.out 4; have hcz32_0 := cz_ BK179 0 (.int .i64 a1_0); have hcz32_1 := cz_ BK179 1 (.int .i64 a1_1); have hcz32_2 := cz_ BK179 2 (.int .i64 a1_2); have hcz32_3 := cz_ BK179 3 (.slice A1_3 l1_3.length c1_3); have hcz32_4 := cz_ BK179 4 (.slice A1_4 l1_4.length c1_4); have hfz32_0 := blk_frozen BK179.out 0; have hfz32_1 := blk_frozen BK179.out 1; have hfz32_2 := blk_frozen BK179.out 2; have hfz32_3 := blk_frozen BK179.out 3; have hfz32_4 := blk_frozen BK179.out 4)); try go_wp2_with (first | (go_at_call 14; (with_reducible refine (spec_LsaOk.calls k a0_0 a0_1 a0_2 _ _ l0_3 _ _ l0_4 true _ ?side1 ?side2 ?side3 ?side4 A6.out).mono ?_); (case side1 => exact cb_ HR0_3 HB); (case side2 => exact HC0_3.out); (case side3 => exact cb_ HR0_4 HB); (case side4 => exact HC0_4.out); rintro e w28 ⟨rfl, hb⟩; replace BK178 := Aside0.mk (bb_ BK178 hb); replace BK179 := Aside0.mk (bb_ BK179 hb); replace HB := Aside0.mk (bt_ HB hb); (try clear hb); (try clear hb2); (try clear hk); (try clear hi); have hcz29_0 := cz_ BK179 0 (.int .i64 a1_0); have hcz29_1 := cz_ BK179 1 (.int .i64 a1_1); have hcz29_2 := cz_ BK179 2 (.int .i64 a1_2); have hcz29_3 := cz_ BK179 3 (.slice A1_3 l1_3.length c1_3); have hcz29_4 := cz_ BK179 4 (.slice A1_4 l1_4.length c1_4); have hfz29_0 := blk_frozen BK179.out 0; have hfz29_1 := blk_frozen BK179.out 1; have hfz29_2 := blk_frozen BK179.out 2; have hfz29_3 := blk_frozen BK179.out 3; have hfz29_4 := blk_frozen BK179.out 4) | (go_at_call 14; (with_reducible refine (spec_LsaOk.calls k a1_0 a1_1 a1_2 _ _ l1_3 _ _ l1_4 true _ ?side1 ?side2 ?side3 ?side4 A8.out).mono ?_); (case side1 => exact cb_ HR1_3 HB); (case side2 => exact HC1_3.out); (case side3 => exact cb_ HR1_4 HB); (case side4 => exact HC1_4.out); rintro e w30 ⟨rfl, hb⟩; replace BK178 := Aside0.mk (bb_ BK178 hb); replace BK179 := Aside0.mk (bb_ BK179 hb); replace HB := Aside0.mk (bt_ HB hb); (try clear hb); (try clear hb2); (try clear hk); (try clear hi); have hcz31_0 := cz_ BK178 0 (.int .i64 a0_0); have hcz31_1 := cz_ BK178 1 (.int .i64 a0_1); have hcz31_2 := cz_ BK178 2 (.int .i64 a0_2); have hcz31_3 := cz_ BK178 3 (.slice A0_3 l0_3.length c0_3); have hcz31_4 := cz_ BK178 4 (.slice A0_4 l0_4.length c0_4); have hfz31_0 := blk_frozen BK178.out 0; have hfz31_1 := blk_frozen BK178.out 1; have hfz31_2 := blk_frozen BK178.out 2; have hfz31_3 := blk_frozen BK178.out 3; have hfz31_4 := blk_frozen BK178.out 4; have hcz32_0 := cz_ BK179 0 (.int .i64 a1_0); have hcz32_1 := cz_ BK179 1 (.int .i64 a1_1); have hcz32_2 := cz_ BK179 2 (.int .i64 a1_2); have hcz32_3 := cz_ BK179 3 (.slice A1_3 l1_3.length c1_3); have hcz32_4 := cz_ BK179 4 (.slice A1_4 l1_4.length c1_4); have hfz32_0 := blk_frozen BK179.out 0; have hfz32_1 := blk_frozen BK179.out 1; have hfz32_2 := blk_frozen BK179.out 2; have hfz32_3 := blk_frozen BK179.out 3; have hfz32_4 := blk_frozen BK179.out 4)))
     go_meet
     case rel => exact ⟨_, (true), (by first | rfl | (simp; done) | (simp [*]; done)), H', ⟨by first | omega | exact Nat.le_refl _⟩, ⟨by (with_reducible repeat (first | refine blk_drewN ?_ _ | refine blk_drew ?_ | refine blk_alloc ?_ _)); exact BK178.out⟩, ⟨by (with_reducible repeat (first | refine blk_drewN ?_ _ | refine blk_drew ?_ | refine blk_alloc ?_ _)); exact BK179.out⟩, ⟨by repeat (first | (with_reducible first | exact HB.out | apply below_alloc | apply pw_below_drewN | apply below_drew1 | refine below_set ?_ GE178.out | refine below_set ?_ GE179.out) | exact HB.out)⟩⟩
   ·replace c9 := Bool.eq_false_iff.mpr c9
    subst c9
    rw [if_neg (show ¬ (false = true) by decide)] at H
    have H' := Aside0.mk H
    clear H
    have hnb33 := NB178_179.out
    have hnc33 := NB179_178.out
    have hcz34_0 := cz_ BK178 0 (.int .i64 a0_0)
    have hcz34_1 := cz_ BK178 1 (.int .i64 a0_1)
    have hcz34_2 := cz_ BK178 2 (.int .i64 a0_2)
    have hcz34_3 := cz_ BK178 3 (.slice A0_3 l0_3.length c0_3)
    have hcz34_4 := cz_ BK178 4 (.slice A0_4 l0_4.length c0_4)
    have hfz34_0 := blk_frozen BK178.out 0
    have hfz34_1 := blk_frozen BK178.out 1
    have hfz34_2 := blk_frozen BK178.out 2
    have hfz34_3 := blk_frozen BK178.out 3
    have hfz34_4 := blk_frozen BK178.out 4
    go_wp2_with (first | (go_at_call 14; (with_reducible refine (spec_LsaOk.calls k a0_0 a0_1 a0_2 _ _ l0_3 _ _ l0_4 true _ ?side1 ?side2 ?side3 ?side4 A6.out).mono ?_); (case side1 => exact cb_ HR0_3 HB); (case side2 => exact HC0_3.out); (case side3 => exact cb_ HR0_4 HB); (case side4 => exact HC0_4.out); rintro e w35 ⟨rfl, hb⟩; replace BK178 := Aside0.mk (bb_ BK178 hb); replace BK179 := Aside0.mk (bb_ BK179 hb); replace HB := Aside0.mk (bt_ HB hb); (try clear hb); (try clear hb2); (try clear hk); (try clear hi); have hcz36_0 := cz_ BK179 0 (.int .i64 a1_0); have hcz36_1 := cz_ BK179 1 (.int .i64 a1_1); have hcz36_2 := cz_ BK179 2 (.int .i64 a1_2); have hcz36_3 := cz_ BK179 3 (.slice A1_3 l1_3.length c1_3); have hcz36_4 := cz_ BK179 4 (.slice A1_4 l1_4.length c1_4); have hfz36_0 := blk_frozen BK179.out 0; have hfz36_1 := blk_frozen BK179.out 1; have hfz36_2 := blk_frozen BK179.out 2; have hfz36_3 := blk_frozen BK179.out 3; have hfz36_4 := blk_frozen BK179.out 4) | (go_at_call 14; (with_reducible refine (spec_LsaOk.calls k a1_0 a1_1 a1_2 _ _ l1_3 _ _ l1_4 false _ ?side1 ?side2 ?side3 ?side4 A8.out).mono ?_); (case side1 => exact cb_ HR1_3 HB); (case side2 => exact HC1_3.out); (case side3 => exact cb_ HR1_4 HB); (case side4 => exact HC1_4.out); rintro e w37 ⟨rfl, hb⟩; replace BK178 := Aside0.mk (bb_ BK178 hb); replace BK179 := Aside0.mk (bb_ BK179 hb); replace HB := Aside0.mk (bt_ HB hb); (try clear hb); (try clear hb2); (try clear hk); (try clear hi)))
    repeat (go_quiet (first | (go_at_call 14; (with_reducible refine (spec_LsaOk.calls k a0_0 a0_1 a0_2 _ _ l0_3 _ _ l0_4 true _ ?side1 ?side2 ?side3 ?side4 A6.out).mono ?_); (case side1 => exact cb_ HR0_3 HB); (case side2 => exact HC0_3.out); (case side3 => exact cb_ HR0_4 HB); (case side4 => exact HC0_4.out); rintro e w35 ⟨rfl, hb⟩; replace BK178 := Aside0.mk (bb_ BK178 hb); replace BK179 := Aside0.mk (bb_ BK179 hb); replace HB := Aside0.mk (bt_ HB hb); (try clear hb); (try clear hb2); (try clear hk); (try clear hi); have hcz36_0 := cz_ BK179 0 (.int .i64 a1_0); have hcz36_1 := cz_ BK179 1 (.int .i64 a1_1); have hcz36_2 := cz_ BK179 2 (.int .i64 a1_2); have hcz36_3 := cz_ BK179 3 (.slice A1_3 l1_3.length c1_3); have hcz36_4 := cz_ BK179 4 (.slice A1_4 l1_4.length c1_4); have hfz36_0 := blk_frozen BK179.out 0; have hfz36_1 := blk_frozen BK179.out 1; have hfz36_2 := blk_frozen BK179.out 2; have hfz36_3 := blk_frozen BK179.out 3; have hfz36_4 := blk_frozen BK179.out 4) | (go_at_call 14; (with_reducible refine (spec_LsaOk.calls k a1_0 a1_1 a1_2 _ _ l1_3 _ _ l1_4 false _ ?side1 ?side2 ?side3 ?side4 A8.out).mono ?_); (case side1 => exact cb_ HR1_3 HB); (case side2 => exact HC1_3.out); (case side3 => exact cb_ HR1_4 HB); (case side4 => exact HC1_4.out); rintro e w37 ⟨rfl, hb⟩; replace BK178 := Aside0.mk (bb_ BK178 hb); replace BK179 := Aside0.mk (bb_ BK179 hb); replace HB := Aside0.mk (bt_ HB hb); (try clear hb); (try clear hb2); (try clear hk); (try clear hi))); try go_wp2_with (first | (go_at_call 14; (with_reducible refine (spec_LsaOk.calls k a0_0 a0_1 a0_2 _ _ l0_3 _ _ l0_4 true _ ?side1 ?side2 ?side3 ?side4 A6.out).mono ?_); (case side1 => exact cb_ HR0_3 HB); (case side2 => exact HC0_3.out); (case side3 => exact cb_ HR0_4 HB); (case side4 => exact HC0_4.out); rintro e w35 ⟨rfl, hb⟩; replace BK178 := Aside0.mk (bb_ BK178 hb); replace BK179 := Aside0.mk (bb_ BK179 hb); replace HB := Aside0.mk (bt_ HB hb); (try clear hb); (try clear hb2); (try clear hk); (try clear hi); have hcz36_0 := cz_ BK179 0 (.int .i64 a1_0); have hcz36_1 := cz_ BK179 1 (.int .i64 a1_1); have hcz36_2 := cz_ BK179 2 (.int .i64 a1_2); have hcz36_3 := cz_ BK179 3 (.slice A1_3 l1_3.length c1_3); have hcz36_4 := cz_ BK179 4 (.slice A1_4 l1_4.length c1_4); have hfz36_0 := blk_frozen BK179.out 0; have hfz36_1 := blk_frozen BK179.out 1; have hfz36_2 := blk_frozen BK179.out 2; have hfz36_3 := blk_frozen BK179.out 3; have hfz36_4 := blk_frozen BK179.out 4) | (go_at_call 14; (with_reducible refine (spec_LsaOk.calls k a1_0 a1_1 a1_2 _ _ l1_3 _ _ l1_4 false _ ?side1 ?side2 ?side3 ?side4 A8.out).mono ?_); (case side1 => exact cb_ HR1_3 HB); (case side2 => exact HC1_3.out); (case side3 => exact cb_ HR1_4 HB); (case side4 => exact HC1_4.out); rintro e w37 ⟨rfl, hb⟩; replace BK178 := Aside0.mk (bb_ BK178 hb); replace BK179 := Aside0.mk (bb_ BK179 hb); replace HB := Aside0.mk (bt_ HB hb); (try clear hb); (try clear hb2); (try clear hk); (try clear hi))))
    go_meet
    case rel => exact ⟨_, (true), (by first | rfl | (simp; done) | (simp [*]; done)), H', ⟨by first | omega | exact Nat.le_refl _⟩, ⟨by (with_reducible repeat (first | refine blk_drewN ?_ _ | refine blk_drew ?_ | refine blk_alloc ?_ _)); exact BK178.out⟩, ⟨by (with_reducible repeat (first | refine blk_drewN ?_ _ | refine blk_drew ?_ | refine blk_alloc ?_ _)); exact BK179.out⟩, ⟨by repeat (first | (with_reducible first | exact HB.out | apply below_alloc | apply pw_below_drewN | apply below_drew1 | refine below_set ?_ GE178.out | refine below_set ?_ GE179.out) | exact HB.out)⟩⟩
  ·replace c7 := Bool.eq_false_iff.mpr c7
   subst c7
   rw [if_neg (show ¬ (false = true) by decide)] at H
   have H' := Aside0.mk H
   clear H
   have hnb38 := NB178_179.out
   have hnc38 := NB179_178.out
   have hcz39_0 := cz_ BK178 0 (.int .i64 a0_0)
   have hcz39_1 := cz_ BK178 1 (.int .i64 a0_1)
   have hcz39_2 := cz_ BK178 2 (.int .i64 a0_2)
   have hcz39_3 := cz_ BK178 3 (.slice A0_3 l0_3.length c0_3)
   have hcz39_4 := cz_ BK178 4 (.slice A0_4 l0_4.length c0_4)
   have hfz39_0 := blk_frozen BK178.out 0
   have hfz39_1 := blk_frozen BK178.out 1
   have hfz39_2 := blk_frozen BK178.out 2
   have hfz39_3 := blk_frozen BK178.out 3
   have hfz39_4 := blk_frozen BK178.out 4
   go_wp2_with (first | (go_at_call 14; (with_reducible refine (spec_LsaOk.calls k a0_0 a0_1 a0_2 _ _ l0_3 _ _ l0_4 false _ ?side1 ?side2 ?side3 ?side4 A6.out).mono ?_); (case side1 => exact cb_ HR0_3 HB); (case side2 => exact HC0_3.out); (case side3 => exact cb_ HR0_4 HB); (case side4 => exact HC0_4.out); rintro e w40 ⟨rfl, hb⟩; replace BK178 := Aside0.mk (bb_ BK178 hb); replace BK179 := Aside0.mk (bb_ BK179 hb); replace HB := Aside0.mk (bt_ HB hb); (try clear hb); (try clear hb2); (try clear hk); (try clear hi)))
   repeat (go_quiet (first | (go_at_call 14; (with_reducible refine (spec_LsaOk.calls k a0_0 a0_1 a0_2 _ _ l0_3 _ _ l0_4 false _ ?side1 ?side2 ?side3 ?side4 A6.out).mono ?_); (case side1 => exact cb_ HR0_3 HB); (case side2 => exact HC0_3.out); (case side3 => exact cb_ HR0_4 HB); (case side4 => exact HC0_4.out); rintro e w40 ⟨rfl, hb⟩; replace BK178 := Aside0.mk (bb_ BK178 hb); replace BK179 := Aside0.mk (bb_ BK179 hb); replace HB := Aside0.mk (bt_ HB hb); (try clear hb); (try clear hb2); (try clear hk); (try clear hi))); try go_wp2_with (first | (go_at_call 14; (with_reducible refine (spec_LsaOk.calls k a0_0 a0_1 a0_2 _ _ l0_3 _ _ l0_4 false _ ?side1 ?side2 ?side3 ?side4 A6.out).mono ?_); (case side1 => exact cb_ HR0_3 HB); (case side2 => exact HC0_3.out); (case side3 => exact cb_ HR0_4 HB); (case side4 => exact HC0_4.out); rintro e w40 ⟨rfl, hb⟩; replace BK178 := Aside0.mk (bb_ BK178 hb); replace BK179 := Aside0.mk (bb_ BK179 hb); replace HB := Aside0.mk (bt_ HB hb); (try clear hb); (try clear hb2); (try clear hk); (try clear hi))))
   go_meet
   case rel => exact ⟨_, (true), (by first | rfl | (simp; done) | (simp [*]; done)), H', ⟨by first | omega | exact Nat.le_refl _⟩, ⟨by (with_reducible repeat (first | refine blk_drewN ?_ _ | refine blk_drew ?_ | refine blk_alloc ?_ _)); exact BK178.out⟩, ⟨by (with_reducible repeat (first | refine blk_drewN ?_ _ | refine blk_drew ?_ | refine blk_alloc ?_ _)); exact BK179.out⟩, ⟨by repeat (first | (with_reducible first | exact HB.out | apply below_alloc | apply pw_below_drewN | apply below_drew1 | refine below_set ?_ GE178.out | refine below_set ?_ GE179.out) | exact HB.out)⟩⟩
 case rest =>
  clear HC3
  try clear c1
  try clear c2
  try clear p2
  try clear c3
  try clear c7
  try clear c9
  try clear c10
  try clear c10b0
  try clear c10b1
  try clear c11
  try clear c11b0
  try clear c11b1
  try clear c11b2
  try clear c12
  try clear c18
  try clear c19
  try clear c26
  try clear c33
  try clear c38
  try clear hcz13_0
  try clear hcz13_1
  try clear hcz13_2
  try clear hcz13_3
  try clear hcz13_4
  try clear hcz15_0
  try clear hcz15_1
  try clear hcz15_2
  try clear hcz15_3
  try clear hcz15_4
  try clear hcz17_0
  try clear hcz17_1
  try clear hcz17_2
  try clear hcz17_3
  try clear hcz17_4
  try clear hcz18_0
  try clear hcz18_1
  try clear hcz18_2
  try clear hcz18_3
  try clear hcz18_4
  try clear hcz20_0
  try clear hcz20_1
  try clear hcz20_2
  try clear hcz20_3
  try clear hcz20_4
  try clear hcz22_0
  try clear hcz22_1
  try clear hcz22_2
  try clear hcz22_3
  try clear hcz22_4
  try clear hcz24_0
  try clear hcz24_1
  try clear hcz24_2
  try clear hcz24_3
  try clear hcz24_4
  try clear hcz25_0
  try clear hcz25_1
  try clear hcz25_2
  try clear hcz25_3
  try clear hcz25_4
  try clear hcz27_0
  try clear hcz27_1
  try clear hcz27_2
  try clear hcz27_3
  try clear hcz27_4
  try clear hcz29_0
  try clear hcz29_1
  try clear hcz29_2
  try clear hcz29_3
  try clear hcz29_4
  try clear hcz31_0
  try clear hcz31_1
  try clear hcz31_2
  try clear hcz31_3
  try clear hcz31_4
  try clear hcz32_0
  try clear hcz32_1
  try clear hcz32_2
  try clear hcz32_3
  try clear hcz32_4
  try clear hcz34_0
  try clear hcz34_1
  try clear hcz34_2
  try clear hcz34_3
  try clear hcz34_4
  try clear hcz36_0
  try clear hcz36_1
  try clear hcz36_2
  try clear hcz36_3
  try clear hcz36_4
  try clear hcz39_0
  try clear hcz39_1
  try clear hcz39_2
  try clear hcz39_3
  try clear hcz39_4
  try clear hfz13_0
  try clear hfz13_1
  try clear hfz13_2
  try clear hfz13_3
  try clear hfz13_4
  try clear hfz15_0
  try clear hfz15_1
  try clear hfz15_2
  try clear hfz15_3
  try clear hfz15_4
  try clear hfz17_0
  try clear hfz17_1
  try clear hfz17_2
  try clear hfz17_3
  try clear hfz17_4
  try clear hfz18_0
  try clear hfz18_1
  try clear hfz18_2
  try clear hfz18_3
  try clear hfz18_4
  try clear hfz20_0
  try clear hfz20_1
  try clear hfz20_2
  try clear hfz20_3
  try clear hfz20_4
  try clear hfz22_0
  try clear hfz22_1
  try clear hfz22_2
  try clear hfz22_3
  try clear hfz22_4
  try clear hfz24_0
  try clear hfz24_1
  try clear hfz24_2
  try clear hfz24_3
  try clear hfz24_4
  try clear hfz25_0
  try clear hfz25_1
  try clear hfz25_2
  try clear hfz25_3
  try clear hfz25_4
  try clear hfz27_0
  try clear hfz27_1
  try clear hfz27_2
  try clear hfz27_3
  try clear hfz27_4
  try clear hfz29_0
  try clear hfz29_1
  try clear hfz29_2
  try clear hfz29_3
  try clear hfz29_4
  try clear hfz31_0
  try clear hfz31_1
  try clear hfz31_2
  try clear hfz31_3
  try clear hfz31_4
  try clear hfz32_0
  try clear hfz32_1
  try clear hfz32_2
  try clear hfz32_3
  try clear hfz32_4
  try clear hfz34_0
  try clear hfz34_1
  try clear hfz34_2
  try clear hfz34_3
  try clear hfz34_4
  try clear hfz36_0
  try clear hfz36_1
  try clear hfz36_2
  try clear hfz36_3
  try clear hfz36_4
  try clear hfz39_0
  try clear hfz39_1
  try clear hfz39_2
  try clear hfz39_3
  try clear hfz39_4
  obtain ⟨kq, x39_2, rfl, HA, HJ2, BK178, BK179, HB⟩ := hcut
  cases kq with
  | zero => exact absurd HA.out (by simp [spec_SameWords.j0])
  | succ kj2 =>
   have H := HA.out
   clear HA
   simp only [spec_SameWords.j0] at H
   by_cases c41 : x39_2 = true
   ·subst c41
    rw [if_pos rfl] at H
    obtain rfl := Option.some.inj H
    go_wp2
    repeat (go_quiet (fail); try go_wp2)
    go_ret
    exact ⟨by first | rfl | (simp [errW_none, errW_some] <;> rfl) | (simp [*, errW_none, errW_some] <;> rfl), by repeat (first | (with_reducible first | exact HB.out | apply below_alloc | apply pw_below_drewN | apply below_drew1 | refine below_set ?_ GE178.out | refine below_set ?_ GE179.out) | exact HB.out)⟩
   ·replace c41 := Bool.eq_false_iff.mpr c41
    subst c41
    rw [if_neg (show ¬ (false = true) by decide)] at H
    have H' := Aside0.mk H
    clear H
    go_wp2
    repeat (go_quiet (fail); try go_wp2)
    go_loopg [5] kj2 (fun kq v5 w' => ∃ (x5_2 : Int), v5 = .int .i64 x5_2 ∧ Aside0 (spec_SameWords.l0 kq x5_2 a0_0 a0_1 a0_2 l0_3 l0_4 a1_0 a1_1 a1_2 l1_3 l1_4 = some r) ∧ Aside0 (kq ≤ kj2) ∧ Aside0 (w'.heap[gb178]? = some (.cells #[.int .i64 a0_0, .int .i64 a0_1, .int .i64 a0_2, (.slice A0_3 l0_3.length c0_3), (.slice A0_4 l0_4.length c0_4)] 31 (0, 0))) ∧ Aside0 (w'.heap[gb179]? = some (.cells #[.int .i64 a1_0, .int .i64 a1_1, .int .i64 a1_2, (.slice A1_3 l1_3.length c1_3), (.slice A1_4 l1_4.length c1_4)] 31 (0, 0))) ∧ Aside0 (Below w.heap.size w w'))
    case atStart => exact ⟨(0), (by first | rfl | (simp; done) | (simp [*]; done)), H', ⟨Nat.le_refl _⟩, ⟨by (with_reducible repeat (first | refine blk_drewN ?_ _ | refine blk_drew ?_ | refine blk_alloc ?_ _)); exact BK178.out⟩, ⟨by (with_reducible repeat (first | refine blk_drewN ?_ _ | refine blk_drew ?_ | refine blk_alloc ?_ _)); exact BK179.out⟩, ⟨by repeat (first | (with_reducible first | exact HB.out | apply below_alloc | apply pw_below_drewN | apply below_drew1 | refine below_set ?_ GE178.out | refine below_set ?_ GE179.out) | exact HB.out)⟩⟩
    case round =>
     clear H'
     try clear c1
     try clear c2
     try clear p2
     try clear c3
     try clear c4
     try clear c7
     try clear c9
     try clear c10
     try clear c10b0
     try clear c10b1
     try clear c11
     try clear c11b0
     try clear c11b1
     try clear c11b2
     try clear c12
     try clear c18
     try clear c19
     try clear c26
     try clear c33
     try clear c38
     try clear c41
     try clear hcz13_0
     try clear hcz13_1
     try clear hcz13_2
     try clear hcz13_3
     try clear hcz13_4
     try clear hcz15_0
     try clear hcz15_1
     try clear hcz15_2
     try clear hcz15_3
     try clear hcz15_4
     try clear hcz17_0
     try clear hcz17_1
     try clear hcz17_2
     try clear hcz17_3
     try clear hcz17_4
     try clear hcz18_0
     try clear hcz18_1
     try clear hcz18_2
     try clear hcz18_3
     try clear hcz18_4
     try clear hcz20_0
     try clear hcz20_1
     try clear hcz20_2
     try clear hcz20_3
     try clear hcz20_4
     try clear hcz22_0
     try clear hcz22_1
     try clear hcz22_2
     try clear hcz22_3
     try clear hcz22_4
     try clear hcz24_0
     try clear hcz24_1
     try clear hcz24_2
     try clear hcz24_3
     try clear hcz24_4
     try clear hcz25_0
     try clear hcz25_1
     try clear hcz25_2
     try clear hcz25_3
     try clear hcz25_4
     try clear hcz27_0
     try clear hcz27_1
     try clear hcz27_2
     try clear hcz27_3
     try clear hcz27_4
     try clear hcz29_0
     try clear hcz29_1
     try clear hcz29_2
     try clear hcz29_3
     try clear hcz29_4
     try clear hcz31_0
     try clear hcz31_1
     try clear hcz31_2
     try clear hcz31_3
     try clear hcz31_4
     try clear hcz32_0
     try clear hcz32_1
     try clear hcz32_2
     try clear hcz32_3
     try clear hcz32_4
     try clear hcz34_0
     try clear hcz34_1
     try clear hcz34_2
     try clear hcz34_3
     try clear hcz34_4
     try clear hcz36_0
     try clear hcz36_1
     try clear hcz36_2
     try clear hcz36_3
     try clear hcz36_4
     try clear hcz39_0
     try clear hcz39_1
     try clear hcz39_2
     try clear hcz39_3
     try clear hcz39_4
     try clear hfz13_0
     try clear hfz13_1
     try clear hfz13_2
     try clear hfz13_3
     try clear hfz13_4
     try clear hfz15_0
     try clear hfz15_1
     try clear hfz15_2
     try clear hfz15_3
     try clear hfz15_4
     try clear hfz17_0
     try clear hfz17_1
     try clear hfz17_2
     try clear hfz17_3
     try clear hfz17_4
     try clear hfz18_0
     try clear hfz18_1
     try clear hfz18_2
     try clear hfz18_3
     try clear hfz18_4
     try clear hfz20_0
     try clear hfz20_1
     try clear hfz20_2
     try clear hfz20_3
     try clear hfz20_4
     try clear hfz22_0
     try clear hfz22_1
     try clear hfz22_2
     try clear hfz22_3
     try clear hfz22_4
     try clear hfz24_0
     try clear hfz24_1
     try clear hfz24_2
     try clear hfz24_3
     try clear hfz24_4
     try clear hfz25_0
     try clear hfz25_1
     try clear hfz25_2
     try clear hfz25_3
     try clear hfz25_4
     try clear hfz27_0
     try clear hfz27_1
     try clear hfz27_2
     try clear hfz27_3
     try clear hfz27_4
     try clear hfz29_0
     try clear hfz29_1
     try clear hfz29_2
     try clear hfz29_3
     try clear hfz29_4
     try clear hfz31_0
     try clear hfz31_1
     try clear hfz31_2
     try clear hfz31_3
     try clear hfz31_4
     try clear hfz32_0
     try clear hfz32_1
     try clear hfz32_2
     try clear hfz32_3
     try clear hfz32_4
     try clear hfz34_0
     try clear hfz34_1
     try clear hfz34_2
     try clear hfz34_3
     try clear hfz34_4
     try clear hfz36_0
     try clear hfz36_1
     try clear hfz36_2
     try clear hfz36_3
     try clear hfz36_4
     try clear hfz39_0
     try clear hfz39_1
     try clear hfz39_2
     try clear hfz39_3
     try clear hfz39_4
     try clear p2
     obtain ⟨x5_2, rfl, HA, HK2, BK178, BK179, HB⟩ := hrel
     cases gk with
     | zero => exact absurd HA.out (by simp [spec_SameWords.l0])
     | succ k2 =>
      have H := HA.out
      clear HA
      simp only [spec_SameWords.l0] at H
      by_cases c42 : x5_2 < (l0_3.length : Int)
      ·rw [if_pos c42] at H
       have c42b0 : decide (x5_2 < (l0_3.length : Int)) = true := decide_eq_true c42
       clear c42
       by_cases c43 : 0 ≤ x5_2
       ·rw [if_pos c43] at H
        have c43b0 : decide (0 ≤ x5_2) = true := decide_eq_true c43
        clear c43
        by_cases c44 : x5_2 < (l1_3.length : Int)
        ·rw [if_pos c44] at H
         have c44b0 : decide (x5_2 < (l1_3.length : Int)) = true := decide_eq_true c44
         clear c44
         by_cases c45 : (!(((rd_T70 l0_3 x5_2).f0) == ((rd_T70 l1_3 x5_2).f0)) || (!(((rd_T70 l0_3 x5_2).f1) == ((rd_T70 l1_3 x5_2).f1)))) = true
         ·rw [if_pos c45] at H
          have c45b0 : (!(((rd_T70 l0_3 x5_2).f0) == ((rd_T70 l1_3 x5_2).f0)) || (!(((rd_T70 l0_3 x5_2).f1) == ((rd_T70 l1_3 x5_2).f1)))) = true := c45
          clear c45
          obtain rfl := Option.some.inj H
          have hnb46 := NB178_179.out
          have hnc46 := NB179_178.out
          have hcz47_0 := cz_ BK178 0 (.int .i64 a0_0)
          have hcz47_1 := cz_ BK178 1 (.int .i64 a0_1)
          have hcz47_2 := cz_ BK178 2 (.int .i64 a0_2)
          have hcz47_3 := cz_ BK178 3 (.slice A0_3 l0_3.length c0_3)
          have hcz47_4 := cz_ BK178 4 (.slice A0_4 l0_4.length c0_4)
          have hfz47_0 := blk_frozen BK178.out 0
          have hfz47_1 := blk_frozen BK178.out 1
          have hfz47_2 := blk_frozen BK178.out 2
          have hfz47_3 := blk_frozen BK178.out 3
          have hfz47_4 := blk_frozen BK178.out 4
          have p182 : 0 ≤ (x5_2 : Int) := of_decide_eq_true (by first | (with_reducible assumption) | assumption)
          have q182 : x5_2 < (l0_3.length : Int) := of_decide_eq_true (by first | (with_reducible assumption) | assumption)
          obtain ⟨ad182, e182, hx182_0, hx182_1⟩ := at_T70 HR0_3.out x5_2 p182 q182
          cases e182
          replace hx182_0 := (HB.out.cell (World.block_lt_of_cell? w _ hx182_0)).trans hx182_0
          replace hx182_1 := (HB.out.cell (World.block_lt_of_cell? w _ hx182_1)).trans hx182_1
          replace p182 := eq_true p182
          replace q182 := eq_true q182
          have hcz48_0 := cz_ BK179 0 (.int .i64 a1_0)
          have hcz48_1 := cz_ BK179 1 (.int .i64 a1_1)
          have hcz48_2 := cz_ BK179 2 (.int .i64 a1_2)
          have hcz48_3 := cz_ BK179 3 (.slice A1_3 l1_3.length c1_3)
          have hcz48_4 := cz_ BK179 4 (.slice A1_4 l1_4.length c1_4)
          have hfz48_0 := blk_frozen BK179.out 0
          have hfz48_1 := blk_frozen BK179.out 1
          have hfz48_2 := blk_frozen BK179.out 2
          have hfz48_3 := blk_frozen BK179.out 3
          have hfz48_4 := blk_frozen BK179.out 4
          have p183 : 0 ≤ (x5_2 : Int) := of_decide_eq_true (by first | (with_reducible assumption) | assumption)
          have q183 : x5_2 < (l1_3.length : Int) := of_decide_eq_true (by first | (with_reducible assumption) | assumption)
          obtain ⟨ad183, e183, hx183_0, hx183_1⟩ := at_T70 HR1_3.out x5_2 p183 q183
          cases e183
          replace hx183_0 := (HB.out.cell (World.block_lt_of_cell? w _ hx183_0)).trans hx183_0
          replace hx183_1 := (HB.out.cell (World.block_lt_of_cell? w _ hx183_1)).trans hx183_1
          replace p183 := eq_true p183
          replace q183 := eq_true q183
          go_wp2
          repeat (go_quiet (fail); try go_wp2)
          go_ret
          exact ⟨by first | rfl | (simp [errW_none, errW_some] <;> rfl) | (simp [*, errW_none, errW_some] <;> rfl), by repeat (first | (with_reducible first | exact HB.out | apply below_alloc | apply pw_below_drewN | apply below_drew1 | refine below_set ?_ GE178.out | refine below_set ?_ GE179.out) | exact HB.out)⟩
         ·rw [if_neg c45] at H
          have c45b0 : (!(((rd_T70 l0_3 x5_2).f0) == ((rd_T70 l1_3 x5_2).f0)) || (!(((rd_T70 l0_3 x5_2).f1) == ((rd_T70 l1_3 x5_2).f1)))) = false := by simpa using c45
          clear c45
          have H' := Aside0.mk H
          clear H
          have hnb49 := NB178_179.out
          have hnc49 := NB179_178.out
          have hcz50_0 := cz_ BK178 0 (.int .i64 a0_0)
          have hcz50_1 := cz_ BK178 1 (.int .i64 a0_1)
          have hcz50_2 := cz_ BK178 2 (.int .i64 a0_2)
          have hcz50_3 := cz_ BK178 3 (.slice A0_3 l0_3.length c0_3)
          have hcz50_4 := cz_ BK178 4 (.slice A0_4 l0_4.length c0_4)
          have hfz50_0 := blk_frozen BK178.out 0
          have hfz50_1 := blk_frozen BK178.out 1
          have hfz50_2 := blk_frozen BK178.out 2
          have hfz50_3 := blk_frozen BK178.out 3
          have hfz50_4 := blk_frozen BK178.out 4
          have p182 : 0 ≤ (x5_2 : Int) := of_decide_eq_true (by first | (with_reducible assumption) | assumption)
          have q182 : x5_2 < (l0_3.length : Int) := of_decide_eq_true (by first | (with_reducible assumption) | assumption)
          obtain ⟨ad182, e182, hx182_0, hx182_1⟩ := at_T70 HR0_3.out x5_2 p182 q182
          cases e182
          replace hx182_0 := (HB.out.cell (World.block_lt_of_cell? w _ hx182_0)).trans hx182_0
          replace hx182_1 := (HB.out.cell (World.block_lt_of_cell? w _ hx182_1)).trans hx182_1
          replace p182 := eq_true p182
          replace q182 := eq_true q182
          have hcz51_0 := cz_ BK179 0 (.int .i64 a1_0)
          have hcz51_1 := cz_ BK179 1 (.int .i64 a1_1)
          have hcz51_2 := cz_ BK179 2 (.int .i64 a1_2)
          have hcz51_3 := cz_ BK179 3 (.slice A1_3 l1_3.length c1_3)
          have hcz51_4 := cz_ BK179 4 (.slice A1_4 l1_4.length c1_4)
          have hfz51_0 := blk_frozen BK179.out 0
          have hfz51_1 := blk_frozen BK179.out 1
          have hfz51_2 := blk_frozen BK179.out 2
          have hfz51_3 := blk_frozen BK179.out 3
          have hfz51_4 := blk_frozen BK179.out 4
          have p183 : 0 ≤ (x5_2 : Int) := of_decide_eq_true (by first | (with_reducible assumption) | assumption)
          have q183 : x5_2 < (l1_3.length : Int) := of_decide_eq_true (by first | (with_reducible assumption) | assumption)
          obtain ⟨ad183, e183, hx183_0, hx183_1⟩ := at_T70 HR1_3.out x5_2 p183 q183
          cases e183
          replace hx183_0 := (HB.out.cell (World.block_lt_of_cell? w _ hx183_0)).trans hx183_0
          replace hx183_1 := (HB.out.cell (World.block_lt_of_cell? w _ hx183_1)).trans hx183_1
          replace p183 := eq_true p183
          replace q183 := eq_true q183
          go_wp2
          repeat (go_quiet (fail); try go_wp2)
          go_roundg k2
          case measure => have := HJ2.out; have := HK2.out; omega
          case rel => exact ⟨(wrap64 (x5_2 + 1)), (by first | rfl | (simp; done) | (simp [*]; done)), H', ⟨by have := HJ2.out; have := HK2.out; omega⟩, ⟨by (with_reducible repeat (first | refine blk_drewN ?_ _ | refine blk_drew ?_ | refine blk_alloc ?_ _)); exact BK178.out⟩, ⟨by (with_reducible repeat (first | refine blk_drewN ?_ _ | refine blk_drew ?_ | refine blk_alloc ?_ _)); exact BK179.out⟩, ⟨by repeat (first | (with_reducible first | exact HB.out | apply below_alloc | apply pw_below_drewN | apply below_drew1 | refine below_set ?_ GE178.out | refine below_set ?_ GE179.out) | exact HB.out)⟩⟩
        ·rw [if_neg c44] at H
         exact absurd H (by simp)
       ·rw [if_neg c43] at H
        exact absurd H (by simp)
      ·rw [if_neg c42] at H
       have c42b0 : decide (x5_2 < (l0_3.length : Int)) = false := decide_eq_false c42
       clear c42
       have H' := Aside0.mk H
       clear H
       have hnb52 := NB178_179.out
       have hnc52 := NB179_178.out
       have hcz53_0 := cz_ BK178 0 (.int .i64 a0_0)
       have hcz53_1 := cz_ BK178 1 (.int .i64 a0_1)
       have hcz53_2 := cz_ BK178 2 (.int .i64 a0_2)
       have hcz53_3 := cz_ BK178 3 (.slice A0_3 l0_3.length c0_3)
       have hcz53_4 := cz_ BK178 4 (.slice A0_4 l0_4.length c0_4)
       have hfz53_0 := blk_frozen BK178.out 0
       have hfz53_1 := blk_frozen BK178.out 1
       have hfz53_2 := blk_frozen BK178.out 2
       have hfz53_3 := blk_frozen BK178.out 3
       have hfz53_4 := blk_frozen BK178.out 4
       go_wp2
       repeat (go_quiet (fail); try go_wp2)
       go_loopg [6] k2 (fun kq v6 w' => ∃ (x6_3 : Int), v6 = .int .i64 x6_3 ∧ Aside0 (spec_SameWords.l1 kq x6_3 a0_0 a0_1 a0_2 l0_3 l0_4 a1_0 a1_1 a1_2 l1_3 l1_4 = some r) ∧ Aside0 (kq ≤ k2) ∧ Aside0 (w'.heap[gb178]? = some (.cells #[.int .i64 a0_0, .int .i64 a0_1, .int .i64 a0_2, (.slice A0_3 l0_3.length c0_3), (.slice A0_4 l0_4.length c0_4)] 31 (0, 0))) ∧ Aside0 (w'.heap[gb179]? = some (.cells #[.int .i64 a1_0, .int .i64 a1_1, .int .i64 a1_2, (.slice A1_3 l1_3.length c1_3), (.slice A1_4 l1_4.length c1_4)] 31 (0, 0))) ∧ Aside0 (Below w.heap.size w w'))
       case atStart => exact ⟨(0), (by first | rfl | (simp; done) | (simp [*]; done)), H', ⟨Nat.le_refl _⟩, ⟨by (with_reducible repeat (first | refine blk_drewN ?_ _ | refine blk_drew ?_ | refine blk_alloc ?_ _)); exact BK178.out⟩, ⟨by (with_reducible repeat (first | refine blk_drewN ?_ _ | refine blk_drew ?_ | refine blk_alloc ?_ _)); exact BK179.out⟩, ⟨by repeat (first | (with_reducible first | exact HB.out | apply below_alloc | apply pw_below_drewN | apply below_drew1 | refine below_set ?_ GE178.out | refine below_set ?_ GE179.out) | exact HB.out)⟩⟩
       case round =>
        clear H'
        try clear c1
        try clear p1
        try clear q1
        try clear hx1
        try clear c2
        try clear p2
        try clear c3
        try clear c4
        try clear c5
        try clear p6
        try clear c7
        try clear c9
        try clear c10
        try clear c10b0
        try clear c10b1
        try clear c11
        try clear c11b0
        try clear c11b1
        try clear c11b2
        try clear c12
        try clear c18
        try clear p18
        try clear q18
        try clear hx18
        try clear c19
        try clear c26
        try clear c33
        try clear c38
        try clear c41
        try clear c42
        try clear c42b0
        try clear c43
        try clear c43b0
        try clear c44
        try clear c44b0
        try clear c45
        try clear c45b0
        try clear c46
        try clear c49
        try clear c52
        try clear hcz13_0
        try clear hcz13_1
        try clear hcz13_2
        try clear hcz13_3
        try clear hcz13_4
        try clear hcz15_0
        try clear hcz15_1
        try clear hcz15_2
        try clear hcz15_3
        try clear hcz15_4
        try clear hcz17_0
        try clear hcz17_1
        try clear hcz17_2
        try clear hcz17_3
        try clear hcz17_4
        try clear hcz18_0
        try clear hcz18_1
        try clear hcz18_2
        try clear hcz18_3
        try clear hcz18_4
        try clear hcz20_0
        try clear hcz20_1
        try clear hcz20_2
        try clear hcz20_3
        try clear hcz20_4
        try clear hcz22_0
        try clear hcz22_1
        try clear hcz22_2
        try clear hcz22_3
        try clear hcz22_4
        try clear hcz24_0
        try clear hcz24_1
        try clear hcz24_2
        try clear hcz24_3
        try clear hcz24_4
        try clear hcz25_0
        try clear hcz25_1
        try clear hcz25_2
        try clear hcz25_3
        try clear hcz25_4
        try clear hcz27_0
        try clear hcz27_1
        try clear hcz27_2
        try clear hcz27_3
        try clear hcz27_4
        try clear hcz29_0
        try clear hcz29_1
        try clear hcz29_2
        try clear hcz29_3
        try clear hcz29_4
        try clear hcz31_0
        try clear hcz31_1
        try clear hcz31_2
        try clear hcz31_3
        try clear hcz31_4
        try clear hcz32_0
        try clear hcz32_1
        try clear hcz32_2
        try clear hcz32_3
        try clear hcz32_4
        try clear hcz34_0
        try clear hcz34_1
        try clear hcz34_2
        try clear hcz34_3
        try clear hcz34_4
        try clear hcz36_0
        try clear hcz36_1
        try clear hcz36_2
        try clear hcz36_3
        try clear hcz36_4
        try clear hcz39_0
        try clear hcz39_1
        try clear hcz39_2
        try clear hcz39_3
        try clear hcz39_4
        try clear hcz47_0
        try clear hcz47_1
        try clear hcz47_2
        try clear hcz47_3
        try clear hcz47_4
        try clear hcz48_0
        try clear hcz48_1
        try clear hcz48_2
        try clear hcz48_3
        try clear hcz48_4
        try clear hcz50_0
        try clear hcz50_1
        try clear hcz50_2
        try clear hcz50_3
        try clear hcz50_4
        try clear hcz51_0
        try clear hcz51_1
        try clear hcz51_2
        try clear hcz51_3
        try clear hcz51_4
        try clear hcz53_0
        try clear hcz53_1
        try clear hcz53_2
        try clear hcz53_3
        try clear hcz53_4
        try clear hfz13_0
        try clear hfz13_1
        try clear hfz13_2
        try clear hfz13_3
        try clear hfz13_4
        try clear hfz15_0
        try clear hfz15_1
        try clear hfz15_2
        try clear hfz15_3
        try clear hfz15_4
        try clear hfz17_0
        try clear hfz17_1
        try clear hfz17_2
        try clear hfz17_3
        try clear hfz17_4
        try clear hfz18_0
        try clear hfz18_1
        try clear hfz18_2
        try clear hfz18_3
        try clear hfz18_4
        try clear hfz20_0
        try clear hfz20_1
        try clear hfz20_2
        try clear hfz20_3
        try clear hfz20_4
        try clear hfz22_0
        try clear hfz22_1
        try clear hfz22_2
        try clear hfz22_3
        try clear hfz22_4
        try clear hfz24_0
        try clear hfz24_1
        try clear hfz24_2
        try clear hfz24_3
        try clear hfz24_4
        try clear hfz25_0
        try clear hfz25_1
        try clear hfz25_2
        try clear hfz25_3
        try clear hfz25_4
        try clear hfz27_0
        try clear hfz27_1
        try clear hfz27_2
        try clear hfz27_3
        try clear hfz27_4
        try clear hfz29_0
        try clear hfz29_1
        try clear hfz29_2
        try clear hfz29_3
        try clear hfz29_4
        try clear hfz31_0
        try clear hfz31_1
        try clear hfz31_2
        try clear hfz31_3
        try clear hfz31_4
        try clear hfz32_0
        try clear hfz32_1
        try clear hfz32_2
        try clear hfz32_3
        try clear hfz32_4
        try clear hfz34_0
        try clear hfz34_1
        try clear hfz34_2
        try clear hfz34_3
        try clear hfz34_4
        try clear hfz36_0
        try clear hfz36_1
        try clear hfz36_2
        try clear hfz36_3
        try clear hfz36_4
        try clear hfz39_0
        try clear hfz39_1
        try clear hfz39_2
        try clear hfz39_3
        try clear hfz39_4
        try clear hfz47_0
        try clear hfz47_1
        try clear hfz47_2
        try clear hfz47_3
        try clear hfz47_4
        try clear hfz48_0
        try clear hfz48_1
        try clear hfz48_2
        try clear hfz48_3
        try clear hfz48_4
        try clear hfz50_0
        try clear hfz50_1
        try clear hfz50_2
        try clear hfz50_3
        try clear hfz50_4
        try clear hfz51_0
        try clear hfz51_1
        try clear hfz51_2
        try clear hfz51_3
        try clear hfz51_4
        try clear hfz53_0
        try clear hfz53_1
        try clear hfz53_2
        try clear hfz53_3
        try clear hfz53_4
        try clear hx182_0
        try clear hx182_1
        try clear hx183_0
        try clear hx183_1
        try clear p182
        try clear p183
        try clear p2
        try clear q182
        try clear q183
        obtain ⟨x6_3, rfl, HA, HK3, BK178, BK179, HB⟩ := hrel
        cases gk with
        | zero => exact absurd HA.out (by simp [spec_SameWords.l1])
        | succ k3 =>
         have H := HA.out
         clear HA
         simp only [spec_SameWords.l1] at H
         by_cases c54 : x6_3 < (l0_4.length : Int)
         ·rw [if_pos c54] at H
          have c54b0 : decide (x6_3 < (l0_4.length : Int)) = true := decide_eq_true c54
          clear c54
          by_cases c55 : 0 ≤ x6_3
          ·rw [if_pos c55] at H
           have c55b0 : decide (0 ≤ x6_3) = true := decide_eq_true c55
           clear c55
           by_cases c56 : x6_3 < (l1_4.length : Int)
           ·rw [if_pos c56] at H
            have c56b0 : decide (x6_3 < (l1_4.length : Int)) = true := decide_eq_true c56
            clear c56
            by_cases c57 : ((!(((rd_T74 l0_4 x6_3).f0.f0) == ((rd_T74 l1_4 x6_3).f0.f0)) || (!(((rd_T74 l0_4 x6_3).f0.f1) == ((rd_T74 l1_4 x6_3).f0.f1)))) || (!(((rd_T74 l0_4 x6_3).f1) == ((rd_T74 l1_4 x6_3).f1)))) = true
            ·rw [if_pos c57] at H
             have c57b0 : ((!(((rd_T74 l0_4 x6_3).f0.f0) == ((rd_T74 l1_4 x6_3).f0.f0)) || (!(((rd_T74 l0_4 x6_3).f0.f1) == ((rd_T74 l1_4 x6_3).f0.f1)))) || (!(((rd_T74 l0_4 x6_3).f1) == ((rd_T74 l1_4 x6_3).f1)))) = true := c57
             clear c57
             obtain rfl := Option.some.inj H
             have hnb58 := NB178_179.out
             have hnc58 := NB179_178.out
             have hcz59_0 := cz_ BK178 0 (.int .i64 a0_0)
             have hcz59_1 := cz_ BK178 1 (.int .i64 a0_1)
             have hcz59_2 := cz_ BK178 2 (.int .i64 a0_2)
             have hcz59_3 := cz_ BK178 3 (.slice A0_3 l0_3.length c0_3)
             have hcz59_4 := cz_ BK178 4 (.slice A0_4 l0_4.length c0_4)
             have hfz59_0 := blk_frozen BK178.out 0
             have hfz59_1 := blk_frozen BK178.out 1
             have hfz59_2 := blk_frozen BK178.out 2
             have hfz59_3 := blk_frozen BK178.out 3
             have hfz59_4 := blk_frozen BK178.out 4
             have p184 : 0 ≤ (x6_3 : Int) := of_decide_eq_true (by first | (with_reducible assumption) | assumption)
             have q184 : x6_3 < (l0_4.length : Int) := of_decide_eq_true (by first | (with_reducible assumption) | assumption)
             obtain ⟨ad184, e184, hx184_0, hx184_1, hx184_2⟩ := at_T74 HR0_4.out x6_3 p184 q184
             cases e184
             replace hx184_0 := (HB.out.cell (World.block_lt_of_cell? w _ hx184_0)).trans hx184_0
             replace hx184_1 := (HB.out.cell (World.block_lt_of_cell? w _ hx184_1)).trans hx184_1
             replace hx184_2 := (HB.out.cell (World.block_lt_of_cell? w _ hx184_2)).trans hx184_2
             replace p184 := eq_true p184
             replace q184 := eq_true q184
             have hcz60_0 := cz_ BK179 0 (.int .i64 a1_0)
             have hcz60_1 := cz_ BK179 1 (.int .i64 a1_1)
             have hcz60_2 := cz_ BK179 2 (.int .i64 a1_2)
             have hcz60_3 := cz_ BK179 3 (.slice A1_3 l1_3.length c1_3)
             have hcz60_4 := cz_ BK179 4 (.slice A1_4 l1_4.length c1_4)
             have hfz60_0 := blk_frozen BK179.out 0
             have hfz60_1 := blk_frozen BK179.out 1
             have hfz60_2 := blk_frozen BK179.out 2
             have hfz60_3 := blk_frozen BK179.out 3
             have hfz60_4 := blk_frozen BK179.out 4
             have p185 : 0 ≤ (x6_3 : Int) := of_decide_eq_true (by first | (with_reducible assumption) | assumption)
             have q185 : x6_3 < (l1_4.length : Int) := of_decide_eq_true (by first | (with_reducible assumption) | assumption)
             obtain ⟨ad185, e185, hx185_0, hx185_1, hx185_2⟩ := at_T74 HR1_4.out x6_3 p185 q185
             cases e185
             replace hx185_0 := (HB.out.cell (World.block_lt_of_cell? w _ hx185_0)).trans hx185_0
             replace hx185_1 := (HB.out.cell (World.block_lt_of_cell? w _ hx185_1)).trans hx185_1
             replace hx185_2 := (HB.out.cell (World.block_lt_of_cell? w _ hx185_2)).trans hx185_2
             replace p185 := eq_true p185
             replace q185 := eq_true q185
             go_wp2
             repeat (go_quiet (fail); try go_wp2)
             go_ret
             exact ⟨by first | rfl | (simp [errW_none, errW_some] <;> rfl) | (simp [*, errW_none, errW_some] <;> rfl), by repeat (first | (with_reducible first | exact HB.out | apply below_alloc | apply pw_below_drewN | apply below_drew1 | refine below_set ?_ GE178.out | refine below_set ?_ GE179.out) | exact HB.out)⟩
            ·rw [if_neg c57] at H
             have c57b0 : ((!(((rd_T74 l0_4 x6_3).f0.f0) == ((rd_T74 l1_4 x6_3).f0.f0)) || (!(((rd_T74 l0_4 x6_3).f0.f1) == ((rd_T74 l1_4 x6_3).f0.f1)))) || (!(((rd_T74 l0_4 x6_3).f1) == ((rd_T74 l1_4 x6_3).f1)))) = false := by simpa using c57
             clear c57
             have H' := Aside0.mk H
             clear H
             have hnb61 := NB178_179.out
             have hnc61 := NB179_178.out
             have hcz62_0 := cz_ BK178 0 (.int .i64 a0_0)
             have hcz62_1 := cz_ BK178 1 (.int .i64 a0_1)
             have hcz62_2 := cz_ BK178 2 (.int .i64 a0_2)
             have hcz62_3 := cz_ BK178 3 (.slice A0_3 l0_3.length c0_3)
             have hcz62_4 := cz_ BK178 4 (.slice A0_4 l0_4.length c0_4)
             have hfz62_0 := blk_frozen BK178.out 0
             have hfz62_1 := blk_frozen BK178.out 1
             have hfz62_2 := blk_frozen BK178.out 2
             have hfz62_3 := blk_frozen BK178.out 3
             have hfz62_4 := blk_frozen BK178.out 4
             have p184 : 0 ≤ (x6_3 : Int) := of_decide_eq_true (by first | (with_reducible assumption) | assumption)
             have q184 : x6_3 < (l0_4.length : Int) := of_decide_eq_true (by first | (with_reducible assumption) | assumption)
             obtain ⟨ad184, e184, hx184_0, hx184_1, hx184_2⟩ := at_T74 HR0_4.out x6_3 p184 q184
             cases e184
             replace hx184_0 := (HB.out.cell (World.block_lt_of_cell? w _ hx184_0)).trans hx184_0
             replace hx184_1 := (HB.out.cell (World.block_lt_of_cell? w _ hx184_1)).trans hx184_1
             replace hx184_2 := (HB.out.cell (World.block_lt_of_cell? w _ hx184_2)).trans hx184_2
             replace p184 := eq_true p184
             replace q184 := eq_true q184
             have hcz63_0 := cz_ BK179 0 (.int .i64 a1_0)
             have hcz63_1 := cz_ BK179 1 (.int .i64 a1_1)
             have hcz63_2 := cz_ BK179 2 (.int .i64 a1_2)
             have hcz63_3 := cz_ BK179 3 (.slice A1_3 l1_3.length c1_3)
             have hcz63_4 := cz_ BK179 4 (.slice A1_4 l1_4.length c1_4)
             have hfz63_0 := blk_frozen BK179.out 0
             have hfz63_1 := blk_frozen BK179.out 1
             have hfz63_2 := blk_frozen BK179.out 2
             have hfz63_3 := blk_frozen BK179.out 3
             have hfz63_4 := blk_frozen BK179.out 4
             have p185 : 0 ≤ (x6_3 : Int) := of_decide_eq_true (by first | (with_reducible assumption) | assumption)
             have q185 : x6_3 < (l1_4.length : Int) := of_decide_eq_true (by first | (with_reducible assumption) | assumption)
             obtain ⟨ad185, e185, hx185_0, hx185_1, hx185_2⟩ := at_T74 HR1_4.out x6_3 p185 q185
             cases e185
             replace hx185_0 := (HB.out.cell (World.block_lt_of_cell? w _ hx185_0)).trans hx185_0
             replace hx185_1 := (HB.out.cell (World.block_lt_of_cell? w _ hx185_1)).trans hx185_1
             replace hx185_2 := (HB.out.cell (World.block_lt_of_cell? w _ hx185_2)).trans hx185_2
             replace p185 := eq_true p185
             replace q185 := eq_true q185
             go_wp2
             repeat (go_quiet (fail); try go_wp2)
             go_roundg k3
             case measure => have := HJ2.out; have := HK2.out; have := HK3.out; omega
             case rel => exact ⟨(wrap64 (x6_3 + 1)), (by first | rfl | (simp; done) | (simp [*]; done)), H', ⟨by have := HJ2.out; have := HK2.out; have := HK3.out; omega⟩, ⟨by (with_reducible repeat (first | refine blk_drewN ?_ _ | refine blk_drew ?_ | refine blk_alloc ?_ _)); exact BK178.out⟩, ⟨by (with_reducible repeat (first | refine blk_drewN ?_ _ | refine blk_drew ?_ | refine blk_alloc ?_ _)); exact BK179.out⟩, ⟨by repeat (first | (with_reducible first | exact HB.out | apply below_alloc | apply pw_below_drewN | apply below_drew1 | refine below_set ?_ GE178.out | refine below_set ?_ GE179.out) | exact HB.out)⟩⟩
           ·rw [if_neg c56] at H
            exact absurd H (by simp)
          ·rw [if_neg c55] at H
           exact absurd H (by simp)
         ·rw [if_neg c54] at H
          have c54b0 : decide (x6_3 < (l0_4.length : Int)) = false := decide_eq_false c54
          clear c54
          obtain rfl := Option.some.inj H
          have hnb64 := NB178_179.out
          have hnc64 := NB179_178.out
          have hcz65_0 := cz_ BK178 0 (.int .i64 a0_0)
          have hcz65_1 := cz_ BK178 1 (.int .i64 a0_1)
          have hcz65_2 := cz_ BK178 2 (.int .i64 a0_2)
          have hcz65_3 := cz_ BK178 3 (.slice A0_3 l0_3.length c0_3)
          have hcz65_4 := cz_ BK178 4 (.slice A0_4 l0_4.length c0_4)
          have hfz65_0 := blk_frozen BK178.out 0
          have hfz65_1 := blk_frozen BK178.out 1
          have hfz65_2 := blk_frozen BK178.out 2
          have hfz65_3 := blk_frozen BK178.out 3
          have hfz65_4 := blk_frozen BK178.out 4
          go_wp2
          repeat (go_quiet (fail); try go_wp2)
          go_ret
          exact ⟨by first | rfl | (simp [errW_none, errW_some] <;> rfl) | (simp [*, errW_none, errW_some] <;> rfl), by repeat (first | (with_reducible first | exact HB.out | apply below_alloc | apply pw_below_drewN | apply below_drew1 | refine below_set ?_ GE178.out | refine below_set ?_ GE179.out) | exact HB.out)⟩

end Go.Proofs.Ytiikcfaodkiakaa.QFnExactSameWords
