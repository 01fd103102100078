/- Contracts of functions that the law reaches: what each call returns and what it leaves in memory. Made by this session over the print of the kit. -/
import Derived.Test.YtflfbaofgfandaaQFnExactCoverx0
import Derived.Test.YtflfbaofgfandaaQFnExactCoverx1
import Derived.Test.YtflfbaofgfandaaQFnExactCoverx2
import Derived.Test.YtflfbaofgfandaaQFnExactCoverx3
namespace Go.Proofs.Ytflfbaofgfandaa.QFnExactCover
open Go.RowKit Go.Proofs.YtflfbaofgfandaaC.PrintWords Go.Proofs.YtflfbaofgfandaaC.PrintLast Go.Proofs.YtflfbaofgfandaaC.PrintMore
attribute [local go_sem] max2_int min2_int max_two min_two max_three min_three max_four min_four   -- for this text's walks alone
set_option linter.unusedVariables false
set_option linter.unusedSimpArgs false

/-! ### laws_FnExactCover: function 6 -/
mutual
def laws_FnExactCover.j0 : Nat → Int → Int → List (S34) → Bool → List (S34) → Bool → Option (Bool)
 | 0, _, _, _, _, _, _ => none
 | k + 1, x0, x1, x5, x6, x7, x33 => if x33 = true then (some false) else ((laws_markPrefixS.f k x7 1).bind fun bt166 => ((laws_heldPrefixS.f k bt166.2 1).bind fun t168 => (if t168 < 0 then (some false) else (if t168 = bt166.1 then ((impl_Cover.f k x0 x1).bind fun bt169 => ((laws_eqPrefixS.f k bt169.1 x5).bind fun t173 => (if t173 = true then (laws_FnExactCover.j1 k bt166.2 bt166.1 (bt169.2 != x6)) else (laws_FnExactCover.j1 k bt166.2 bt166.1 true)))) else (some false)))))
def laws_FnExactCover.j1 : Nat → List (S34) → Int → Bool → Option (Bool)
 | 0, _, _, _ => none
 | k + 1, x7, x9, x59 => if x59 = true then (some false) else ((laws_heldPrefixS.f k x7 1).bind fun t174 => (if t174 < 0 then (some false) else (if t174 = x9 then (some true) else (some false))))
end
def laws_FnExactCover.f (k : Nat) (a0 : Int) (a1 : Int) : Option (Bool) := (spec_Cover.f k a0 a1).bind fun bt157 => ((impl_Cover.f k a0 a1).bind fun bt161 => ((laws_eqPrefixS.f k bt161.1 bt157.1).bind fun t165 => (if t165 = true then (laws_FnExactCover.j0 k a0 a1 bt157.1 bt157.2 bt161.1 (bt161.2 != bt157.2)) else (laws_FnExactCover.j0 k a0 a1 bt157.1 bt157.2 bt161.1 true))))
theorem laws_FnExactCover.mono_l : ∀ k, (∀ y0 y1 y2 y3 y4 y5, LeO (laws_FnExactCover.j0 k y0 y1 y2 y3 y4 y5) (laws_FnExactCover.j0 (k + 1) y0 y1 y2 y3 y4 y5)) ∧ (∀ y0 y1 y2, LeO (laws_FnExactCover.j1 k y0 y1 y2) (laws_FnExactCover.j1 (k + 1) y0 y1 y2))
 | 0 => ⟨fun _ _ _ _ _ _ r h => by simp [laws_FnExactCover.j0] at h, fun _ _ _ r h => by simp [laws_FnExactCover.j1] at h⟩
 | k + 1 => by
  obtain ⟨ih0, ih1⟩ := laws_FnExactCover.mono_l k
  refine ⟨?_, ?_⟩
  ·intro y0 y1 y2 y3 y4 y5
   unfold laws_FnExactCover.j0
   repeat' first
   | (with_reducible exact ih0 _ _ _ _ _ _)
   | (with_reducible exact ih1 _ _ _)
   | (with_reducible exact impl_Cover.mono _ _ _)
   | (with_reducible exact laws_eqPrefixS.mono _ _ _)
   | (with_reducible exact laws_heldPrefixS.mono _ _ _)
   | (with_reducible exact laws_markPrefixS.mono _ _ _)
   | (with_reducible exact spec_Cover.mono _ _ _)
   | (with_reducible exact LeO.refl _)
   | (with_reducible exact LeO.none _)
   | (with_reducible refine LeO.ite ?_ ?_)
   | (with_reducible refine LeO.bind ?_ (fun _ => ?_))
   | exact ih0 _ _ _ _ _ _
   | exact ih1 _ _ _
   | exact impl_Cover.mono _ _ _
   | exact laws_eqPrefixS.mono _ _ _
   | exact laws_heldPrefixS.mono _ _ _
   | exact laws_markPrefixS.mono _ _ _
   | exact spec_Cover.mono _ _ _
   | exact LeO.none _
   | refine LeO.ite ?_ ?_
   | refine LeO.bind ?_ (fun _ => ?_)
  ·intro y0 y1 y2
   unfold laws_FnExactCover.j1
   repeat' first
   | (with_reducible exact ih0 _ _ _ _ _ _)
   | (with_reducible exact ih1 _ _ _)
   | (with_reducible exact impl_Cover.mono _ _ _)
   | (with_reducible exact laws_eqPrefixS.mono _ _ _)
   | (with_reducible exact laws_heldPrefixS.mono _ _ _)
   | (with_reducible exact laws_markPrefixS.mono _ _ _)
   | (with_reducible exact spec_Cover.mono _ _ _)
   | (with_reducible exact LeO.refl _)
   | (with_reducible exact LeO.none _)
   | (with_reducible refine LeO.ite ?_ ?_)
   | (with_reducible refine LeO.bind ?_ (fun _ => ?_))
   | exact ih0 _ _ _ _ _ _
   | exact ih1 _ _ _
   | exact impl_Cover.mono _ _ _
   | exact laws_eqPrefixS.mono _ _ _
   | exact laws_heldPrefixS.mono _ _ _
   | exact laws_markPrefixS.mono _ _ _
   | exact spec_Cover.mono _ _ _
   | exact LeO.none _
   | refine LeO.ite ?_ ?_
   | refine LeO.bind ?_ (fun _ => ?_)
theorem laws_FnExactCover.mono : ∀ a0 a1 k, LeO (laws_FnExactCover.f k a0 a1) (laws_FnExactCover.f (k + 1) a0 a1) := by
 intro a0 a1 k
 obtain ⟨ih0, ih1⟩ := laws_FnExactCover.mono_l k
 unfold laws_FnExactCover.f
 repeat' first
   | (with_reducible exact ih0 _ _ _ _ _ _)
   | (with_reducible exact ih1 _ _ _)
   | (with_reducible exact impl_Cover.mono _ _ _)
   | (with_reducible exact laws_eqPrefixS.mono _ _ _)
   | (with_reducible exact laws_heldPrefixS.mono _ _ _)
   | (with_reducible exact laws_markPrefixS.mono _ _ _)
   | (with_reducible exact spec_Cover.mono _ _ _)
   | (with_reducible exact LeO.refl _)
   | (with_reducible exact LeO.none _)
   | (with_reducible refine LeO.ite ?_ ?_)
   | (with_reducible refine LeO.bind ?_ (fun _ => ?_))
   | exact ih0 _ _ _ _ _ _
   | exact ih1 _ _ _
   | exact impl_Cover.mono _ _ _
   | exact laws_eqPrefixS.mono _ _ _
   | exact laws_heldPrefixS.mono _ _ _
   | exact laws_markPrefixS.mono _ _ _
   | exact spec_Cover.mono _ _ _
   | exact LeO.none _
   | refine LeO.ite ?_ ?_
   | refine LeO.bind ?_ (fun _ => ?_)
set_option maxHeartbeats 8000000 in
set_option maxRecDepth 100000 in
theorem laws_FnExactCover.calls (k : Nat) (a0 : Int) (a1 : Int) (r : Bool) (w : World) (h : laws_FnExactCover.f k a0 a1 = some r) :
  Calls Try.prog 6 #[.int .i64 a0, .int .i64 a1] w fun e w' => e = .returned (.bool r) ∧ Below w.heap.size w w' := by
 have HB := Aside0.mk (Below.refl w.heap.size w)
 have H : ((spec_Cover.f k a0 a1).bind fun bt157 => ((impl_Cover.f k a0 a1).bind fun bt161 => ((laws_eqPrefixS.f k bt161.1 bt157.1).bind fun t165 => (if t165 = true then (laws_FnExactCover.j0 k a0 a1 bt157.1 bt157.2 bt161.1 (bt161.2 != bt157.2)) else (laws_FnExactCover.j0 k a0 a1 bt157.1 bt157.2 bt161.1 true))))) = some r := h
 clear h
 replace H := Option.bind_eq_some_iff.mp H
 obtain ⟨⟨t157, t158⟩, A30, H⟩ := H
 have A3 := Aside0.mk A30
 clear A30
 replace H := Option.bind_eq_some_iff.mp H
 obtain ⟨⟨t161, t162⟩, A40, H⟩ := H
 have A4 := Aside0.mk A40
 clear A40
 have HC5 := Aside0.mk H
 clear H
 go_enter Try.func6, Try.ntmps6
 go_upto_region 3 with (first | ((with_reducible refine gate_callee (f := 20) rfl ?_); refine gl_ (some 16) Try.func20 #[.int .i64 a0, .int .i64 a1] ?_; (with_reducible refine (spec_Cover.calls k a0 a1 t157 t158 _ A3.out).mono ?_); rintro e w6 ⟨v159, rfl, ho0, hb⟩; refine ⟨_, rfl, ?_⟩; have HO160 := Aside0.mk (Kd.R_lower ho0 (bz_ HB)); replace HB := Aside0.mk (bt_ HB hb); (try clear hb); (try clear hb2); (try clear hk); (try clear hi); (try clear ho0)) | ((with_reducible refine gate_callee (f := 21) rfl ?_); refine gl_ (some 22) Try.func21 #[.int .i64 a0, .int .i64 a1] ?_; (with_reducible refine (impl_Cover.calls k a0 a1 t161 t162 _ A4.out).mono ?_); rintro e w7 ⟨v163, rfl, ho0, hb⟩; refine ⟨_, rfl, ?_⟩; have HO164 := Aside0.mk (Kd.R_lower (Kd.R_new' ho0 (Kd.R_lt (hd_ HO160))) (bz_ HB)); replace HO160 := Aside0.mk (Kd.R_elder' (hd_ HO160) (Kd.R_base ho0) hb); replace HB := Aside0.mk (bt_ HB hb); (try clear hb); (try clear hb2); (try clear hk); (try clear hi); (try clear ho0)))
 (try simp only [Act.put, List.setIfInBounds_toArray, List.set_cons_zero, List.set_cons_succ])
 go_cut [33] (fun v33 wc => ∃ (kq : Nat) (x33_4 : Bool), v33 = .bool x33_4 ∧ Aside0 (laws_FnExactCover.j0 kq a0 a1 t157 t158 t161 x33_4 = some r) ∧ Aside0 (kq ≤ k) ∧ Aside0 (Kd.R k34 34 wc w.heap.size (fun k_ => some k_ ≠ (v163 : Value).ownBlock) v159 t157) ∧ Aside0 (Kd.R k34 34 wc w.heap.size (fun k_ => some k_ ≠ (v159 : Value).ownBlock) v163 t161) ∧ Aside0 (Below w.heap.size w wc))
 case first =>
  have H := HC5.out
  clear HC5
  replace H := Option.bind_eq_some_iff.mp H
  obtain ⟨t165, A80, H⟩ := H
  have A8 := Aside0.mk A80
  clear A80
  by_cases c9 : t165 = true
  ·subst c9
   rw [if_pos rfl] at H
   have H' := Aside0.mk H
   clear H
   obtain ⟨Ao10, co10, eo10⟩ := Kd.R_slice HO164.out
   subst eo10
   obtain ⟨Ao11, co11, eo11⟩ := Kd.R_slice HO160.out
   subst eo11
   go_wp2_with (first | ((with_reducible refine gate_callee (f := 22) rfl ?_); refine gl_ (some 27) Try.func22 #[.slice Ao10 t161.length co10, .slice Ao11 t157.length co11] ?_; (with_reducible refine (laws_eqPrefixS.calls k _ _ t161 _ _ t157 true _ ?side1 ?side2 ?side3 ?side4 A8.out).mono ?_); (case side1 => exact rc_ HO164); (case side2 => exact (Kd.R_reads' HO164.out).2.1); (case side3 => exact rc_ HO160); (case side4 => exact (Kd.R_reads' HO160.out).2.1); rintro e w12 ⟨rfl, hb⟩; refine ⟨_, rfl, ?_⟩; replace HO160 := rb_ HO160 hb; replace HO164 := rb_ HO164 hb; replace HB := Aside0.mk (bt_ HB hb); (try clear hb); (try clear hb2); (try clear hk); (try clear hi)))
   go_meet
   case rel => exact ⟨_, ((t162 != t158)), (by first | rfl | (simp; done) | (simp [*]; done)), H', ⟨by first | omega | exact Nat.le_refl _⟩, ⟨by (with_reducible repeat (first | apply Kd.R_alloc | apply Kd.R_drewN | apply Kd.R_drew)); exact Kd.R_mono HO160.out (fun _ hk => hk.2)⟩, ⟨by (with_reducible repeat (first | apply Kd.R_alloc | apply Kd.R_drewN | apply Kd.R_drew)); exact Kd.R_mono HO164.out (fun _ hk => hk.2)⟩, ⟨by repeat (first | (with_reducible first | exact HB.out | apply below_alloc | apply pw_below_drewN | apply below_drew1) | exact HB.out)⟩⟩
  replace c9 := Bool.eq_false_iff.mpr c9
  subst c9
  rw [if_neg (show ¬ (false = true) by decide)] at H
  have H' := Aside0.mk H
  clear H
  obtain ⟨Ao13, co13, eo13⟩ := Kd.R_slice HO164.out
  subst eo13
  obtain ⟨Ao14, co14, eo14⟩ := Kd.R_slice HO160.out
  subst eo14
  go_wp2_with (first | ((with_reducible refine gate_callee (f := 22) rfl ?_); refine gl_ (some 27) Try.func22 #[.slice Ao13 t161.length co13, .slice Ao14 t157.length co14] ?_; (with_reducible refine (laws_eqPrefixS.calls k _ _ t161 _ _ t157 false _ ?side1 ?side2 ?side3 ?side4 A8.out).mono ?_); (case side1 => exact rc_ HO164); (case side2 => exact (Kd.R_reads' HO164.out).2.1); (case side3 => exact rc_ HO160); (case side4 => exact (Kd.R_reads' HO160.out).2.1); rintro e w15 ⟨rfl, hb⟩; refine ⟨_, rfl, ?_⟩; replace HO160 := rb_ HO160 hb; replace HO164 := rb_ HO164 hb; replace HB := Aside0.mk (bt_ HB hb); (try clear hb); (try clear hb2); (try clear hk); (try clear hi)))
  go_meet
  case rel => exact ⟨_, (true), (by first | rfl | (simp; done) | (simp [*]; done)), H', ⟨by first | omega | exact Nat.le_refl _⟩, ⟨by (with_reducible repeat (first | apply Kd.R_alloc | apply Kd.R_drewN | apply Kd.R_drew)); exact Kd.R_mono HO160.out (fun _ hk => hk.2)⟩, ⟨by (with_reducible repeat (first | apply Kd.R_alloc | apply Kd.R_drewN | apply Kd.R_drew)); exact Kd.R_mono HO164.out (fun _ hk => hk.2)⟩, ⟨by repeat (first | (with_reducible first | exact HB.out | apply below_alloc | apply pw_below_drewN | apply below_drew1) | exact HB.out)⟩⟩
 case rest =>
  clear HC5
  try clear c2
  try clear p2
  try clear c6
  try clear c9
  obtain ⟨kq, x33_4, rfl, HA, HJ4, HO_5, HO_7, HB⟩ := hcut
  cases kq with
  | zero => exact absurd HA.out (by simp [laws_FnExactCover.j0])
  | succ kj4 =>
   have H := HA.out
   clear HA
   simp only [laws_FnExactCover.j0] at H
   by_cases c16 : x33_4 = true
   ·subst c16
    rw [if_pos rfl] at H
    obtain rfl := Option.some.inj H
    go_wp2
    go_ret
    exact ⟨by first | rfl | (simp [errW_none, errW_some] <;> rfl) | (simp [*, errW_none, errW_some] <;> rfl), by repeat (first | (with_reducible first | exact HB.out | apply below_alloc | apply pw_below_drewN | apply below_drew1) | exact HB.out)⟩
   replace c16 := Bool.eq_false_iff.mpr c16
   subst c16
   rw [if_neg (show ¬ (false = true) by decide)] at H
   replace H := Option.bind_eq_some_iff.mp H
   obtain ⟨⟨t166, t167⟩, A170, H⟩ := H
   have A17 := Aside0.mk A170
   clear A170
   replace H := Option.bind_eq_some_iff.mp H
   obtain ⟨t168, A180, H⟩ := H
   have A18 := Aside0.mk A180
   clear A180
   by_cases c19 : t168 < 0
   ·rw [if_pos c19] at H
    have c19b0 : decide (t168 < 0) = true := decide_eq_true c19
    clear c19
    obtain rfl := Option.some.inj H
    obtain ⟨Ao20, co20, eo20⟩ := Kd.R_slice HO_7.out
    subst eo20
    go_wp2_with (first | ((with_reducible refine gate_callee (f := 23) rfl ?_); refine gl_ (some 36) Try.func23 #[.slice Ao20 t161.length co20, .int .i64 1] ?_; (with_reducible refine (laws_markPrefixS.calls kj4 (fun k_ => some k_ = (.slice Ao20 t161.length co20 : Value).ownBlock) (.slice Ao20 t161.length co20) t161 1 t166 t167 w _ ?side1 ?side2 A17.out).mono ?_); (case side1 => exact by_ HB); (case side2 => exact Kd.R_tight rfl HO_7.out); rintro e w21 ⟨rfl, hy0, hb, hkp⟩; refine ⟨_, rfl, ?_⟩; replace HO_5 := kp_ (fun k_ => some k_ ≠ (.slice Ao20 t161.length co20 : Value).ownBlock) (HO_5.out) hkp; replace HO_7 := Aside0.mk (Kd.R_reok rfl hy0 (fun k_ e_ => HO_7.out.1 k_ e_)); replace HB := Aside0.mk (hb); (try clear hb); (try clear hkp); (try clear hy0)) | ((with_reducible refine gate_callee (f := 24) rfl ?_); refine goesL_ (some 39) rfl rfl Try.func24 (by kernel_rfl) rfl #[.slice Ao20 t167.length co20, .int .i64 1] rfl (by (try simp only [List.map_toArray, List.map_cons, List.map_nil]); first | done | (rw [show t167.length = t161.length from (Kd.R_reads' HO_7.out).1.symm] <;> rfl) | rfl | (simp only [List.length_drop, List.length_take]; rfl)) ?_; (with_reducible refine (laws_heldPrefixS.calls kj4 _ _ t167 1 t168 _ ?side1 ?side2 A18.out).mono ?_); (case side1 => exact rc_ HO_7); (case side2 => rw [show t167.length = t161.length from (Kd.R_reads' HO_7.out).1.symm]; exact (Kd.R_reads' HO_7.out).2.1); rintro e w' ⟨rfl, ⟨nd, rfl⟩⟩; refine ⟨_, rfl, ?_⟩))
    go_ret
    exact ⟨by first | rfl | (simp [errW_none, errW_some] <;> rfl) | (simp [*, errW_none, errW_some] <;> rfl), by repeat (first | (with_reducible first | exact HB.out | apply below_alloc | apply pw_below_drewN | apply below_drew1) | exact HB.out)⟩
   rw [if_neg c19] at H
   have c19b0 : decide (t168 < 0) = false := decide_eq_false c19
   clear c19
   by_cases c22 : t168 = t166
   rotate_left
   ·rw [if_neg c22] at H
    have c22b0 : (t168 == t166) = false := beq_eq_false_iff_ne.mpr c22
    have c22b1 : (t168 != t166) = true := bne_iff_ne.mpr c22
    obtain rfl := Option.some.inj H
    obtain ⟨Ao40, co40, eo40⟩ := Kd.R_slice HO_7.out
    subst eo40
    go_wp2_with (first | ((with_reducible refine gate_callee (f := 23) rfl ?_); refine gl_ (some 36) Try.func23 #[.slice Ao40 t161.length co40, .int .i64 1] ?_; (with_reducible refine (laws_markPrefixS.calls kj4 (fun k_ => some k_ = (.slice Ao40 t161.length co40 : Value).ownBlock) (.slice Ao40 t161.length co40) t161 1 t166 t167 w _ ?side1 ?side2 A17.out).mono ?_); (case side1 => exact by_ HB); (case side2 => exact Kd.R_tight rfl HO_7.out); rintro e w41 ⟨rfl, hy0, hb, hkp⟩; refine ⟨_, rfl, ?_⟩; replace HO_5 := kp_ (fun k_ => some k_ ≠ (.slice Ao40 t161.length co40 : Value).ownBlock) (HO_5.out) hkp; replace HO_7 := Aside0.mk (Kd.R_reok rfl hy0 (fun k_ e_ => HO_7.out.1 k_ e_)); replace HB := Aside0.mk (hb); (try clear hb); (try clear hkp); (try clear hy0)) | ((with_reducible refine gate_callee (f := 24) rfl ?_); refine goesL_ (some 39) rfl rfl Try.func24 (by kernel_rfl) rfl #[.slice Ao40 t167.length co40, .int .i64 1] rfl (by (try simp only [List.map_toArray, List.map_cons, List.map_nil]); first | done | (rw [show t167.length = t161.length from (Kd.R_reads' HO_7.out).1.symm] <;> rfl) | rfl | (simp only [List.length_drop, List.length_take]; rfl)) ?_; (with_reducible refine (laws_heldPrefixS.calls kj4 _ _ t167 1 t168 _ ?side1 ?side2 A18.out).mono ?_); (case side1 => exact rc_ HO_7); (case side2 => rw [show t167.length = t161.length from (Kd.R_reads' HO_7.out).1.symm]; exact (Kd.R_reads' HO_7.out).2.1); rintro e w' ⟨rfl, ⟨nd, rfl⟩⟩; refine ⟨_, rfl, ?_⟩))
    go_ret
    exact ⟨by first | rfl | (simp [errW_none, errW_some] <;> rfl) | (simp [*, errW_none, errW_some] <;> rfl), by repeat (first | (with_reducible first | exact HB.out | apply below_alloc | apply pw_below_drewN | apply below_drew1) | exact HB.out)⟩
   rw [if_pos c22] at H
   have c22b0 : (t168 == t166) = true := beq_iff_eq.mpr c22
   have c22b1 : (t168 != t166) = false := bne_eq_false_iff_eq.mpr c22
   clear c22
   replace H := Option.bind_eq_some_iff.mp H
   obtain ⟨⟨t169, t170⟩, A230, H⟩ := H
   have A23 := Aside0.mk A230
   clear A230
   have HC24 := Aside0.mk H
   clear H
   obtain ⟨Ao25, co25, eo25⟩ := Kd.R_slice HO_7.out
   subst eo25
   go_upto_region 14 with (first | ((with_reducible refine gate_callee (f := 23) rfl ?_); refine gl_ (some 36) Try.func23 #[.slice Ao25 t161.length co25, .int .i64 1] ?_; (with_reducible refine (laws_markPrefixS.calls kj4 (fun k_ => some k_ = (.slice Ao25 t161.length co25 : Value).ownBlock) (.slice Ao25 t161.length co25) t161 1 t166 t167 w _ ?side1 ?side2 A17.out).mono ?_); (case side1 => exact by_ HB); (case side2 => exact Kd.R_tight rfl HO_7.out); rintro e w26 ⟨rfl, hy0, hb, hkp⟩; refine ⟨_, rfl, ?_⟩; replace HO_5 := kp_ (fun k_ => some k_ ≠ (.slice Ao25 t161.length co25 : Value).ownBlock) (HO_5.out) hkp; replace HO_7 := Aside0.mk (Kd.R_reok rfl hy0 (fun k_ e_ => HO_7.out.1 k_ e_)); replace HB := Aside0.mk (hb); (try clear hb); (try clear hkp); (try clear hy0)) | ((with_reducible refine gate_callee (f := 24) rfl ?_); refine goesL_ (some 39) rfl rfl Try.func24 (by kernel_rfl) rfl #[.slice Ao25 t167.length co25, .int .i64 1] rfl (by (try simp only [List.map_toArray, List.map_cons, List.map_nil]); first | done | (rw [show t167.length = t161.length from (Kd.R_reads' HO_7.out).1.symm] <;> rfl) | rfl | (simp only [List.length_drop, List.length_take]; rfl)) ?_; (with_reducible refine (laws_heldPrefixS.calls kj4 _ _ t167 1 t168 _ ?side1 ?side2 A18.out).mono ?_); (case side1 => exact rc_ HO_7); (case side2 => rw [show t167.length = t161.length from (Kd.R_reads' HO_7.out).1.symm]; exact (Kd.R_reads' HO_7.out).2.1); rintro e w' ⟨rfl, ⟨nd, rfl⟩⟩; refine ⟨_, rfl, ?_⟩) | ((with_reducible refine gate_callee (f := 21) rfl ?_); refine gl_ (some 48) Try.func21 #[.int .i64 a0, .int .i64 a1] ?_; (with_reducible refine (impl_Cover.calls kj4 a0 a1 t169 t170 _ A23.out).mono ?_); rintro e w27 ⟨v171, rfl, ho0, hb⟩; refine ⟨_, rfl, ?_⟩; have HO172 := Aside0.mk (Kd.R_lower (Kd.R_new' (Kd.R_new' ho0 (Kd.R_lt (hd_ HO_5))) (Kd.R_lt (hd_ HO_7))) (bz_ HB)); replace HO_5 := Aside0.mk (Kd.R_elder' (hd_ HO_5) (Kd.R_base ho0) hb); replace HO_7 := Aside0.mk (Kd.R_elder' (hd_ HO_7) (Kd.R_base ho0) hb); replace HB := Aside0.mk (bt_ HB hb); (try clear hb); (try clear hb2); (try clear hk); (try clear hi); (try clear ho0)))
   (try simp only [Act.put, List.setIfInBounds_toArray, List.set_cons_zero, List.set_cons_succ])
   go_cut [59] (fun v59 wc => ∃ (kq : Nat) (x59_23 : Bool), v59 = .bool x59_23 ∧ Aside0 (laws_FnExactCover.j1 kq t167 t166 x59_23 = some r) ∧ Aside0 (kq ≤ kj4) ∧ Aside0 (Kd.R k34 34 wc w.heap.size (fun _ => True) (.slice Ao25 t161.length co25) t167) ∧ Aside0 (Below w.heap.size w wc))
   case first =>
    have H := HC24.out
    clear HC24
    replace H := Option.bind_eq_some_iff.mp H
    obtain ⟨t173, A280, H⟩ := H
    have A28 := Aside0.mk A280
    clear A280
    by_cases c29 : t173 = true
    ·subst c29
     rw [if_pos rfl] at H
     have H' := Aside0.mk H
     clear H
     obtain ⟨Ao30, co30, eo30⟩ := Kd.R_slice HO172.out
     subst eo30
     obtain ⟨Ao31, co31, eo31⟩ := Kd.R_slice HO_5.out
     subst eo31
     go_wp2_with (first | ((with_reducible refine gate_callee (f := 22) rfl ?_); refine gl_ (some 53) Try.func22 #[.slice Ao30 t169.length co30, .slice Ao31 t157.length co31] ?_; (with_reducible refine (laws_eqPrefixS.calls kj4 _ _ t169 _ _ t157 true _ ?side1 ?side2 ?side3 ?side4 A28.out).mono ?_); (case side1 => exact rc_ HO172); (case side2 => exact (Kd.R_reads' HO172.out).2.1); (case side3 => exact rc_ HO_5); (case side4 => exact (Kd.R_reads' HO_5.out).2.1); rintro e w32 ⟨rfl, hb⟩; refine ⟨_, rfl, ?_⟩; replace HO_5 := rb_ HO_5 hb; replace HO_7 := rb_ HO_7 hb; replace HO172 := rb_ HO172 hb; replace HB := Aside0.mk (bt_ HB hb); (try clear hb); (try clear hb2); (try clear hk); (try clear hi)))
     go_meet
     case rel => exact ⟨_, ((t170 != t158)), (by first | rfl | (simp; done) | (simp [*]; done)), H', ⟨by have := HJ4.out; first | omega | exact Nat.le_refl _⟩, ⟨by (with_reducible repeat (first | apply Kd.R_alloc | apply Kd.R_drewN | apply Kd.R_drew)); exact Kd.R_mono HO_7.out (fun _ hk => trivial)⟩, ⟨by repeat (first | (with_reducible first | exact HB.out | apply below_alloc | apply pw_below_drewN | apply below_drew1) | exact HB.out)⟩⟩
    replace c29 := Bool.eq_false_iff.mpr c29
    subst c29
    rw [if_neg (show ¬ (false = true) by decide)] at H
    have H' := Aside0.mk H
    clear H
    obtain ⟨Ao33, co33, eo33⟩ := Kd.R_slice HO172.out
    subst eo33
    obtain ⟨Ao34, co34, eo34⟩ := Kd.R_slice HO_5.out
    subst eo34
    go_wp2_with (first | ((with_reducible refine gate_callee (f := 22) rfl ?_); refine gl_ (some 53) Try.func22 #[.slice Ao33 t169.length co33, .slice Ao34 t157.length co34] ?_; (with_reducible refine (laws_eqPrefixS.calls kj4 _ _ t169 _ _ t157 false _ ?side1 ?side2 ?side3 ?side4 A28.out).mono ?_); (case side1 => exact rc_ HO172); (case side2 => exact (Kd.R_reads' HO172.out).2.1); (case side3 => exact rc_ HO_5); (case side4 => exact (Kd.R_reads' HO_5.out).2.1); rintro e w35 ⟨rfl, hb⟩; refine ⟨_, rfl, ?_⟩; replace HO_5 := rb_ HO_5 hb; replace HO_7 := rb_ HO_7 hb; replace HO172 := rb_ HO172 hb; replace HB := Aside0.mk (bt_ HB hb); (try clear hb); (try clear hb2); (try clear hk); (try clear hi)))
    go_meet
    case rel => exact ⟨_, (true), (by first | rfl | (simp; done) | (simp [*]; done)), H', ⟨by have := HJ4.out; first | omega | exact Nat.le_refl _⟩, ⟨by (with_reducible repeat (first | apply Kd.R_alloc | apply Kd.R_drewN | apply Kd.R_drew)); exact Kd.R_mono HO_7.out (fun _ hk => trivial)⟩, ⟨by repeat (first | (with_reducible first | exact HB.out | apply below_alloc | apply pw_below_drewN | apply below_drew1) | exact HB.out)⟩⟩
   case rest =>
    clear HC24
    try clear c1
    try clear c2
    try clear p2
    try clear c6
    try clear c9
    try clear c16
    try clear c19
    try clear c19b0
    try clear c20
    try clear c21
    try clear c22
    try clear c22b0
    try clear c22b1
    try clear c23
    try clear c24
    try clear c29
    try clear p2
    obtain ⟨kq, x59_23, rfl, HA, HJ23, HO_7, HB⟩ := hcut
    have hl7_23 := (Kd.R_reads' HO_7.out).1
    rw [hl7_23] at HO_7
    (try simp only [hl7_23])
    cases kq with
    | zero => exact absurd HA.out (by simp [laws_FnExactCover.j1])
    | succ kj23 =>
     have H := HA.out
     clear HA
     simp only [laws_FnExactCover.j1] at H
     by_cases c36 : x59_23 = true
     ·subst c36
      rw [if_pos rfl] at H
      obtain rfl := Option.some.inj H
      go_wp2
      go_ret
      exact ⟨by first | rfl | (simp [errW_none, errW_some] <;> rfl) | (simp [*, errW_none, errW_some] <;> rfl), by repeat (first | (with_reducible first | exact HB.out | apply below_alloc | apply pw_below_drewN | apply below_drew1) | exact HB.out)⟩
     replace c36 := Bool.eq_false_iff.mpr c36
     subst c36
     rw [if_neg (show ¬ (false = true) by decide)] at H
     replace H := Option.bind_eq_some_iff.mp H
     obtain ⟨t174, A370, H⟩ := H
     have A37 := Aside0.mk A370
     clear A370
     by_cases c38 : t174 < 0
     ·rw [if_pos c38] at H
      have c38b0 : decide (t174 < 0) = true := decide_eq_true c38
      clear c38
      obtain rfl := Option.some.inj H
      go_wp2_with (first | ((with_reducible refine gate_callee (f := 24) rfl ?_); refine gl_ (some 62) Try.func24 #[.slice Ao25 t167.length co25, .int .i64 1] ?_; (with_reducible refine (laws_heldPrefixS.calls kj23 _ _ t167 1 t174 _ ?side1 ?side2 A37.out).mono ?_); (case side1 => exact rc_ HO_7); (case side2 => exact (Kd.R_reads' HO_7.out).2.1); rintro e w' ⟨rfl, ⟨nd, rfl⟩⟩; refine ⟨_, rfl, ?_⟩))
      go_ret
      exact ⟨by first | rfl | (simp [errW_none, errW_some] <;> rfl) | (simp [*, errW_none, errW_some] <;> rfl), by repeat (first | (with_reducible first | exact HB.out | apply below_alloc | apply pw_below_drewN | apply below_drew1) | exact HB.out)⟩
     rw [if_neg c38] at H
     have c38b0 : decide (t174 < 0) = false := decide_eq_false c38
     clear c38
     by_cases c39 : t174 = t166
     rotate_left
     ·rw [if_neg c39] at H
      have c39b0 : (t174 == t166) = false := beq_eq_false_iff_ne.mpr c39
      have c39b1 : (t174 != t166) = true := bne_iff_ne.mpr c39
      obtain rfl := Option.some.inj H
      go_wp2_with (first | ((with_reducible refine gate_callee (f := 24) rfl ?_); refine gl_ (some 62) Try.func24 #[.slice Ao25 t167.length co25, .int .i64 1] ?_; (with_reducible refine (laws_heldPrefixS.calls kj23 _ _ t167 1 t174 _ ?side1 ?side2 A37.out).mono ?_); (case side1 => exact rc_ HO_7); (case side2 => exact (Kd.R_reads' HO_7.out).2.1); rintro e w' ⟨rfl, ⟨nd, rfl⟩⟩; refine ⟨_, rfl, ?_⟩))
      go_ret
      exact ⟨by first | rfl | (simp [errW_none, errW_some] <;> rfl) | (simp [*, errW_none, errW_some] <;> rfl), by repeat (first | (with_reducible first | exact HB.out | apply below_alloc | apply pw_below_drewN | apply below_drew1) | exact HB.out)⟩
     rw [if_pos c39] at H
     have c39b0 : (t174 == t166) = true := beq_iff_eq.mpr c39
     have c39b1 : (t174 != t166) = false := bne_eq_false_iff_eq.mpr c39
     clear c39
     obtain rfl := Option.some.inj H
     go_wp2_with (first | ((with_reducible refine gate_callee (f := 24) rfl ?_); refine gl_ (some 62) Try.func24 #[.slice Ao25 t167.length co25, .int .i64 1] ?_; (with_reducible refine (laws_heldPrefixS.calls kj23 _ _ t167 1 t174 _ ?side1 ?side2 A37.out).mono ?_); (case side1 => exact rc_ HO_7); (case side2 => exact (Kd.R_reads' HO_7.out).2.1); rintro e w' ⟨rfl, ⟨nd, rfl⟩⟩; refine ⟨_, rfl, ?_⟩))
     go_ret
     exact ⟨by first | rfl | (simp [errW_none, errW_some] <;> rfl) | (simp [*, errW_none, errW_some] <;> rfl), by repeat (first | (with_reducible first | exact HB.out | apply below_alloc | apply pw_below_drewN | apply below_drew1) | exact HB.out)⟩

/-- THE ONE PURE STATEMENT of laws_FnExactCover: yours. -/
def laws_FnExactCover.Pure : Prop := ∀ (a0 : Int) (a1 : Int), (Lit.int .i64 a0).wf = true → (Lit.int .i64 a1).wf = true → ∃ k, laws_FnExactCover.f k a0 a1 = some true
theorem laws_FnExactCover.walk (P : laws_FnExactCover.Pure) (a0 : Int) (a1 : Int) (w : World) (w0 : (Lit.int .i64 a0).wf = true) (w1 : (Lit.int .i64 a1).wf = true) :
  Calls Try.prog 6 #[.int .i64 a0, .int .i64 a1] w fun e w' => e = .returned (.bool true) ∧ Below w.heap.size w w' := by
 obtain ⟨k, h⟩ := P a0 a1 w0 w1
 refine (laws_FnExactCover.calls k a0 a1 true w h).mono ?_
 rintro e w' ⟨rfl, hd⟩
 exact ⟨rfl, hd⟩

end Go.Proofs.Ytflfbaofgfandaa.QFnExactCover
