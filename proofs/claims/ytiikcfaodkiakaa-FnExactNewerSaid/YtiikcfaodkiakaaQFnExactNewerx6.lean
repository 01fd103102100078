/- Contracts of functions that the law reaches: what each call returns and what it leaves in memory. Made by this session over the print of the kit. -/
import Derived.Test.YtiikcfaodkiakaaQFnExactNewerx0
import Derived.Test.YtiikcfaodkiakaaQFnExactNewerx4
import Derived.Test.YtiikcfaodkiakaaQFnExactNewerx5
namespace Go.Proofs.Ytiikcfaodkiakaa.QFnExactNewer
open Go.RowKit Go.Proofs.YtiikcfaodkiakaaY.PrintWords Go.Proofs.YtiikcfaodkiakaaY.PrintLast Go.Proofs.YtiikcfaodkiakaaY.PrintMore
attribute [local go_sem] max2_int min2_int max_two min_two max_three min_three max_four min_four   -- for this text's walks alone
set_option linter.unusedVariables false
set_option linter.unusedSimpArgs false
def ba6_0 : Array Bool := #[false, false, false, false, false, false, false, false, false]
def ba6_1 : Array Bool := #[true, false, false, false, false, false, false, false, false]
def ba6_2 : Array Bool := #[true, false, false, false, true, false, false, false, false]
def ba6_3 : Array Bool := #[false, false, false, false, false, false, false, false, false, false, false, false, false, false, false, false, false, false, false]
def ba6_4 : Array Bool := #[true, false, false, false, false, false, false, false, false, false, false, false, false, false, false, false, false, false, false]
def ba6_5 : Array Bool := #[true, true, false, false, false, false, false, false, false, false, false, false, false, false, false, false, false, false, false]
def ba6_6 : Array Bool := #[true, true, false, true, false, false, false, false, false, false, false, false, false, false, false, false, false, false, false]
def ba6_7 : Array Bool := #[true, true, false, true, false, false, false, false, false, false, true, false, false, false, false, false, false, false, false]
def ba6_8 : Array Bool := #[true, true, false, true, false, false, false, false, false, false, true, false, true, false, false, false, false, false, false]
def ba6_9 : Array Bool := #[true, true, true, true, false, false, false, false, false, false, true, false, true, false, false, false, false, false, false]
def ba6_10 : Array Bool := #[true, true, true, true, true, false, false, false, false, false, true, false, true, false, false, false, false, false, false]
def ba6_11 : Array Bool := #[true, true, true, true, true, true, false, false, false, false, true, false, true, false, false, false, false, false, false]
def ba6_12 : Array Bool := #[true, true, true, true, true, true, true, false, false, false, true, false, true, false, false, false, false, false, false]
def ba6_13 : Array Bool := #[true, true, true, true, true, true, true, true, false, false, true, false, true, false, false, false, false, false, false]
def ba6_14 : Array Bool := #[true, true, true, true, true, true, true, true, false, false, true, true, true, false, false, false, false, false, false]
def ba6_15 : Array Bool := #[true, true, true, true, true, true, true, true, false, false, true, true, true, true, false, false, false, false, false]
def ba6_16 : Array Bool := #[true, true, true, true, true, true, true, true, false, false, true, true, true, true, true, false, false, false, false]
def ba6_17 : Array Bool := #[true, true, true, true, true, true, true, true, false, false, true, true, true, true, true, true, false, false, false]
def ba6_18 : Array Bool := #[true, true, true, true, true, true, true, true, true, false, true, true, true, true, true, true, false, false, false]
def ba6_19 : Array Bool := #[true, true, true, true, true, true, true, true, true, true, true, true, true, true, true, true, false, false, false]
def ba6_20 : Array Bool := #[true, true, true, true, true, true, true, true, true, true, true, true, true, true, true, true, true, false, false]
def ba6_21 : Array Bool := #[true, true, true, true, true, true, true, true, true, true, true, true, true, true, true, true, true, true, false]
def ba6_22 : Array Bool := #[true, true, true, true, true, true, true, true, true, true, true, true, true, true, true, true, true, true, true]
def ba6_23 : Array Bool := #[false, false, false, false, false, false, false, false, false, false, false, false, false, false, false, false, false]
def ba6_24 : Array Bool := #[true, false, false, false, false, false, false, false, false, false, false, false, false, false, false, false, false]
def ba6_25 : Array Bool := #[true, true, false, false, false, false, false, false, false, false, false, false, false, false, false, false, false]
def ba6_26 : Array Bool := #[true, true, true, false, false, false, false, false, false, false, false, false, false, false, false, false, false]
def ba6_27 : Array Bool := #[true, true, true, false, false, false, true, false, false, false, false, false, false, false, false, false, false]
def ba6_28 : Array Bool := #[true, true, true, false, false, false, true, true, false, false, false, false, false, false, false, false, false]
def ba6_29 : Array Bool := #[true, true, true, false, false, false, true, true, false, false, false, false, true, false, false, false, false]
def ba6_30 : Array Bool := #[true, true, true, true, false, false, true, true, false, false, false, false, true, false, false, false, false]
def ba6_31 : Array Bool := #[true, true, true, true, false, false, true, true, true, false, false, false, true, false, false, false, false]
def ba6_32 : Array Bool := #[true, true, true, true, false, false, true, true, true, true, false, false, true, false, false, false, false]
def ba6_33 : Array Bool := #[true, true, true, true, false, false, true, true, true, true, false, false, true, true, false, false, false]
def ba6_34 : Array Bool := #[true, true, true, true, true, true, true, true, true, true, true, false, true, true, false, false, false]
def ba6_35 : Array Bool := #[true, true, true, true, true, false, true, true, true, true, false, false, true, true, false, false, false]
def ba6_36 : Array Bool := #[true, true, true, true, false, false, true, true, true, true, true, false, true, true, false, false, false]
def ba6_37 : Array Bool := #[true, true, true, true, true, true, true, true, true, true, false, false, true, true, false, false, false]
def ba6_38 : Array Bool := #[true, true, true, true, true, false, true, true, true, true, true, false, true, true, false, false, false]
def ba6_39 : Array Bool := #[true, true, true, true, true, true, true, true, true, true, true, true, true, true, false, false, false]
def ba6_40 : Array Bool := #[true, true, true, true, true, true, true, true, true, true, true, true, true, true, true, false, false]
def ba6_41 : Array Bool := #[true, true, true, true, true, true, true, true, true, true, true, true, true, true, true, true, false]
def ba6_42 : Array Bool := #[true, true, true, true, true, true, true, true, true, true, true, true, true, true, true, true, true]

/-! ### spec_LsaBytes: function 41 -/
mutual
def spec_LsaBytes.l0 : Nat → List Int → Int → Int → Int → Int → List (S70) → List (S74) → Option (List Int)
 | 0, _, _, _, _, _, _, _ => none
 | k + 1, x3, x4, x199000, x199001, x199002, x199003, x199004 => if x4 < (x199003.length : Int) then (if 0 ≤ x4 then ((some (([((rd_T70 x199003 x4).f0) % 256] : List Int) : List Int)).bind fun y216 => (if x3.length + y216.length < 140737488355328 then ((spec_l05Wide.f k ((rd_T70 x199003 x4).f1) 2).bind fun t223 => ((spec_l01Join.f k (x3 ++ y216) t223).bind fun t226 => (spec_LsaBytes.l0 k t226 (wrap64 (x4 + 1)) x199000 x199001 x199002 x199003 x199004))) else (none))) else (none)) else ((some (([((x199004.length : Int)) % 256] : List Int) : List Int)).bind fun y229 => (if x3.length + y229.length < 140737488355328 then (spec_LsaBytes.l1 k (x3 ++ y229) 0 x199000 x199001 x199002 x199003 x199004) else (none)))
def spec_LsaBytes.l1 : Nat → List Int → Int → Int → Int → Int → List (S70) → List (S74) → Option (List Int)
 | 0, _, _, _, _, _, _, _ => none
 | k + 1, x3, x5, x199000, x199001, x199002, x199003, x199004 => if x5 < (x199004.length : Int) then (if 0 ≤ x5 then ((spec_l05Wide.f k ((rd_T74 x199004 x5).f0.f0) 2).bind fun t237 => ((spec_l01Join.f k x3 t237).bind fun t240 => ((some (([((rd_T74 x199004 x5).f0.f1) % 256] : List Int) : List Int)).bind fun y243 => (if t240.length + y243.length < 140737488355328 then ((spec_l05Wide.f k ((rd_T74 x199004 x5).f1) 2).bind fun t249 => ((spec_l01Join.f k (t240 ++ y243) t249).bind fun t252 => (spec_LsaBytes.l1 k t252 (wrap64 (x5 + 1)) x199000 x199001 x199002 x199003 x199004))) else (none))))) else (none)) else (some x3)
end
def spec_LsaBytes.f (k : Nat) (a0_0 : Int) (a0_1 : Int) (a0_2 : Int) (l0_3 : List (S70)) (l0_4 : List (S74)) : Option (List Int) := (spec_LsaOk.f k a0_0 a0_1 a0_2 l0_3 l0_4).bind fun t199 => (if t199 = true then ((spec_l05Wide.f k a0_1 3).bind fun t203 => ((spec_l01Join.f k (([(a0_0) % 256] : List Int)) t203).bind fun t206 => ((some (([((l0_3.length : Int)) % 256] : List Int) : List Int)).bind fun y209 => (if t206.length + y209.length < 140737488355328 then (spec_LsaBytes.l0 k (t206 ++ y209) 0 a0_0 a0_1 a0_2 l0_3 l0_4) else (none))))) else (some ([] : List Int)))
theorem spec_LsaBytes.mono_l : ∀ k, (∀ y0 y1 y2 y3 y4 y5 y6, LeO (spec_LsaBytes.l0 k y0 y1 y2 y3 y4 y5 y6) (spec_LsaBytes.l0 (k + 1) y0 y1 y2 y3 y4 y5 y6)) ∧ (∀ y0 y1 y2 y3 y4 y5 y6, LeO (spec_LsaBytes.l1 k y0 y1 y2 y3 y4 y5 y6) (spec_LsaBytes.l1 (k + 1) y0 y1 y2 y3 y4 y5 y6))
 | 0 => ⟨fun _ _ _ _ _ _ _ r h => by simp [spec_LsaBytes.l0] at h, fun _ _ _ _ _ _ _ r h => by simp [spec_LsaBytes.l1] at h⟩
 | k + 1 => by
  obtain ⟨ih0, ih1⟩ := spec_LsaBytes.mono_l k
  refine ⟨?_, ?_⟩
  ·intro y0 y1 y2 y3 y4 y5 y6
   unfold spec_LsaBytes.l0
   repeat' first
   | (with_reducible exact ih0 _ _ _ _ _ _ _)
   | (with_reducible exact ih1 _ _ _ _ _ _ _)
   | (with_reducible exact spec_LsaOk.mono _ _ _ _ _ _)
   | (with_reducible exact spec_l01Join.mono _ _ _)
   | (with_reducible exact spec_l05Wide.mono _ _ _)
   | (with_reducible exact LeO.refl _)
   | (with_reducible exact LeO.none _)
   | (with_reducible refine LeO.ite ?_ ?_)
   | (with_reducible refine LeO.bind ?_ (fun _ => ?_))
   | exact ih0 _ _ _ _ _ _ _
   | exact ih1 _ _ _ _ _ _ _
   | exact spec_LsaOk.mono _ _ _ _ _ _
   | exact spec_l01Join.mono _ _ _
   | exact spec_l05Wide.mono _ _ _
   | exact LeO.none _
   | refine LeO.ite ?_ ?_
   | refine LeO.bind ?_ (fun _ => ?_)
  ·intro y0 y1 y2 y3 y4 y5 y6
   unfold spec_LsaBytes.l1
   repeat' first
   | (with_reducible exact ih0 _ _ _ _ _ _ _)
   | (with_reducible exact ih1 _ _ _ _ _ _ _)
   | (with_reducible exact spec_LsaOk.mono _ _ _ _ _ _)
   | (with_reducible exact spec_l01Join.mono _ _ _)
   | (with_reducible exact spec_l05Wide.mono _ _ _)
   | (with_reducible exact LeO.refl _)
   | (with_reducible exact LeO.none _)
   | (with_reducible refine LeO.ite ?_ ?_)
   | (with_reducible refine LeO.bind ?_ (fun _ => ?_))
   | exact ih0 _ _ _ _ _ _ _
   | exact ih1 _ _ _ _ _ _ _
   | exact spec_LsaOk.mono _ _ _ _ _ _
   | exact spec_l01Join.mono _ _ _
   | exact spec_l05Wide.mono _ _ _
   | exact LeO.none _
   | refine LeO.ite ?_ ?_
   | refine LeO.bind ?_ (fun _ => ?_)
theorem spec_LsaBytes.mono : ∀ a0 a1 a2 a3 a4 k, LeO (spec_LsaBytes.f k a0 a1 a2 a3 a4) (spec_LsaBytes.f (k + 1) a0 a1 a2 a3 a4) := by
 intro a0 a1 a2 a3 a4 k
 obtain ⟨ih0, ih1⟩ := spec_LsaBytes.mono_l k
 unfold spec_LsaBytes.f
 repeat' first
   | (with_reducible exact ih0 _ _ _ _ _ _ _)
   | (with_reducible exact ih1 _ _ _ _ _ _ _)
   | (with_reducible exact spec_LsaOk.mono _ _ _ _ _ _)
   | (with_reducible exact spec_l01Join.mono _ _ _)
   | (with_reducible exact spec_l05Wide.mono _ _ _)
   | (with_reducible exact LeO.refl _)
   | (with_reducible exact LeO.none _)
   | (with_reducible refine LeO.ite ?_ ?_)
   | (with_reducible refine LeO.bind ?_ (fun _ => ?_))
   | exact ih0 _ _ _ _ _ _ _
   | exact ih1 _ _ _ _ _ _ _
   | exact spec_LsaOk.mono _ _ _ _ _ _
   | exact spec_l01Join.mono _ _ _
   | exact spec_l05Wide.mono _ _ _
   | exact LeO.none _
   | refine LeO.ite ?_ ?_
   | refine LeO.bind ?_ (fun _ => ?_)
def spec_LsaBytes.T3 : Bool × List (List Nat × List Nat) := (true, [([], []), ([0], [0]), ([1], [1]), ([2], [2]), ([], []), ([4], [4]), ([5], [5]), ([3, 6, 6], [3, 6]), ([7, 7, 0, 1, 2, 3, 4, 5, 6, 7], [7])])
def spec_LsaBytes.B3 : List Nat := [0, 1, 3, 7, 0, 16, 48, 127, 255]
theorem spec_LsaBytes.tab3 : rtab .any (opsOf Try.f41 3) = spec_LsaBytes.T3 := by kernel_rfl
theorem spec_LsaBytes.bits3 : waitsOk spec_LsaBytes.T3.2 spec_LsaBytes.B3 = true := by kernel_rfl
def spec_LsaBytes.T8 : Bool × List (List Nat × List Nat) := (true, [([], []), ([], []), ([1], [1]), ([], []), ([2, 3], [2, 3]), ([4], [4]), ([5], [5]), ([6], [6]), ([7], [7]), ([0, 8], [0, 8]), ([], []), ([10], [10]), ([], []), ([11, 12], [11, 12]), ([13], [13]), ([14], [14]), ([15, 9], [15]), ([9, 16, 16], [9, 16]), ([17, 17, 0, 1, 2, 3, 4, 5, 6, 7, 8, 9, 10, 11, 12, 13, 14, 15, 16, 17], [0, 17])])
def spec_LsaBytes.B8 : List Nat := [0, 0, 2, 0, 14, 30, 62, 126, 254, 511, 0, 1024, 0, 7168, 15360, 31744, 65535, 131071, 262143]
theorem spec_LsaBytes.tab8 : rtab .any (opsOf Try.f41 8) = spec_LsaBytes.T8 := by kernel_rfl
theorem spec_LsaBytes.bits8 : waitsOk spec_LsaBytes.T8.2 spec_LsaBytes.B8 = true := by kernel_rfl
def spec_LsaBytes.T14 : Bool × List (List Nat × List Nat) := (true, [([], []), ([], []), ([1], [1]), ([2], [2]), ([3], [3]), ([0, 4, 4], [0, 4]), ([], []), ([6], [6]), ([7], [7]), ([8], [8]), ([9], [9]), ([5, 10, 5], [5, 10]), ([], []), ([12], [12]), ([13, 11], [13]), ([11, 14, 14], [11, 14]), ([15, 15, 0, 1, 2, 3, 4, 5, 6, 7, 8, 9, 10, 11, 12, 13, 14, 15], [0, 15])])
def spec_LsaBytes.B14 : List Nat := [0, 0, 2, 6, 14, 31, 0, 64, 192, 448, 960, 2047, 0, 4096, 16383, 32767, 65535]
theorem spec_LsaBytes.tab14 : rtab .any (opsOf Try.f41 14) = spec_LsaBytes.T14 := by kernel_rfl
theorem spec_LsaBytes.bits14 : waitsOk spec_LsaBytes.T14.2 spec_LsaBytes.B14 = true := by kernel_rfl
set_option maxHeartbeats 8000000 in
set_option maxRecDepth 100000 in
theorem spec_LsaBytes.calls (k : Nat) (a0_0 : Int) (a0_1 : Int) (a0_2 : Int) (A0_3 : Option Addr) (c0_3 : Nat) (l0_3 : List (S70)) (A0_4 : Option Addr) (c0_4 : Nat) (l0_4 : List (S74)) (r : List Int) (w : World) (hr0_3 : Kd.C k70 w A0_3 l0_3.length l0_3) (hc0_3 : l0_3.length ≤ c0_3) (hr0_4 : Kd.C k74 w A0_4 l0_4.length l0_4) (hc0_4 : l0_4.length ≤ c0_4) (h : spec_LsaBytes.f k a0_0 a0_1 a0_2 l0_3 l0_4 = some r) :
  Calls Try.prog 41 #[.agg #[.int .i64 a0_0, .int .i64 a0_1, .int .i64 a0_2, .slice A0_3 l0_3.length c0_3, .slice A0_4 l0_4.length c0_4]] w fun e w' => ∃ v0_ : Value, e = .returned (v0_) ∧ Kd.R (Kd.int .u8) 5 w' w.heap.size (fun _ => True) v0_ r ∧ Below w.heap.size w w' := by
 have hu31 := Try.underlying31
 have hu74 := Try.underlying74
 have HR0_3 := Aside0.mk hr0_3
 have HC0_3 := Aside0.mk hc0_3
 clear hr0_3 hc0_3
 have HR0_4 := Aside0.mk hr0_4
 have HC0_4 := Aside0.mk hc0_4
 clear hr0_4 hc0_4
 have HB := Aside0.mk (Below.refl w.heap.size w)
 have H : ((spec_LsaOk.f k a0_0 a0_1 a0_2 l0_3 l0_4).bind fun t199 => (if t199 = true then ((spec_l05Wide.f k a0_1 3).bind fun t203 => ((spec_l01Join.f k (([(a0_0) % 256] : List Int)) t203).bind fun t206 => ((some (([((l0_3.length : Int)) % 256] : List Int) : List Int)).bind fun y209 => (if t206.length + y209.length < 140737488355328 then (spec_LsaBytes.l0 k (t206 ++ y209) 0 a0_0 a0_1 a0_2 l0_3 l0_4) else (none))))) else (some ([] : List Int)))) = some r := h
 clear h
 replace H := Option.bind_eq_some_iff.mp H
 obtain ⟨t199, A20, H⟩ := H
 have A2 := Aside0.mk A20
 clear A20
 by_cases c3 : t199 = true
 ·subst c3
  rw [if_pos rfl] at H
  obtain ⟨y200, hy200⟩ : ∃ y_ : List Int, y_ = (([(a0_0) % 256] : List Int)) := ⟨_, rfl⟩
  replace H : ((spec_l05Wide.f k a0_1 3).bind fun t203 => ((spec_l01Join.f k y200 t203).bind fun t206 => ((some (([((l0_3.length : Int)) % 256] : List Int) : List Int)).bind fun y209 => (if t206.length + y209.length < 140737488355328 then (spec_LsaBytes.l0 k (t206 ++ y209) 0 a0_0 a0_1 a0_2 l0_3 l0_4) else (none))))) = some r := by first | (rw [hy200]; with_reducible exact H) | (have H2_ := (Option.bind_some _ _).symm.trans H; rw [hy200]; with_reducible exact H2_) | (have H2_ := (Option.bind_some _ _).symm.trans H; with_reducible exact H2_) | with_reducible exact H | (rw [hy200]; exact H) | exact H
  have Ny200 := Aside0.mk hy200
  clear hy200
  replace H := Option.bind_eq_some_iff.mp H
  obtain ⟨t203, A40, H⟩ := H
  have A4 := Aside0.mk A40
  clear A40
  replace H := Option.bind_eq_some_iff.mp H
  obtain ⟨t206, A50, H⟩ := H
  have A5 := Aside0.mk A50
  clear A50
  obtain ⟨y209, hy209⟩ : ∃ y_ : List Int, y_ = (([((l0_3.length : Int)) % 256] : List Int)) := ⟨_, rfl⟩
  replace H : (if t206.length + y209.length < 140737488355328 then (spec_LsaBytes.l0 k (t206 ++ y209) 0 a0_0 a0_1 a0_2 l0_3 l0_4) else (none)) = some r := by first | (rw [hy209]; with_reducible exact H) | (have H2_ := (Option.bind_some _ _).symm.trans H; rw [hy209]; with_reducible exact H2_) | (have H2_ := (Option.bind_some _ _).symm.trans H; with_reducible exact H2_) | with_reducible exact H | (rw [hy209]; exact H) | exact H
  have Ny209 := Aside0.mk hy209
  clear hy209
  by_cases c6 : t206.length + y209.length < 140737488355328
  ·rw [if_pos c6] at H
   have LMc6 := Aside0.mk c6
   clear c6
   obtain ⟨y212, hy212⟩ : ∃ y_ : List Int, y_ = (t206 ++ y209) := ⟨_, rfl⟩
   replace H : (spec_LsaBytes.l0 k y212 0 a0_0 a0_1 a0_2 l0_3 l0_4) = some r := by first | (rw [hy212]; with_reducible exact H) | (have H2_ := (Option.bind_some _ _).symm.trans H; rw [hy212]; with_reducible exact H2_) | (have H2_ := (Option.bind_some _ _).symm.trans H; with_reducible exact H2_) | with_reducible exact H | (rw [hy212]; exact H) | exact H
   have Ny212 := Aside0.mk hy212
   clear hy212
   have H' := Aside0.mk H
   clear H
   go_enter Try.func41, Try.ntmps41
   try go_wp2_with (first | ((with_reducible refine gate_dst (N := 1) rfl ?_); refine box_event ?hg (N := 1) ?hd (cs := #[.int .i64 a0_0, .int .i64 a0_1, .int .i64 a0_2, .slice A0_3 l0_3.length c0_3, .slice A0_4 l0_4.length c0_4]) (t := 31) ?hr ?_; (case hd => rfl); (case hg => rfl); (case hr => first | (go_simp; done) | (go_simp; rfl)); intro gb198 hg w7 hbox hb; have BK198 := Aside0.mk hbox; have GW198 := ge_ HB hg; have GE198 := ge_ HB hg; replace HB := Aside0.mk (bt_ HB hb); clear hb hbox hg; have hcz8_0 := cz_ BK198 0 (.int .i64 a0_0); have hcz8_1 := cz_ BK198 1 (.int .i64 a0_1); have hcz8_2 := cz_ BK198 2 (.int .i64 a0_2); have hcz8_3 := cz_ BK198 3 (.slice A0_3 l0_3.length c0_3); have hcz8_4 := cz_ BK198 4 (.slice A0_4 l0_4.length c0_4); have hfz8_0 := blk_frozen BK198.out 0; have hfz8_1 := blk_frozen BK198.out 1; have hfz8_2 := blk_frozen BK198.out 2; have hfz8_3 := blk_frozen BK198.out 3; have hfz8_4 := blk_frozen BK198.out 4) | ((with_reducible refine gate_callee (f := 14) rfl ?_); refine gl_ (some 8) Try.func14 #[.agg #[.int .i64 a0_0, .int .i64 a0_1, .int .i64 a0_2, .slice A0_3 l0_3.length c0_3, .slice A0_4 l0_4.length c0_4]] ?_; (with_reducible refine (spec_LsaOk.calls k a0_0 a0_1 a0_2 _ _ l0_3 _ _ l0_4 true _ ?side1 ?side2 ?side3 ?side4 A2.out).mono ?_); (case side1 => exact cb_ HR0_3 HB); (case side2 => exact HC0_3.out); (case side3 => exact cb_ HR0_4 HB); (case side4 => exact HC0_4.out); rintro e w9 ⟨rfl, hb⟩; refine ⟨_, rfl, ?_⟩; replace BK198 := Aside0.mk (bb_ BK198 hb); replace HB := Aside0.mk (bt_ HB hb); (try clear hb); (try clear hb2); (try clear hk); (try clear hi)))
   replace BK198 := Aside0.mk (blk_drew BK198.out)
   replace HB := Aside0.mk (below_drew1 HB.out)
   refine start_ (n := 9) (S := fun w' => True) (ds := []) ba6_0 (by kernel_rfl) rfl rfl trivial (fun hHeld => ?_); refine with_tabW spec_LsaBytes.tab3 spec_LsaBytes.bits3 (fun HT_ HW_ => ?_)
   generalize w9.drew = w10 at BK198 HB hHeld ⊢
   refine pz_ 0 10 ba6_1 HT_ ?_
   refine pz_ 4 14 ba6_2 HT_ ?_
   refine inv_at [1, 2, 3, 5, 6, 7, 8] (fun a0_ b a w' => ∃ (v201 : Value) (v204 : Value) (v207 : Value) (m8_ : Value), a = putSel a0_ b [(1, 11, .int .i64 a0_0), (2, 12, .int .u8 ((a0_0) % 256)), (3, 13, v201), (5, 15, .int .i64 a0_1), (6, 16, v204), (7, 17, v207), (8, 3, m8_)] ∧ (w'.heap[gb198]? = some (.cells #[.int .i64 a0_0, .int .i64 a0_1, .int .i64 a0_2, .slice A0_3 l0_3.length c0_3, .slice A0_4 l0_4.length c0_4] 31 (0, 0))) ∧ (Below w.heap.size w w') ∧ (b 3 = true → Kd.R (Kd.int .u8) 5 w' w.heap.size (fun _ => True) v201 y200) ∧ (b 6 = true → Kd.R (Kd.int .u8) 5 w' w.heap.size (fun _ => True) v204 t203) ∧ (b 7 = true → Kd.R (Kd.int .u8) 5 w' w.heap.size (fun _ => True) v207 t206) ∧ (b 8 = true → (m8_ : Value) = v207)) HT_.out HW_.out (by kernel_rfl) (by kernel_rfl) ?_ ?_ ?_
   ·exact ⟨.bool false, .bool false, .bool false, .bool false, by simp only [putSel, Bool.false_eq_true, if_false], BK198.out, HB.out, fun h_ => absurd h_ (by decide), fun h_ => absurd h_ (by decide), fun h_ => absurd h_ (by decide), fun h_ => absurd h_ (by decide)⟩
   ·skip
    clear BK198 HB
    refine steps_cons ?_ ?_
    ·rintro b a w' ⟨v201, v204, v207, m8_, ha, Q_BK198, Q_HB, Q_HO202, Q_HO205, Q_HO208, Q_X8_⟩ hb_ hon hoff
     refine ⟨_, rfl, fun K hK => ?_⟩
     have e10 : a.tmps[10]? = some (.pointer (some ⟨gb198, 0, none⟩)) := by rw [ha]; exact (putSel_off rfl).trans rfl
     replace ha := Aside0.mk ha
     have BK198 := Aside0.mk Q_BK198
     have HB := Aside0.mk Q_HB
     have hc0_ : w'.cell? ⟨gb198, 0, none⟩ = some (.int .i64 a0_0) := (blk_cell BK198.out 0).trans rfl
     have hc1_ : w'.cell? ⟨gb198, 1, none⟩ = some (.int .i64 a0_1) := (blk_cell BK198.out 1).trans rfl
     have hc2_ : w'.cell? ⟨gb198, 2, none⟩ = some (.int .i64 a0_2) := (blk_cell BK198.out 2).trans rfl
     have hc3_ : w'.cell? ⟨gb198, 3, none⟩ = some (.slice A0_3 l0_3.length c0_3) := (blk_cell BK198.out 3).trans rfl
     have hc4_ : w'.cell? ⟨gb198, 4, none⟩ = some (.slice A0_4 l0_4.length c0_4) := (blk_cell BK198.out 4).trans rfl
     refine value_ (w1 := w') (v := .int .i64 a0_0) (by rfl) rfl ?_ ?_
     ·go_simp
      (try simp only [i64_w])
      try rfl
     refine hK.out _ _ ⟨v201, v204, v207, m8_, (by rw [ha.out]; exact putSel_upk 0 hb_ rfl rfl rfl), Q_BK198, Q_HB, fun h0_ => absurd ((hoff 3 (by kernel_rfl)).symm.trans h0_) (by decide), Q_HO205, fun h0_ => absurd ((hoff 7 (by kernel_rfl)).symm.trans h0_) (by decide), fun h0_ => absurd ((hoff 8 (by kernel_rfl)).symm.trans h0_) (by decide)⟩
    refine steps_cons ?_ ?_
    ·rintro b a w' ⟨v201, v204, v207, m8_, ha, Q_BK198, Q_HB, Q_HO202, Q_HO205, Q_HO208, Q_X8_⟩ hb_ hon hoff
     refine ⟨_, rfl, fun K hK => ?_⟩
     have e11 : a.tmps[11]? = some (.int .i64 a0_0) := by rw [ha]; exact putSel_on (e := (1, 11, .int .i64 a0_0)) 0 rfl rfl (hon 1 (by kernel_rfl)) rfl
     replace ha := Aside0.mk ha
     have BK198 := Aside0.mk Q_BK198
     have HB := Aside0.mk Q_HB
     refine value_ (w1 := w') (v := .int .u8 ((a0_0) % 256)) (by rfl) rfl ?_ ?_
     ·go_simp
      (try simp only [i64_w])
      try rfl
     refine hK.out _ _ ⟨v201, v204, v207, m8_, (by rw [ha.out]; exact putSel_upk 1 hb_ rfl rfl rfl), Q_BK198, Q_HB, fun h0_ => absurd ((hoff 3 (by kernel_rfl)).symm.trans h0_) (by decide), Q_HO205, fun h0_ => absurd ((hoff 7 (by kernel_rfl)).symm.trans h0_) (by decide), fun h0_ => absurd ((hoff 8 (by kernel_rfl)).symm.trans h0_) (by decide)⟩
    refine steps_cons ?_ ?_
    ·rintro b a w' ⟨v201, v204, v207, m8_, ha, Q_BK198, Q_HB, Q_HO202, Q_HO205, Q_HO208, Q_X8_⟩ hb_ hon hoff
     refine ⟨_, rfl, fun K hK => ?_⟩
     have e12 : a.tmps[12]? = some (.int .u8 ((a0_0) % 256)) := by rw [ha]; exact putSel_on (e := (2, 12, .int .u8 ((a0_0) % 256))) 1 rfl rfl (hon 2 (by kernel_rfl)) rfl
     replace ha := Aside0.mk ha
     have BK198 := Aside0.mk Q_BK198
     have HB := Aside0.mk Q_HB
     refine Kd.R_lit_step (Kd.int .u8) _ 5 ?hg (N := 13) ?hd (xs := ([(a0_0) % 256] : List Int)) (inner := [.int .u8 ((a0_0) % 256)]) (ok := fun _ => True) (okp := fun _ => True) ?hr ?hp (fun _ hk => hk) trivial (Below.refl _ _) (Nat.le_refl _) (by simp) ?_; (case hd => rfl); (case hg => rfl); (case hr => first | (go_simp; done) | (go_simp; rfl)); (case hp => exact (Reps.one (show Kd.M (Kd.int .u8) _ _ _ ((a0_0) % 256) [.int .u8 ((a0_0) % 256)] from rfl) (Reps.none _ _)))
     intro v201 w11 ho12 hb hg_ hnew_
     clear hg_ hnew_
     (first | rw [← Ny200.out] at ho12 | (simp only [Int.reduceToNat] at ho12; rw [← Ny200.out] at ho12))
     have n0_ := Aside0.mk (Kd.R_lower ho12 (bz_ HB))
     have n1_ := Aside0.mk (bb_ BK198 hb)
     have n2_ := Aside0.mk (bt_ HB hb)
     have z_HO205 := fun (h0_ : b 6 = true) => (show Kd.R (Kd.int .u8) 5 w11 w.heap.size (fun _ => True) v204 t203 from by first | exact (Kd.R_elder' (by (with_reducible repeat (first | apply Kd.R_alloc | apply Kd.R_drewN | apply Kd.R_drew)); exact (Q_HO205 h0_)) (Kd.R_base ho12) hb) | exact Kd.R_mono (Kd.R_elder' (by (with_reducible repeat (first | apply Kd.R_alloc | apply Kd.R_drewN | apply Kd.R_drew)); exact (Q_HO205 h0_)) (Kd.R_base ho12) hb) (fun _ h_ => by first | trivial | exact h_ | exact h_.1))
     clear BK198
     clear HB
     have HO202 := n0_
     have BK198 := n1_
     have HB := n2_
     clear n0_ n1_ n2_
     clear hb ho12
     refine hK.out _ _ ⟨v201, v204, v207, m8_, (by rw [ha.out]; exact putSel_upk 2 hb_ rfl rfl rfl), (by (with_reducible repeat (first | refine blk_drewN ?_ _ | refine blk_drew ?_ | refine blk_alloc ?_ _)); exact BK198.out), (by repeat (first | (with_reducible first | exact HB.out | apply below_alloc | apply pw_below_drewN | apply below_drew1 | refine below_set ?_ GE198.out) | exact HB.out)), fun _ => (by (with_reducible repeat (first | apply Kd.R_alloc | apply Kd.R_drewN | apply Kd.R_drew)); first | exact HO202.out | exact Kd.R_mono HO202.out (fun _ _ => trivial)), z_HO205, fun h0_ => absurd ((hoff 7 (by kernel_rfl)).symm.trans h0_) (by decide), fun h0_ => absurd ((hoff 8 (by kernel_rfl)).symm.trans h0_) (by decide)⟩
    refine steps_cons ?_ ?_
    ·rintro b a w' ⟨v201, v204, v207, m8_, ha, Q_BK198, Q_HB, Q_HO202, Q_HO205, Q_HO208, Q_X8_⟩ hb_ hon hoff
     refine ⟨_, rfl, fun K hK => ?_⟩
     have e14 : a.tmps[14]? = some (.pointer (some ⟨gb198, 1, none⟩)) := by rw [ha]; exact (putSel_off rfl).trans rfl
     replace ha := Aside0.mk ha
     have BK198 := Aside0.mk Q_BK198
     have HB := Aside0.mk Q_HB
     have hc0_ : w'.cell? ⟨gb198, 0, none⟩ = some (.int .i64 a0_0) := (blk_cell BK198.out 0).trans rfl
     have hc1_ : w'.cell? ⟨gb198, 1, none⟩ = some (.int .i64 a0_1) := (blk_cell BK198.out 1).trans rfl
     have hc2_ : w'.cell? ⟨gb198, 2, none⟩ = some (.int .i64 a0_2) := (blk_cell BK198.out 2).trans rfl
     have hc3_ : w'.cell? ⟨gb198, 3, none⟩ = some (.slice A0_3 l0_3.length c0_3) := (blk_cell BK198.out 3).trans rfl
     have hc4_ : w'.cell? ⟨gb198, 4, none⟩ = some (.slice A0_4 l0_4.length c0_4) := (blk_cell BK198.out 4).trans rfl
     refine value_ (w1 := w') (v := .int .i64 a0_1) (by rfl) rfl ?_ ?_
     ·go_simp
      (try simp only [i64_w])
      try rfl
     refine hK.out _ _ ⟨v201, v204, v207, m8_, (by rw [ha.out]; exact putSel_upk 3 hb_ rfl rfl rfl), Q_BK198, Q_HB, Q_HO202, fun h0_ => absurd ((hoff 6 (by kernel_rfl)).symm.trans h0_) (by decide), fun h0_ => absurd ((hoff 7 (by kernel_rfl)).symm.trans h0_) (by decide), fun h0_ => absurd ((hoff 8 (by kernel_rfl)).symm.trans h0_) (by decide)⟩
    refine steps_cons ?_ ?_
    ·rintro b a w' ⟨v201, v204, v207, m8_, ha, Q_BK198, Q_HB, Q_HO202, Q_HO205, Q_HO208, Q_X8_⟩ hb_ hon hoff
     refine ⟨_, rfl, fun K hK => ?_⟩
     have e15 : a.tmps[15]? = some (.int .i64 a0_1) := by rw [ha]; exact putSel_on (e := (5, 15, .int .i64 a0_1)) 3 rfl rfl (hon 5 (by kernel_rfl)) rfl
     replace ha := Aside0.mk ha
     have BK198 := Aside0.mk Q_BK198
     have HB := Aside0.mk Q_HB
     refine goes_ Try.func76 (by kernel_rfl) rfl #[.int .i64 a0_1, .int .i64 3] (by rfl) rfl rfl (by first | (simp only [List.map_toArray, List.map_cons, List.map_nil, Act.eval, Array.getD_eq_getD_getElem?, Option.getD_some, e15]; done) | (simp only [List.map_toArray, List.map_cons, List.map_nil, Act.eval, Array.getD_eq_getD_getElem?, Option.getD_some, e15]; rfl)) ?_
     with_reducible refine (spec_l05Wide.calls k a0_1 3 t203 _ A4.out).mono ?_
     rintro e w11 ⟨v204, rfl, ho0, hb⟩
     refine ⟨_, rfl, ?_⟩
     have n0_ := Aside0.mk (Kd.R_lower ho0 (bz_ HB))
     have n1_ := Aside0.mk (bb_ BK198 hb)
     have n2_ := Aside0.mk (bt_ HB hb)
     have z_HO202 := fun (h0_ : b 3 = true) => (show Kd.R (Kd.int .u8) 5 w11 w.heap.size (fun _ => True) v201 y200 from by first | exact (Kd.R_elder' (by (with_reducible repeat (first | apply Kd.R_alloc | apply Kd.R_drewN | apply Kd.R_drew)); exact (Q_HO202 h0_)) (Kd.R_base ho0) hb) | exact Kd.R_mono (Kd.R_elder' (by (with_reducible repeat (first | apply Kd.R_alloc | apply Kd.R_drewN | apply Kd.R_drew)); exact (Q_HO202 h0_)) (Kd.R_base ho0) hb) (fun _ h_ => by first | trivial | exact h_ | exact h_.1))
     clear BK198
     clear HB
     have HO205 := n0_
     have BK198 := n1_
     have HB := n2_
     clear n0_ n1_ n2_
     (try clear hb)
     (try clear hb2)
     (try clear hk)
     (try clear hi)
     (try clear ho0)
     refine hK.out _ _ ⟨v201, v204, v207, m8_, (by rw [ha.out]; exact putSel_upk 4 hb_ rfl rfl rfl), (by (with_reducible repeat (first | refine blk_drewN ?_ _ | refine blk_drew ?_ | refine blk_alloc ?_ _)); exact BK198.out), (by repeat (first | (with_reducible first | exact HB.out | apply below_alloc | apply pw_below_drewN | apply below_drew1 | refine below_set ?_ GE198.out) | exact HB.out)), z_HO202, fun _ => (by (with_reducible repeat (first | apply Kd.R_alloc | apply Kd.R_drewN | apply Kd.R_drew)); first | exact HO205.out | exact Kd.R_mono HO205.out (fun _ _ => trivial)), fun h0_ => absurd ((hoff 7 (by kernel_rfl)).symm.trans h0_) (by decide), fun h0_ => absurd ((hoff 8 (by kernel_rfl)).symm.trans h0_) (by decide)⟩
    refine steps_cons ?_ ?_
    ·rintro b a w' ⟨v201, v204, v207, m8_, ha, Q_BK198, Q_HB, Q_HO202, Q_HO205, Q_HO208, Q_X8_⟩ hb_ hon hoff
     refine ⟨_, rfl, fun K hK => ?_⟩
     have e13 : a.tmps[13]? = some (v201) := by rw [ha]; exact putSel_on (e := (3, 13, v201)) 2 rfl rfl (hon 3 (by kernel_rfl)) rfl
     have e16 : a.tmps[16]? = some (v204) := by rw [ha]; exact putSel_on (e := (6, 16, v204)) 4 rfl rfl (hon 6 (by kernel_rfl)) rfl
     replace ha := Aside0.mk ha
     have BK198 := Aside0.mk Q_BK198
     have HB := Aside0.mk Q_HB
     have HO202 := Aside0.mk (Q_HO202 (hon 3 (by kernel_rfl)))
     have HO205 := Aside0.mk (Q_HO205 (hon 6 (by kernel_rfl)))
     obtain ⟨Ao15, co15, eo15⟩ := Kd.R_slice HO202.out
     (first | subst eo15 | (injection eo15 with f1_ f2_ f3_; have f4_ := f1_.symm; have f5_ := f3_.symm; clear f1_ f2_ f3_; subst f4_; subst f5_))
     obtain ⟨Ao16, co16, eo16⟩ := Kd.R_slice HO205.out
     (first | subst eo16 | (injection eo16 with f1_ f2_ f3_; have f4_ := f1_.symm; have f5_ := f3_.symm; clear f1_ f2_ f3_; subst f4_; subst f5_))
     refine goes_ Try.func75 (by kernel_rfl) rfl #[.slice Ao15 y200.length co15, .slice Ao16 t203.length co16] (by rfl) rfl rfl (by first | (simp only [List.map_toArray, List.map_cons, List.map_nil, Act.eval, Array.getD_eq_getD_getElem?, Option.getD_some, e13, e16]; done) | (simp only [List.map_toArray, List.map_cons, List.map_nil, Act.eval, Array.getD_eq_getD_getElem?, Option.getD_some, e13, e16]; rfl)) ?_
     with_reducible refine (spec_l01Join.calls k _ _ y200 _ _ t203 t206 _ ?side1 ?side2 ?side3 ?side4 A5.out).mono ?_
     (case side1 => exact rc_ HO202)
     (case side2 => exact (Kd.R_reads' HO202.out).2.1)
     (case side3 => exact rc_ HO205)
     (case side4 => exact (Kd.R_reads' HO205.out).2.1)
     rintro e w17 ⟨v207, rfl, ho0, hb⟩
     refine ⟨_, rfl, ?_⟩
     have HO208 := Aside0.mk (Kd.R_lower (Kd.R_new' (Kd.R_new' ho0 (Kd.R_lt (hd_ HO202))) (Kd.R_lt (hd_ HO205))) (bz_ HB))
     replace HO202 := Aside0.mk (Kd.R_elder' (hd_ HO202) (Kd.R_base ho0) hb)
     replace HO205 := Aside0.mk (Kd.R_elder' (hd_ HO205) (Kd.R_base ho0) hb)
     replace BK198 := Aside0.mk (bb_ BK198 hb)
     replace HB := Aside0.mk (bt_ HB hb)
     (try clear hb)
     (try clear hb2)
     (try clear hk)
     (try clear hi)
     (try clear ho0)
     refine hK.out _ _ ⟨.slice Ao15 y200.length co15, .slice Ao16 t203.length co16, v207, m8_, (by rw [ha.out]; exact putSel_upk 5 hb_ rfl rfl rfl), (by (with_reducible repeat (first | refine blk_drewN ?_ _ | refine blk_drew ?_ | refine blk_alloc ?_ _)); exact BK198.out), (by repeat (first | (with_reducible first | exact HB.out | apply below_alloc | apply pw_below_drewN | apply below_drew1 | refine below_set ?_ GE198.out) | exact HB.out)), fun _ => (by (with_reducible repeat (first | apply Kd.R_alloc | apply Kd.R_drewN | apply Kd.R_drew)); first | exact HO202.out | exact Kd.R_mono HO202.out (fun _ _ => trivial)), fun _ => (by (with_reducible repeat (first | apply Kd.R_alloc | apply Kd.R_drewN | apply Kd.R_drew)); first | exact HO205.out | exact Kd.R_mono HO205.out (fun _ _ => trivial)), fun _ => (by (with_reducible repeat (first | apply Kd.R_alloc | apply Kd.R_drewN | apply Kd.R_drew)); exact Kd.R_mono HO208.out (fun _ hk => by first | exact ⟨hk.1.2, hk.2⟩ | grind)), fun h0_ => absurd ((hoff 8 (by kernel_rfl)).symm.trans h0_) (by decide)⟩
    refine steps_cons ?_ ?_
    ·rintro b a w' ⟨v201, v204, v207, m8_, ha, Q_BK198, Q_HB, Q_HO202, Q_HO205, Q_HO208, Q_X8_⟩ hb_ hon hoff
     refine ⟨_, rfl, fun K hK => ?_⟩
     have e17 : a.tmps[17]? = some (v207) := by rw [ha]; exact putSel_on (e := (7, 17, v207)) 5 rfl rfl (hon 7 (by kernel_rfl)) rfl
     replace ha := Aside0.mk ha
     have BK198 := Aside0.mk Q_BK198
     have HB := Aside0.mk Q_HB
     have HO202 := Aside0.mk (Q_HO202 (hon 3 (by kernel_rfl)))
     have HO205 := Aside0.mk (Q_HO205 (hon 6 (by kernel_rfl)))
     have HO208 := Aside0.mk (Q_HO208 (hon 7 (by kernel_rfl)))
     refine value_ (w1 := w') (v := v207) (by rfl) rfl ?_ ?_
     ·go_simp
      (try simp only [i64_w])
      try rfl
     refine hK.out _ _ ⟨v201, v204, v207, (v207), (by rw [ha.out]; exact putSel_upk 6 hb_ rfl rfl rfl), Q_BK198, Q_HB, Q_HO202, Q_HO205, Q_HO208, fun _ => rfl⟩
    exact steps_nil
   rintro b a w17 hall ⟨v201, v204, v207, m8_, ha, Q_BK198, Q_HB, Q_HO202, Q_HO205, Q_HO208, Q_X8_⟩
   clear BK198 HB
   have hb1_ := hall 1 (by kernel_rfl)
   have hb2_ := hall 2 (by kernel_rfl)
   have hb3_ := hall 3 (by kernel_rfl)
   have hb5_ := hall 5 (by kernel_rfl)
   have hb6_ := hall 6 (by kernel_rfl)
   have hb7_ := hall 7 (by kernel_rfl)
   have hb8_ := hall 8 (by kernel_rfl)
   subst ha
   obtain rfl := (Q_X8_ hb8_).symm
   simp only [putSel, hb1_, hb2_, hb3_, hb5_, hb6_, hb7_, hb8_, if_true, Act.put, List.setIfInBounds_toArray, List.set_cons_zero, List.set_cons_succ]
   have BK198 := Aside0.mk Q_BK198
   clear Q_BK198
   have HB := Aside0.mk Q_HB
   clear Q_HB
   have HO202 := Aside0.mk (Q_HO202 hb3_)
   clear Q_HO202
   have HO205 := Aside0.mk (Q_HO205 hb6_)
   clear Q_HO205
   have HO208 := Aside0.mk (Q_HO208 hb7_)
   clear Q_HO208
   clear hall hb1_ hb2_ hb3_ hb5_ hb6_ hb7_ hb8_
   have hcz18_0 := cz_ BK198 0 (.int .i64 a0_0)
   have hcz18_1 := cz_ BK198 1 (.int .i64 a0_1)
   have hcz18_2 := cz_ BK198 2 (.int .i64 a0_2)
   have hcz18_3 := cz_ BK198 3 (.slice A0_3 l0_3.length c0_3)
   have hcz18_4 := cz_ BK198 4 (.slice A0_4 l0_4.length c0_4)
   have hfz18_0 := blk_frozen BK198.out 0
   have hfz18_1 := blk_frozen BK198.out 1
   have hfz18_2 := blk_frozen BK198.out 2
   have hfz18_3 := blk_frozen BK198.out 3
   have hfz18_4 := blk_frozen BK198.out 4
   try go_wp2_with (first | ((with_reducible refine gate_dst (N := 23) rfl ?_); refine Kd.R_lit (Kd.int .u8) _ 5 ?hg (N := 23) ?hd (xs := ([((l0_3.length : Int)) % 256] : List Int)) (inner := [.int .u8 (((l0_3.length : Int)) % 256)]) (ok := fun _ => True) (okp := fun _ => True) ?hr ?hp (fun _ hk => hk) trivial (Below.refl _ _) (Nat.le_refl _) (by simp) ?_; (case hd => rfl); (case hg => rfl); (case hr => first | (go_simp; done) | (go_simp; rfl)); (case hp => exact (Reps.one (show Kd.M (Kd.int .u8) _ _ _ (((l0_3.length : Int)) % 256) [.int .u8 (((l0_3.length : Int)) % 256)] from rfl) (Reps.none _ _))); intro v210 w19 ho20 hb hg_ hnew_; clear hg_ hnew_; (first | rw [← Ny209.out] at ho20 | (simp only [Int.reduceToNat] at ho20; rw [← Ny209.out] at ho20)); have HO211 := Aside0.mk (Kd.R_lower (Kd.R_new' (Kd.R_new' (Kd.R_new' ho20 (Kd.R_lt (hd_ HO202))) (Kd.R_lt (hd_ HO205))) (Kd.R_lt (hd_ HO208))) (bz_ HB)); replace HO202 := Aside0.mk (Kd.R_elder' (hd_ HO202) (Kd.R_base ho20) hb); replace HO205 := Aside0.mk (Kd.R_elder' (hd_ HO205) (Kd.R_base ho20) hb); replace HO208 := Aside0.mk (Kd.R_elder' (hd_ HO208) (Kd.R_base ho20) hb); replace BK198 := Aside0.mk (bb_ BK198 hb); replace HB := Aside0.mk (bt_ HB hb); clear hb ho20; obtain ⟨Ao22, co22, eo22⟩ := Kd.R_slice HO211.out; subst eo22) | ((with_reducible refine gate_builtin (b := .append) (xs := #[.tmp 18, .tmp 23]) rfl ?_); at_builtin; refine Kd.R_append_rows (Kd.int .u8) (w0 := w) w.heap.size rfl (.tmp 18) (.tmp 23) 62 5 (.int .u8 0) 1 rfl Try.underlying62 info5 rfl (by decide) (by omega) v207 t206 y209 _ _ _ (fun _ => True) (fun _ => False) rfl rfl ?aO ?aR (fun _ _ h => h) (fun _ h => h.elim) ?aF ?aB ?aS ?aL ?_; (case aR => exact rc_ HO211); (case aB => exact (by repeat (first | (with_reducible first | exact HB.out | apply below_alloc | apply pw_below_drewN | apply below_drew1 | refine below_set ?_ GE198.out) | exact HB.out))); (case aF => exact (fun _ _ => trivial)); (case aO => exact (by (with_reducible repeat (first | apply Kd.R_alloc | apply Kd.R_drewN | apply Kd.R_drew)); exact Kd.R_mono HO208.out (fun _ _ => trivial))); (case aS => exact (bz_ HB)); (case aL => have := LMc6.out; omega); intro v213 w21 ho hb hg hat; rw [← Ny212.out] at ho; have HO214 := Aside0.mk ho; replace BK198 := Aside0.mk (blk_grown (g := gb198) (o := .cells #[.int .i64 a0_0, .int .i64 a0_1, .int .i64 a0_2, .slice A0_3 l0_3.length c0_3, .slice A0_4 l0_4.length c0_4] 31 (0, 0)) (by (with_reducible repeat (first | refine blk_drewN ?_ _ | refine blk_drew ?_ | refine blk_alloc ?_ _)); exact BK198.out) hg (Kd.R_ne HO208.out BK198.out (by decide))); replace HO202 := Aside0.mk trivial; replace HO205 := Aside0.mk trivial; replace HO211 := Aside0.mk trivial; replace HB := Aside0.mk (hb); clear HO208; clear ho hb hg hat))
   go_loopg [3, 4] k (fun kq v3 v4 w' => ∃ (x3_1 : List Int) (x4_1 : Int), v4 = .int .i64 x4_1 ∧ Aside0 (spec_LsaBytes.l0 kq x3_1 x4_1 a0_0 a0_1 a0_2 l0_3 l0_4 = some r) ∧ Aside0 (kq ≤ k) ∧ Aside0 (Kd.R (Kd.int .u8) 5 w' w.heap.size (fun _ => True) v3 x3_1) ∧ Aside0 (w'.heap[gb198]? = some (.cells #[.int .i64 a0_0, .int .i64 a0_1, .int .i64 a0_2, (.slice A0_3 l0_3.length c0_3), (.slice A0_4 l0_4.length c0_4)] 31 (0, 0))) ∧ Aside0 (Below w.heap.size w w'))
   case atStart => exact ⟨(y212), (0), (by first | rfl | (simp; done) | (simp [*]; done)), H', ⟨Nat.le_refl _⟩, ⟨by (with_reducible repeat (first | apply Kd.R_alloc | apply Kd.R_drewN | apply Kd.R_drew)); exact Kd.R_mono HO214.out (fun _ hk => trivial)⟩, ⟨by (with_reducible repeat (first | refine blk_drewN ?_ _ | refine blk_drew ?_ | refine blk_alloc ?_ _)); exact BK198.out⟩, ⟨by repeat (first | (with_reducible first | exact HB.out | apply below_alloc | apply pw_below_drewN | apply below_drew1 | refine below_set ?_ GE198.out) | exact HB.out)⟩⟩
   case round =>
    clear H'
    try clear c1
    try clear c2
    try clear p2
    try clear c3
    try clear c4
    try clear c6
    try clear c7
    try clear c14
    try clear hcz18_0
    try clear hcz18_1
    try clear hcz18_2
    try clear hcz18_3
    try clear hcz18_4
    try clear hcz8_0
    try clear hcz8_1
    try clear hcz8_2
    try clear hcz8_3
    try clear hcz8_4
    try clear hfz18_0
    try clear hfz18_1
    try clear hfz18_2
    try clear hfz18_3
    try clear hfz18_4
    try clear hfz8_0
    try clear hfz8_1
    try clear hfz8_2
    try clear hfz8_3
    try clear hfz8_4
    obtain ⟨x3_1, x4_1, rfl, HA, HK1, HO_3, BK198, HB⟩ := hrel
    cases gk with
    | zero => exact absurd HA.out (by simp [spec_LsaBytes.l0])
    | succ k1 =>
     have H := HA.out
     clear HA
     simp only [spec_LsaBytes.l0] at H
     by_cases c23 : x4_1 < (l0_3.length : Int)
     ·rw [if_pos c23] at H
      have c23b0 : decide (x4_1 < (l0_3.length : Int)) = true := decide_eq_true c23
      clear c23
      by_cases c24 : 0 ≤ x4_1
      ·rw [if_pos c24] at H
       have c24b0 : decide (0 ≤ x4_1) = true := decide_eq_true c24
       clear c24
       obtain ⟨y216, hy216⟩ : ∃ y_ : List Int, y_ = (([((rd_T70 l0_3 x4_1).f0) % 256] : List Int)) := ⟨_, rfl⟩
       replace H : (if x3_1.length + y216.length < 140737488355328 then ((spec_l05Wide.f k1 ((rd_T70 l0_3 x4_1).f1) 2).bind fun t223 => ((spec_l01Join.f k1 (x3_1 ++ y216) t223).bind fun t226 => (spec_LsaBytes.l0 k1 t226 (wrap64 (x4_1 + 1)) a0_0 a0_1 a0_2 l0_3 l0_4))) else (none)) = some r := by first | (rw [hy216]; with_reducible exact H) | (have H2_ := (Option.bind_some _ _).symm.trans H; rw [hy216]; with_reducible exact H2_) | (have H2_ := (Option.bind_some _ _).symm.trans H; with_reducible exact H2_) | with_reducible exact H | (rw [hy216]; exact H) | exact H
       have Ny216 := Aside0.mk hy216
       clear hy216
       by_cases c25 : x3_1.length + y216.length < 140737488355328
       ·rw [if_pos c25] at H
        have LMc25 := Aside0.mk c25
        clear c25
        obtain ⟨y219, hy219⟩ : ∃ y_ : List Int, y_ = (x3_1 ++ y216) := ⟨_, rfl⟩
        replace H : ((spec_l05Wide.f k1 ((rd_T70 l0_3 x4_1).f1) 2).bind fun t223 => ((spec_l01Join.f k1 y219 t223).bind fun t226 => (spec_LsaBytes.l0 k1 t226 (wrap64 (x4_1 + 1)) a0_0 a0_1 a0_2 l0_3 l0_4))) = some r := by first | (rw [hy219]; with_reducible exact H) | (have H2_ := (Option.bind_some _ _).symm.trans H; rw [hy219]; with_reducible exact H2_) | (have H2_ := (Option.bind_some _ _).symm.trans H; with_reducible exact H2_) | with_reducible exact H | (rw [hy219]; exact H) | exact H
        have Ny219 := Aside0.mk hy219
        clear hy219
        replace H := Option.bind_eq_some_iff.mp H
        obtain ⟨t223, A260, H⟩ := H
        have A26 := Aside0.mk A260
        clear A260
        replace H := Option.bind_eq_some_iff.mp H
        obtain ⟨t226, A270, H⟩ := H
        have A27 := Aside0.mk A270
        clear A270
        have H' := Aside0.mk H
        clear H
        have hcz28_0 := cz_ BK198 0 (.int .i64 a0_0)
        have hcz28_1 := cz_ BK198 1 (.int .i64 a0_1)
        have hcz28_2 := cz_ BK198 2 (.int .i64 a0_2)
        have hcz28_3 := cz_ BK198 3 (.slice A0_3 l0_3.length c0_3)
        have hcz28_4 := cz_ BK198 4 (.slice A0_4 l0_4.length c0_4)
        have hfz28_0 := blk_frozen BK198.out 0
        have hfz28_1 := blk_frozen BK198.out 1
        have hfz28_2 := blk_frozen BK198.out 2
        have hfz28_3 := blk_frozen BK198.out 3
        have hfz28_4 := blk_frozen BK198.out 4
        try go_wp2
        replace HO_3 := Aside0.mk (Kd.R_drew HO_3.out)
        replace BK198 := Aside0.mk (blk_drew BK198.out)
        replace HB := Aside0.mk (below_drew1 HB.out)
        have p215 : 0 ≤ (x4_1 : Int) := of_decide_eq_true (by first | (with_reducible assumption) | assumption)
        have q215 : x4_1 < (l0_3.length : Int) := of_decide_eq_true (by first | (with_reducible assumption) | assumption)
        obtain ⟨ad215, e215, hx215_0, hx215_1⟩ := at_T70 HR0_3.out x4_1 p215 q215
        have hw215_1 := hx215_1
        have hw215_0 := hx215_0
        cases e215
        replace hx215_0 := (HB.out.cell (World.block_lt_of_cell? w _ hx215_0)).trans hx215_0
        replace hx215_1 := (HB.out.cell (World.block_lt_of_cell? w _ hx215_1)).trans hx215_1
        replace p215 := eq_true p215
        replace q215 := eq_true q215
        have p222 : 0 ≤ (x4_1 : Int) := of_decide_eq_true (by first | (with_reducible assumption) | assumption)
        have q222 : x4_1 < (l0_3.length : Int) := of_decide_eq_true (by first | (with_reducible assumption) | assumption)
        obtain ⟨ad222, e222, hx222_0, hx222_1⟩ := at_T70 HR0_3.out x4_1 p222 q222
        have hw222_1 := hx222_1
        have hw222_0 := hx222_0
        obtain rfl : ad215 = ad222 := (by injection e222)
        replace hx222_0 := (HB.out.cell (World.block_lt_of_cell? w _ hx222_0)).trans hx222_0
        replace hx222_1 := (HB.out.cell (World.block_lt_of_cell? w _ hx222_1)).trans hx222_1
        replace p222 := eq_true p222
        replace q222 := eq_true q222
        refine start_ (n := 19) (S := fun w' => w'.cell? ⟨gb198, 0, none⟩ = some (.int .i64 a0_0) ∧ w'.cell? ⟨gb198, 1, none⟩ = some (.int .i64 a0_1) ∧ w'.cell? ⟨gb198, 2, none⟩ = some (.int .i64 a0_2) ∧ w'.cell? ⟨gb198, 3, none⟩ = some (.slice (some ad215) l0_3.length c0_3) ∧ w'.cell? ⟨gb198, 4, none⟩ = some (.slice A0_4 l0_4.length c0_4) ∧ w'.cell? (ad215.add ((x4_1).toNat * 2)) = some (.int .i64 ((rd_T70 l0_3 x4_1).f0)) ∧ w'.cell? ⟨(ad215.add ((x4_1).toNat * 2)).block, (ad215.add ((x4_1).toNat * 2)).off + 1, none⟩ = some (.int .i64 ((rd_T70 l0_3 x4_1).f1)) ∧ w'.cell? (ad215.add ((x4_1).toNat * 2)) = some (.int .i64 ((rd_T70 l0_3 x4_1).f0)) ∧ w'.cell? ⟨(ad215.add ((x4_1).toNat * 2)).block, (ad215.add ((x4_1).toNat * 2)).off + 1, none⟩ = some (.int .i64 ((rd_T70 l0_3 x4_1).f1))) (ds := []) ba6_3 (by kernel_rfl) rfl rfl ⟨(blk_cell BK198.out 0).trans rfl, (blk_cell BK198.out 1).trans rfl, (blk_cell BK198.out 2).trans rfl, (blk_cell BK198.out 3).trans rfl, (blk_cell BK198.out 4).trans rfl, (hc_ HB hw215_0), (hc_ HB hw215_1), (hc_ HB hw222_0), (hc_ HB hw222_1)⟩ (fun hHeld => ?_); refine with_tabW spec_LsaBytes.tab8 spec_LsaBytes.bits8 (fun HT_ HW_ => ?_)
        generalize wr.drew = w29 at HO_3 BK198 HB hx215_0 hx215_1 hx222_0 hx222_1 hHeld ⊢
        refine pz_ 0 32 ba6_4 HT_ ?_
        refine pz_ 1 33 ba6_5 HT_ ?_
        refine pz_ 3 35 ba6_6 HT_ ?_
        refine pz_ 10 42 ba6_7 HT_ ?_
        refine pz_ 12 44 ba6_8 HT_ ?_
        refine pt_ 2 34 ba6_9 HT_ HW_ hHeld ?_
        refine pz_ 4 36 ba6_10 HT_ ?_
        refine pz_ 5 37 ba6_11 HT_ ?_
        refine pt_ 6 38 ba6_12 HT_ HW_ hHeld ?_
        refine pz_ 7 39 ba6_13 HT_ ?_
        refine pt_ 11 43 ba6_14 HT_ HW_ hHeld ?_
        refine pz_ 13 45 ba6_15 HT_ ?_
        refine pz_ 14 46 ba6_16 HT_ ?_
        refine pt_ 15 47 ba6_17 HT_ HW_ hHeld ?_
        refine one_ (i := 8) (N := some 40) ba6_18 rfl rfl (one_of HT_.out (by kernel_rfl)) (by decide) (fun K hK => ?_)
        refine Kd.R_lit_step (Kd.int .u8) _ 5 ?hg (N := 40) ?hd (xs := ([((rd_T70 l0_3 x4_1).f0) % 256] : List Int)) (inner := [.int .u8 (((rd_T70 l0_3 x4_1).f0) % 256)]) (ok := fun _ => True) (okp := fun _ => True) ?hr ?hp (fun _ hk => hk) trivial (Below.refl _ _) (Nat.le_refl _) (by simp) ?_; (case hd => rfl); (case hg => rfl); (case hr => first | (go_simp; done) | (go_simp; rfl)); (case hp => exact (Reps.one (show Kd.M (Kd.int .u8) _ _ _ (((rd_T70 l0_3 x4_1).f0) % 256) [.int .u8 (((rd_T70 l0_3 x4_1).f0) % 256)] from rfl) (Reps.none _ _)))
        intro v217 w30 ho31 hb hg_ hnew_
        clear hg_ hnew_
        (first | rw [← Ny216.out] at ho31 | (simp only [Int.reduceToNat] at ho31; rw [← Ny216.out] at ho31))
        have HO218 := Aside0.mk (Kd.R_lower (Kd.R_new' ho31 (Kd.R_lt (hd_ HO_3))) (bz_ HB))
        replace HO_3 := Aside0.mk (Kd.R_elder' (hd_ HO_3) (Kd.R_base ho31) hb)
        replace BK198 := Aside0.mk (bb_ BK198 hb)
        replace HB := Aside0.mk (bt_ HB hb)
        clear hb ho31
        obtain ⟨Ao33, co33, eo33⟩ := Kd.R_slice HO218.out
        (first | subst eo33 | (injection eo33 with f1_ f2_ f3_; have f4_ := f1_.symm; have f5_ := f3_.symm; clear f1_ f2_ f3_; subst f4_; subst f5_))
        refine hK.out _ _ ⟨(blk_cell BK198.out 0).trans rfl, (blk_cell BK198.out 1).trans rfl, (blk_cell BK198.out 2).trans rfl, (blk_cell BK198.out 3).trans rfl, (blk_cell BK198.out 4).trans rfl, (hc_ HB hw215_0), (hc_ HB hw215_1), (hc_ HB hw222_0), (hc_ HB hw222_1)⟩ (fun hHeld => ?_)
        clear hK K
        refine nz_ 40 ?_
        refine one_ (i := 9) (N := some 41) ba6_19 rfl rfl (one_of HT_.out (by kernel_rfl)) (by decide) (fun K hK => ?_)
        refine Kd.R_append_rows_step (Kd.int .u8) (w0 := w) w.heap.size (by rfl) (.tmp 32) (.tmp 40) 62 5 (.int .u8 0) 1 rfl Try.underlying62 info5 rfl (by decide) (by omega) u3 x3_1 y216 _ _ _ (fun k_ => some k_ ≠ (.slice Ao33 y216.length co33 : Value).ownBlock) (fun _ => False) rfl rfl ?aO ?aR (fun _ _ h => h) (fun _ h => h.elim) ?aF ?aB ?aS ?aL ?_
        (case aR => exact rc_ HO218)
        (case aB => exact (by repeat (first | (with_reducible first | exact HB.out | apply below_alloc | apply pw_below_drewN | apply below_drew1 | refine below_set ?_ GE198.out) | exact HB.out)))
        (case aF => exact (fun k_ hk => Kd.fresh' (Kd.R_lt (hd_ HO218)) k_ hk))
        (case aO => exact (by (with_reducible repeat (first | apply Kd.R_alloc | apply Kd.R_drewN | apply Kd.R_drew)); exact Kd.R_mono HO_3.out (fun _ hk => hk.2)))
        (case aS => exact (bz_ HB))
        (case aL => have := LMc25.out; omega)
        intro v220 w32 ho hb hg hat
        rw [← Ny219.out] at ho
        have HO221 := Aside0.mk ho
        replace BK198 := Aside0.mk (blk_grown (g := gb198) (o := .cells #[.int .i64 a0_0, .int .i64 a0_1, .int .i64 a0_2, .slice (some ad215) l0_3.length c0_3, .slice A0_4 l0_4.length c0_4] 31 (0, 0)) (by (with_reducible repeat (first | refine blk_drewN ?_ _ | refine blk_drew ?_ | refine blk_alloc ?_ _)); exact BK198.out) hg (Kd.R_ne HO_3.out BK198.out (by decide)))
        replace HO218 := Aside0.mk (Kd.R_after (ok := (fun _ => True)) (hd_ HO218) hg hat)
        replace HB := Aside0.mk (hb)
        clear HO_3
        clear ho hb hg hat
        refine hK.out _ _ ⟨(blk_cell BK198.out 0).trans rfl, (blk_cell BK198.out 1).trans rfl, (blk_cell BK198.out 2).trans rfl, (blk_cell BK198.out 3).trans rfl, (blk_cell BK198.out 4).trans rfl, (hc_ HB hw215_0), (hc_ HB hw215_1), (hc_ HB hw222_0), (hc_ HB hw222_1)⟩ (fun hHeld => ?_)
        clear hK K
        refine nz_ 41 ?_
        refine one_ (i := 16) (N := some 48) ba6_20 rfl rfl (one_of HT_.out (by kernel_rfl)) (by decide) (fun K hK => ?_)
        refine gz_ Try.func76 #[.int .i64 ((rd_T70 l0_3 x4_1).f1), .int .i64 2] ?_
        with_reducible refine (spec_l05Wide.calls k1 ((rd_T70 l0_3 x4_1).f1) 2 t223 _ A26.out).mono ?_
        rintro e w34 ⟨v224, rfl, ho0, hb⟩
        refine ⟨_, rfl, ?_⟩
        have HO225 := Aside0.mk (Kd.R_lower (Kd.R_new' (Kd.R_new' ho0 (Kd.R_lt (hd_ HO218))) (Kd.R_lt (hd_ HO221))) (bz_ HB))
        replace HO218 := Aside0.mk (Kd.R_elder' (hd_ HO218) (Kd.R_base ho0) hb)
        replace HO221 := Aside0.mk (Kd.R_elder' (hd_ HO221) (Kd.R_base ho0) hb)
        replace BK198 := Aside0.mk (bb_ BK198 hb)
        replace HB := Aside0.mk (bt_ HB hb)
        (try clear hb)
        (try clear hb2)
        (try clear hk)
        (try clear hi)
        (try clear ho0)
        obtain ⟨Ao35, co35, eo35⟩ := Kd.R_slice HO221.out
        (first | subst eo35 | (injection eo35 with f1_ f2_ f3_; have f4_ := f1_.symm; have f5_ := f3_.symm; clear f1_ f2_ f3_; subst f4_; subst f5_))
        obtain ⟨Ao36, co36, eo36⟩ := Kd.R_slice HO225.out
        (first | subst eo36 | (injection eo36 with f1_ f2_ f3_; have f4_ := f1_.symm; have f5_ := f3_.symm; clear f1_ f2_ f3_; subst f4_; subst f5_))
        refine hK.out _ _ ⟨(blk_cell BK198.out 0).trans rfl, (blk_cell BK198.out 1).trans rfl, (blk_cell BK198.out 2).trans rfl, (blk_cell BK198.out 3).trans rfl, (blk_cell BK198.out 4).trans rfl, (hc_ HB hw215_0), (hc_ HB hw215_1), (hc_ HB hw222_0), (hc_ HB hw222_1)⟩ (fun hHeld => ?_)
        clear hK K
        refine nz_ 48 ?_
        refine one_ (i := 17) (N := some 49) ba6_21 rfl rfl (one_of HT_.out (by kernel_rfl)) (by decide) (fun K hK => ?_)
        refine gz_ Try.func75 #[.slice Ao35 y219.length co35, .slice Ao36 t223.length co36] ?_
        with_reducible refine (spec_l01Join.calls k1 _ _ y219 _ _ t223 t226 _ ?side1 ?side2 ?side3 ?side4 A27.out).mono ?_
        (case side1 => exact rc_ HO221)
        (case side2 => exact (Kd.R_reads' HO221.out).2.1)
        (case side3 => exact rc_ HO225)
        (case side4 => exact (Kd.R_reads' HO225.out).2.1)
        rintro e w37 ⟨v227, rfl, ho0, hb⟩
        refine ⟨_, rfl, ?_⟩
        have HO228 := Aside0.mk (Kd.R_lower (Kd.R_new' (Kd.R_new' (Kd.R_new' ho0 (Kd.R_lt (hd_ HO218))) (Kd.R_lt (hd_ HO221))) (Kd.R_lt (hd_ HO225))) (bz_ HB))
        replace HO218 := Aside0.mk (Kd.R_elder' (hd_ HO218) (Kd.R_base ho0) hb)
        replace HO221 := Aside0.mk (Kd.R_elder' (hd_ HO221) (Kd.R_base ho0) hb)
        replace HO225 := Aside0.mk (Kd.R_elder' (hd_ HO225) (Kd.R_base ho0) hb)
        replace BK198 := Aside0.mk (bb_ BK198 hb)
        replace HB := Aside0.mk (bt_ HB hb)
        (try clear hb)
        (try clear hb2)
        (try clear hk)
        (try clear hi)
        (try clear ho0)
        refine hK.out _ _ ⟨(blk_cell BK198.out 0).trans rfl, (blk_cell BK198.out 1).trans rfl, (blk_cell BK198.out 2).trans rfl, (blk_cell BK198.out 3).trans rfl, (blk_cell BK198.out 4).trans rfl, (hc_ HB hw215_0), (hc_ HB hw215_1), (hc_ HB hw222_0), (hc_ HB hw222_1)⟩ (fun hHeld => ?_)
        clear hK K
        refine nz_ 49 ?_
        refine pz_ 18 3 ba6_22 HT_ ?_
        refine done_ (done_of HT_.out (by kernel_rfl)) ?_
        try go_wp2
        go_roundg k1
        case measure => have := HK1.out; omega
        case rel => exact ⟨(t226), (wrap64 (x4_1 + 1)), (by first | rfl | (simp; done) | (simp [*]; done)), H', ⟨by have := HK1.out; omega⟩, ⟨by (with_reducible repeat (first | apply Kd.R_alloc | apply Kd.R_drewN | apply Kd.R_drew)); exact Kd.R_mono HO228.out (fun _ hk => trivial)⟩, ⟨by (with_reducible repeat (first | refine blk_drewN ?_ _ | refine blk_drew ?_ | refine blk_alloc ?_ _)); exact BK198.out⟩, ⟨by repeat (first | (with_reducible first | exact HB.out | apply below_alloc | apply pw_below_drewN | apply below_drew1 | refine below_set ?_ GE198.out) | exact HB.out)⟩⟩
       ·rw [if_neg c25] at H
        exact absurd H (by simp)
      ·rw [if_neg c24] at H
       exact absurd H (by simp)
     ·rw [if_neg c23] at H
      have c23b0 : decide (x4_1 < (l0_3.length : Int)) = false := decide_eq_false c23
      clear c23
      obtain ⟨y229, hy229⟩ : ∃ y_ : List Int, y_ = (([((l0_4.length : Int)) % 256] : List Int)) := ⟨_, rfl⟩
      replace H : (if x3_1.length + y229.length < 140737488355328 then (spec_LsaBytes.l1 k1 (x3_1 ++ y229) 0 a0_0 a0_1 a0_2 l0_3 l0_4) else (none)) = some r := by first | (rw [hy229]; with_reducible exact H) | (have H2_ := (Option.bind_some _ _).symm.trans H; rw [hy229]; with_reducible exact H2_) | (have H2_ := (Option.bind_some _ _).symm.trans H; with_reducible exact H2_) | with_reducible exact H | (rw [hy229]; exact H) | exact H
      have Ny229 := Aside0.mk hy229
      clear hy229
      by_cases c38 : x3_1.length + y229.length < 140737488355328
      ·rw [if_pos c38] at H
       have LMc38 := Aside0.mk c38
       clear c38
       obtain ⟨y232, hy232⟩ : ∃ y_ : List Int, y_ = (x3_1 ++ y229) := ⟨_, rfl⟩
       replace H : (spec_LsaBytes.l1 k1 y232 0 a0_0 a0_1 a0_2 l0_3 l0_4) = some r := by first | (rw [hy232]; with_reducible exact H) | (have H2_ := (Option.bind_some _ _).symm.trans H; rw [hy232]; with_reducible exact H2_) | (have H2_ := (Option.bind_some _ _).symm.trans H; with_reducible exact H2_) | with_reducible exact H | (rw [hy232]; exact H) | exact H
       have Ny232 := Aside0.mk hy232
       clear hy232
       have H' := Aside0.mk H
       clear H
       have hcz39_0 := cz_ BK198 0 (.int .i64 a0_0)
       have hcz39_1 := cz_ BK198 1 (.int .i64 a0_1)
       have hcz39_2 := cz_ BK198 2 (.int .i64 a0_2)
       have hcz39_3 := cz_ BK198 3 (.slice A0_3 l0_3.length c0_3)
       have hcz39_4 := cz_ BK198 4 (.slice A0_4 l0_4.length c0_4)
       have hfz39_0 := blk_frozen BK198.out 0
       have hfz39_1 := blk_frozen BK198.out 1
       have hfz39_2 := blk_frozen BK198.out 2
       have hfz39_3 := blk_frozen BK198.out 3
       have hfz39_4 := blk_frozen BK198.out 4
       go_wp2_with (first | ((with_reducible refine gate_dst (N := 55) rfl ?_); refine Kd.R_lit (Kd.int .u8) _ 5 ?hg (N := 55) ?hd (xs := ([((l0_4.length : Int)) % 256] : List Int)) (inner := [.int .u8 (((l0_4.length : Int)) % 256)]) (ok := fun _ => True) (okp := fun _ => True) ?hr ?hp (fun _ hk => hk) trivial (Below.refl _ _) (Nat.le_refl _) (by simp) ?_; (case hd => rfl); (case hg => rfl); (case hr => first | (go_simp; done) | (go_simp; rfl)); (case hp => exact (Reps.one (show Kd.M (Kd.int .u8) _ _ _ (((l0_4.length : Int)) % 256) [.int .u8 (((l0_4.length : Int)) % 256)] from rfl) (Reps.none _ _))); intro v230 w40 ho41 hb hg_ hnew_; clear hg_ hnew_; (first | rw [← Ny229.out] at ho41 | (simp only [Int.reduceToNat] at ho41; rw [← Ny229.out] at ho41)); have HO231 := Aside0.mk (Kd.R_lower (Kd.R_new' ho41 (Kd.R_lt (hd_ HO_3))) (bz_ HB)); replace HO_3 := Aside0.mk (Kd.R_elder' (hd_ HO_3) (Kd.R_base ho41) hb); replace BK198 := Aside0.mk (bb_ BK198 hb); replace HB := Aside0.mk (bt_ HB hb); clear hb ho41; obtain ⟨Ao43, co43, eo43⟩ := Kd.R_slice HO231.out; subst eo43) | ((with_reducible refine gate_builtin (b := .append) (xs := #[.tmp 50, .tmp 55]) rfl ?_); at_builtin; refine Kd.R_append_rows (Kd.int .u8) (w0 := w) w.heap.size rfl (.tmp 50) (.tmp 55) 62 5 (.int .u8 0) 1 rfl Try.underlying62 info5 rfl (by decide) (by omega) u3 x3_1 y229 _ _ _ (fun k_ => some k_ ≠ (.slice Ao43 y229.length co43 : Value).ownBlock) (fun _ => False) rfl rfl ?aO ?aR (fun _ _ h => h) (fun _ h => h.elim) ?aF ?aB ?aS ?aL ?_; (case aR => exact rc_ HO231); (case aB => exact (by repeat (first | (with_reducible first | exact HB.out | apply below_alloc | apply pw_below_drewN | apply below_drew1 | refine below_set ?_ GE198.out) | exact HB.out))); (case aF => exact (fun k_ hk => Kd.fresh' (Kd.R_lt (hd_ HO231)) k_ hk)); (case aO => exact (by (with_reducible repeat (first | apply Kd.R_alloc | apply Kd.R_drewN | apply Kd.R_drew)); exact Kd.R_mono HO_3.out (fun _ hk => hk.2))); (case aS => exact (bz_ HB)); (case aL => have := LMc38.out; omega); intro v233 w42 ho hb hg hat; rw [← Ny232.out] at ho; have HO234 := Aside0.mk ho; replace BK198 := Aside0.mk (blk_grown (g := gb198) (o := .cells #[.int .i64 a0_0, .int .i64 a0_1, .int .i64 a0_2, .slice A0_3 l0_3.length c0_3, .slice A0_4 l0_4.length c0_4] 31 (0, 0)) (by (with_reducible repeat (first | refine blk_drewN ?_ _ | refine blk_drew ?_ | refine blk_alloc ?_ _)); exact BK198.out) hg (Kd.R_ne HO_3.out BK198.out (by decide))); replace HO231 := Aside0.mk (Kd.R_after (ok := (fun _ => True)) (hd_ HO231) hg hat); replace HB := Aside0.mk (hb); clear HO_3; clear ho hb hg hat))
       go_loopg [3, 5] k1 (fun kq v3 v5 w' => ∃ (x3_2 : List Int) (x5_2 : Int), v5 = .int .i64 x5_2 ∧ Aside0 (spec_LsaBytes.l1 kq x3_2 x5_2 a0_0 a0_1 a0_2 l0_3 l0_4 = some r) ∧ Aside0 (kq ≤ k1) ∧ Aside0 (Kd.R (Kd.int .u8) 5 w' w.heap.size (fun _ => True) v3 x3_2) ∧ Aside0 (w'.heap[gb198]? = some (.cells #[.int .i64 a0_0, .int .i64 a0_1, .int .i64 a0_2, (.slice A0_3 l0_3.length c0_3), (.slice A0_4 l0_4.length c0_4)] 31 (0, 0))) ∧ Aside0 (Below w.heap.size w w'))
       case atStart => exact ⟨(y232), (0), (by first | rfl | (simp; done) | (simp [*]; done)), H', ⟨Nat.le_refl _⟩, ⟨by (with_reducible repeat (first | apply Kd.R_alloc | apply Kd.R_drewN | apply Kd.R_drew)); exact Kd.R_mono HO234.out (fun _ hk => trivial)⟩, ⟨by (with_reducible repeat (first | refine blk_drewN ?_ _ | refine blk_drew ?_ | refine blk_alloc ?_ _)); exact BK198.out⟩, ⟨by repeat (first | (with_reducible first | exact HB.out | apply below_alloc | apply pw_below_drewN | apply below_drew1 | refine below_set ?_ GE198.out) | exact HB.out)⟩⟩
       case round =>
        clear H'
        try clear c1
        try clear c2
        try clear p2
        try clear q2
        try clear hx2
        try clear c3
        try clear c4
        try clear c6
        try clear p6
        try clear c7
        try clear c14
        try clear p21
        try clear q21
        try clear hx21
        try clear p22
        try clear q22
        try clear hx22
        try clear c23
        try clear c23b0
        try clear c24
        try clear c24b0
        try clear c25
        try clear c38
        try clear hcz18_0
        try clear hcz18_1
        try clear hcz18_2
        try clear hcz18_3
        try clear hcz18_4
        try clear hcz28_0
        try clear hcz28_1
        try clear hcz28_2
        try clear hcz28_3
        try clear hcz28_4
        try clear hcz39_0
        try clear hcz39_1
        try clear hcz39_2
        try clear hcz39_3
        try clear hcz39_4
        try clear hcz8_0
        try clear hcz8_1
        try clear hcz8_2
        try clear hcz8_3
        try clear hcz8_4
        try clear hfz18_0
        try clear hfz18_1
        try clear hfz18_2
        try clear hfz18_3
        try clear hfz18_4
        try clear hfz28_0
        try clear hfz28_1
        try clear hfz28_2
        try clear hfz28_3
        try clear hfz28_4
        try clear hfz39_0
        try clear hfz39_1
        try clear hfz39_2
        try clear hfz39_3
        try clear hfz39_4
        try clear hfz8_0
        try clear hfz8_1
        try clear hfz8_2
        try clear hfz8_3
        try clear hfz8_4
        try clear hx215_0
        try clear hx215_1
        try clear hx222_0
        try clear hx222_1
        try clear p2
        try clear p215
        try clear p222
        try clear q215
        try clear q222
        obtain ⟨x3_2, x5_2, rfl, HA, HK2, HO_3, BK198, HB⟩ := hrel
        cases gk with
        | zero => exact absurd HA.out (by simp [spec_LsaBytes.l1])
        | succ k2 =>
         have H := HA.out
         clear HA
         simp only [spec_LsaBytes.l1] at H
         by_cases c44 : x5_2 < (l0_4.length : Int)
         ·rw [if_pos c44] at H
          have c44b0 : decide (x5_2 < (l0_4.length : Int)) = true := decide_eq_true c44
          clear c44
          by_cases c45 : 0 ≤ x5_2
          ·rw [if_pos c45] at H
           have c45b0 : decide (0 ≤ x5_2) = true := decide_eq_true c45
           clear c45
           replace H := Option.bind_eq_some_iff.mp H
           obtain ⟨t237, A460, H⟩ := H
           have A46 := Aside0.mk A460
           clear A460
           replace H := Option.bind_eq_some_iff.mp H
           obtain ⟨t240, A470, H⟩ := H
           have A47 := Aside0.mk A470
           clear A470
           obtain ⟨y243, hy243⟩ : ∃ y_ : List Int, y_ = (([((rd_T74 l0_4 x5_2).f0.f1) % 256] : List Int)) := ⟨_, rfl⟩
           replace H : (if t240.length + y243.length < 140737488355328 then ((spec_l05Wide.f k2 ((rd_T74 l0_4 x5_2).f1) 2).bind fun t249 => ((spec_l01Join.f k2 (t240 ++ y243) t249).bind fun t252 => (spec_LsaBytes.l1 k2 t252 (wrap64 (x5_2 + 1)) a0_0 a0_1 a0_2 l0_3 l0_4))) else (none)) = some r := by first | (rw [hy243]; with_reducible exact H) | (have H2_ := (Option.bind_some _ _).symm.trans H; rw [hy243]; with_reducible exact H2_) | (have H2_ := (Option.bind_some _ _).symm.trans H; with_reducible exact H2_) | with_reducible exact H | (rw [hy243]; exact H) | exact H
           have Ny243 := Aside0.mk hy243
           clear hy243
           by_cases c48 : t240.length + y243.length < 140737488355328
           ·rw [if_pos c48] at H
            have LMc48 := Aside0.mk c48
            clear c48
            obtain ⟨y246, hy246⟩ : ∃ y_ : List Int, y_ = (t240 ++ y243) := ⟨_, rfl⟩
            replace H : ((spec_l05Wide.f k2 ((rd_T74 l0_4 x5_2).f1) 2).bind fun t249 => ((spec_l01Join.f k2 y246 t249).bind fun t252 => (spec_LsaBytes.l1 k2 t252 (wrap64 (x5_2 + 1)) a0_0 a0_1 a0_2 l0_3 l0_4))) = some r := by first | (rw [hy246]; with_reducible exact H) | (have H2_ := (Option.bind_some _ _).symm.trans H; rw [hy246]; with_reducible exact H2_) | (have H2_ := (Option.bind_some _ _).symm.trans H; with_reducible exact H2_) | with_reducible exact H | (rw [hy246]; exact H) | exact H
            have Ny246 := Aside0.mk hy246
            clear hy246
            replace H := Option.bind_eq_some_iff.mp H
            obtain ⟨t249, A490, H⟩ := H
            have A49 := Aside0.mk A490
            clear A490
            replace H := Option.bind_eq_some_iff.mp H
            obtain ⟨t252, A500, H⟩ := H
            have A50 := Aside0.mk A500
            clear A500
            have H' := Aside0.mk H
            clear H
            have hcz51_0 := cz_ BK198 0 (.int .i64 a0_0)
            have hcz51_1 := cz_ BK198 1 (.int .i64 a0_1)
            have hcz51_2 := cz_ BK198 2 (.int .i64 a0_2)
            have hcz51_3 := cz_ BK198 3 (.slice A0_3 l0_3.length c0_3)
            have hcz51_4 := cz_ BK198 4 (.slice A0_4 l0_4.length c0_4)
            have hfz51_0 := blk_frozen BK198.out 0
            have hfz51_1 := blk_frozen BK198.out 1
            have hfz51_2 := blk_frozen BK198.out 2
            have hfz51_3 := blk_frozen BK198.out 3
            have hfz51_4 := blk_frozen BK198.out 4
            have p235 : 0 ≤ (x5_2 : Int) := of_decide_eq_true (by first | (with_reducible assumption) | assumption)
            have q235 : x5_2 < (l0_4.length : Int) := of_decide_eq_true (by first | (with_reducible assumption) | assumption)
            obtain ⟨ad235, e235, hx235_0, hx235_1, hx235_2⟩ := at_T74 HR0_4.out x5_2 p235 q235
            cases e235
            replace hx235_0 := (HB.out.cell (World.block_lt_of_cell? w _ hx235_0)).trans hx235_0
            replace hx235_1 := (HB.out.cell (World.block_lt_of_cell? w _ hx235_1)).trans hx235_1
            replace hx235_2 := (HB.out.cell (World.block_lt_of_cell? w _ hx235_2)).trans hx235_2
            replace p235 := eq_true p235
            replace q235 := eq_true q235
            try go_wp2_with (first | ((with_reducible refine gate_dst (N := 6) rfl ?_); refine box_event ?hg (N := 6) ?hd (cs := #[.int .i64 0, .int .i64 0, .int .i64 0]) (t := 74) ?hr ?_; (case hd => rfl); (case hg => rfl); (case hr => first | (go_simp; done) | (go_simp; rfl)); intro gb236 hg w52 hbox hb; have BK236 := Aside0.mk hbox; have GW236 := ge_ HB hg; have GE236 := ge_ HB hg; have NB198_236 := nl_ BK198 hg; have NB236_198 := ng_ BK198 hg; replace HO_3 := rb_ HO_3 hb; replace HB := Aside0.mk (bt_ HB hb); replace BK198 := Aside0.mk (bb_ BK198 hb); clear hb hbox hg; have hnb53 := NB236_198.out; have hnc53 := NB198_236.out; have hcz54_0 := cz_ BK236 0 (.int .i64 0); have hcz54_1 := cz_ BK236 1 (.int .i64 0); have hcz54_2 := cz_ BK236 2 (.int .i64 0); have hfz54_0 := blk_frozen BK236.out 0; have hfz54_1 := blk_frozen BK236.out 1; have hfz54_2 := blk_frozen BK236.out 2; obtain ⟨Ao55, co55, eo55⟩ := Kd.R_slice HO_3.out; subst eo55))
            have n0_ : Aside0 (Kd.R (Kd.int .u8) 5 (((w52.setCell ⟨gb236, 0, none⟩ (.int .i64 ((rd_T74 l0_4 x5_2).f0.f0))).setCell ⟨gb236, 1, none⟩ (.int .i64 ((rd_T74 l0_4 x5_2).f0.f1))).setCell ⟨gb236, 2, none⟩ (.int .i64 ((rd_T74 l0_4 x5_2).f1))) w.heap.size (fun _ => True) (.slice Ao55 x3_2.length co55) x3_2) := ⟨by (with_reducible repeat (first | apply Kd.R_alloc | apply Kd.R_drewN | apply Kd.R_drew)); exact Kd.R_mono (Kd.R_far (p := ⟨gb236, 2, none⟩) (Kd.R_far (p := ⟨gb236, 1, none⟩) (Kd.R_far (p := ⟨gb236, 0, none⟩) (Kd.R_types HO_3.out BK236.out (by decide)) (fun _ hk => hk.2) (.int .i64 ((rd_T74 l0_4 x5_2).f0.f0))) (fun _ hk => hk.2) (.int .i64 ((rd_T74 l0_4 x5_2).f0.f1))) (fun _ hk => hk.2) (.int .i64 ((rd_T74 l0_4 x5_2).f1))) (fun _ hk => trivial)⟩
            have n1_ : Aside0 ((((w52.setCell ⟨gb236, 0, none⟩ (.int .i64 ((rd_T74 l0_4 x5_2).f0.f0))).setCell ⟨gb236, 1, none⟩ (.int .i64 ((rd_T74 l0_4 x5_2).f0.f1))).setCell ⟨gb236, 2, none⟩ (.int .i64 ((rd_T74 l0_4 x5_2).f1))).heap[gb198]? = some (.cells #[.int .i64 a0_0, .int .i64 a0_1, .int .i64 a0_2, .slice A0_3 l0_3.length c0_3, .slice (some ad235) l0_4.length c0_4] 31 (0, 0))) := ⟨by (with_reducible repeat (first | refine blk_drewN ?_ _ | refine blk_drew ?_ | refine blk_alloc ?_ _)); refine blk_far ?_ NB198_236.out _; (with_reducible repeat (first | refine blk_drewN ?_ _ | refine blk_drew ?_ | refine blk_alloc ?_ _)); refine blk_far ?_ NB198_236.out _; (with_reducible repeat (first | refine blk_drewN ?_ _ | refine blk_drew ?_ | refine blk_alloc ?_ _)); refine blk_far ?_ NB198_236.out _; (with_reducible repeat (first | refine blk_drewN ?_ _ | refine blk_drew ?_ | refine blk_alloc ?_ _)); exact BK198.out⟩
            have n2_ : Aside0 ((((w52.setCell ⟨gb236, 0, none⟩ (.int .i64 ((rd_T74 l0_4 x5_2).f0.f0))).setCell ⟨gb236, 1, none⟩ (.int .i64 ((rd_T74 l0_4 x5_2).f0.f1))).setCell ⟨gb236, 2, none⟩ (.int .i64 ((rd_T74 l0_4 x5_2).f1))).heap[gb236]? = some (.cells #[.int .i64 ((rd_T74 l0_4 x5_2).f0.f0), .int .i64 ((rd_T74 l0_4 x5_2).f0.f1), .int .i64 ((rd_T74 l0_4 x5_2).f1)] 74 (0, 0))) := ⟨by (with_reducible repeat (first | refine blk_drewN ?_ _ | refine blk_drew ?_ | refine blk_alloc ?_ _)); refine blk_put (cs := #[.int .i64 ((rd_T74 l0_4 x5_2).f0.f0), .int .i64 ((rd_T74 l0_4 x5_2).f0.f1), .int .i64 0]) ?_ 2 _ rfl; (with_reducible repeat (first | refine blk_drewN ?_ _ | refine blk_drew ?_ | refine blk_alloc ?_ _)); refine blk_put (cs := #[.int .i64 ((rd_T74 l0_4 x5_2).f0.f0), .int .i64 0, .int .i64 0]) ?_ 1 _ rfl; (with_reducible repeat (first | refine blk_drewN ?_ _ | refine blk_drew ?_ | refine blk_alloc ?_ _)); refine blk_put (cs := #[.int .i64 0, .int .i64 0, .int .i64 0]) ?_ 0 _ rfl; (with_reducible repeat (first | refine blk_drewN ?_ _ | refine blk_drew ?_ | refine blk_alloc ?_ _)); exact BK236.out⟩
            have n3_ : Aside0 (Below w.heap.size w (((w52.setCell ⟨gb236, 0, none⟩ (.int .i64 ((rd_T74 l0_4 x5_2).f0.f0))).setCell ⟨gb236, 1, none⟩ (.int .i64 ((rd_T74 l0_4 x5_2).f0.f1))).setCell ⟨gb236, 2, none⟩ (.int .i64 ((rd_T74 l0_4 x5_2).f1)))) := ⟨by repeat (first | (with_reducible first | exact HB.out | apply below_alloc | apply pw_below_drewN | apply below_drew1 | refine below_set ?_ GE198.out | refine below_set ?_ GE236.out) | exact HB.out)⟩
            (try clear HO_3)
            (try clear BK198)
            (try clear BK236)
            (try clear HB)
            generalize (((w52.setCell ⟨gb236, 0, none⟩ (.int .i64 ((rd_T74 l0_4 x5_2).f0.f0))).setCell ⟨gb236, 1, none⟩ (.int .i64 ((rd_T74 l0_4 x5_2).f0.f1))).setCell ⟨gb236, 2, none⟩ (.int .i64 ((rd_T74 l0_4 x5_2).f1))) = w56 at n0_ n1_ n2_ n3_ ⊢
            have HO_3 := n0_
            have BK198 := n1_
            have BK236 := n2_
            have HB := n3_
            clear n0_ n1_ n2_ n3_
            replace HO_3 := Aside0.mk (Kd.R_drew HO_3.out)
            replace BK198 := Aside0.mk (blk_drew BK198.out)
            replace BK236 := Aside0.mk (blk_drew BK236.out)
            replace HB := Aside0.mk (below_drew1 HB.out)
            refine start_ (n := 17) (S := fun w' => w'.cell? ⟨gb236, 0, none⟩ = some (.int .i64 ((rd_T74 l0_4 x5_2).f0.f0)) ∧ w'.cell? ⟨gb236, 1, none⟩ = some (.int .i64 ((rd_T74 l0_4 x5_2).f0.f1)) ∧ w'.cell? ⟨gb236, 2, none⟩ = some (.int .i64 ((rd_T74 l0_4 x5_2).f1))) (ds := []) ba6_23 (by kernel_rfl) rfl rfl ⟨(blk_cell BK236.out 0).trans rfl, (blk_cell BK236.out 1).trans rfl, (blk_cell BK236.out 2).trans rfl⟩ (fun hHeld => ?_); refine with_tabW spec_LsaBytes.tab14 spec_LsaBytes.bits14 (fun HT_ HW_ => ?_)
            generalize w56.drew = w57 at HO_3 BK198 BK236 HB hHeld ⊢
            refine pz_ 0 69 ba6_24 HT_ ?_
            refine pz_ 1 70 ba6_25 HT_ ?_
            refine pz_ 2 71 ba6_26 HT_ ?_
            refine pz_ 6 75 ba6_27 HT_ ?_
            refine pz_ 7 76 ba6_28 HT_ ?_
            refine pz_ 12 81 ba6_29 HT_ ?_
            refine pt_ 3 72 ba6_30 HT_ HW_ hHeld ?_
            refine pt_ 8 77 ba6_31 HT_ HW_ hHeld ?_
            refine pz_ 9 78 ba6_32 HT_ ?_
            refine pt_ 13 82 ba6_33 HT_ HW_ hHeld ?_
            refine join_ (σ := Value × Value × Value) 4 ba6_34 (fun s_ => [(73, s_.1), (74, s_.2.1), (79, s_.2.2)]) (fun s_ w' => (w'.cell? ⟨gb236, 0, none⟩ = some (.int .i64 ((rd_T74 l0_4 x5_2).f0.f0)) ∧ w'.cell? ⟨gb236, 1, none⟩ = some (.int .i64 ((rd_T74 l0_4 x5_2).f0.f1)) ∧ w'.cell? ⟨gb236, 2, none⟩ = some (.int .i64 ((rd_T74 l0_4 x5_2).f1))) ∧ (Kd.R (Kd.int .u8) 5 w' w.heap.size (fun k_ => some k_ ≠ (s_.2.1 : Value).ownBlock ∧ some k_ ≠ (s_.2.2 : Value).ownBlock ∧ some k_ ≠ (.slice Ao55 x3_2.length co55 : Value).ownBlock) s_.1 t237) ∧ (Kd.R (Kd.int .u8) 5 w' w.heap.size (fun k_ => some k_ ≠ (s_.1 : Value).ownBlock ∧ some k_ ≠ (s_.2.2 : Value).ownBlock ∧ some k_ ≠ (.slice Ao55 x3_2.length co55 : Value).ownBlock) s_.2.1 t240) ∧ (Kd.R (Kd.int .u8) 5 w' w.heap.size (fun k_ => some k_ ≠ (s_.1 : Value).ownBlock ∧ some k_ ≠ (s_.2.1 : Value).ownBlock ∧ some k_ ≠ (.slice Ao55 x3_2.length co55 : Value).ownBlock) s_.2.2 y243) ∧ (Kd.R (Kd.int .u8) 5 w' w.heap.size (fun k_ => some k_ ≠ (s_.1 : Value).ownBlock ∧ some k_ ≠ (s_.2.1 : Value).ownBlock ∧ some k_ ≠ (s_.2.2 : Value).ownBlock) (.slice Ao55 x3_2.length co55) x3_2) ∧ (w'.heap[gb198]? = some (.cells #[.int .i64 a0_0, .int .i64 a0_1, .int .i64 a0_2, .slice A0_3 l0_3.length c0_3, .slice (some ad235) l0_4.length c0_4] 31 (0, 0))) ∧ (w'.heap[gb236]? = some (.cells #[.int .i64 ((rd_T74 l0_4 x5_2).f0.f0), .int .i64 ((rd_T74 l0_4 x5_2).f0.f1), .int .i64 ((rd_T74 l0_4 x5_2).f1)] 74 (0, 0))) ∧ (Below w.heap.size w w')) ?_ ?_
            rotate_left
            ·intro hCont
             refine two_ (i := 4) (j := 10) (Ni := some 73) (Nj := some 79) ba6_35 ba6_36 rfl rfl rfl rfl (two_of HT_.out (by kernel_rfl)) (by decide) (by decide) (fun K hK => ?_) (fun K hK => ?_)
             ·skip
              refine gz_ Try.func76 #[.int .i64 ((rd_T74 l0_4 x5_2).f0.f0), .int .i64 2] ?_
              with_reducible refine (spec_l05Wide.calls k2 ((rd_T74 l0_4 x5_2).f0.f0) 2 t237 _ A46.out).mono ?_
              rintro e w58 ⟨v238, rfl, ho0, hb⟩
              refine ⟨_, rfl, ?_⟩
              have HO239 := Aside0.mk (Kd.R_lower (Kd.R_new' ho0 (Kd.R_lt (hd_ HO_3))) (bz_ HB))
              replace HO_3 := Aside0.mk (Kd.R_elder' (hd_ HO_3) (Kd.R_base ho0) hb)
              replace BK198 := Aside0.mk (bb_ BK198 hb)
              replace BK236 := Aside0.mk (bb_ BK236 hb)
              replace HB := Aside0.mk (bt_ HB hb)
              (try clear hb)
              (try clear hb2)
              (try clear hk)
              (try clear hi)
              (try clear ho0)
              obtain ⟨Ao59, co59, eo59⟩ := Kd.R_slice HO239.out
              (first | subst eo59 | (injection eo59 with f1_ f2_ f3_; have f4_ := f1_.symm; have f5_ := f3_.symm; clear f1_ f2_ f3_; subst f4_; subst f5_))
              refine hK.out _ _ ⟨(blk_cell BK236.out 0).trans rfl, (blk_cell BK236.out 1).trans rfl, (blk_cell BK236.out 2).trans rfl⟩ (fun hHeld => ?_)
              clear hK K
              refine nz_ 73 ?_
              refine two_ (i := 5) (j := 10) (Ni := some 74) (Nj := some 79) ba6_37 ba6_38 rfl rfl rfl rfl (two_of HT_.out (by kernel_rfl)) (by decide) (by decide) (fun K hK => ?_) (fun K hK => ?_)
              ·skip
               refine gz_ Try.func75 #[.slice Ao55 x3_2.length co55, .slice Ao59 t237.length co59] ?_
               with_reducible refine (spec_l01Join.calls k2 _ _ x3_2 _ _ t237 t240 _ ?side1 ?side2 ?side3 ?side4 A47.out).mono ?_
               (case side1 => exact rc_ HO_3)
               (case side2 => exact (Kd.R_reads' HO_3.out).2.1)
               (case side3 => exact rc_ HO239)
               (case side4 => exact (Kd.R_reads' HO239.out).2.1)
               rintro e w60 ⟨v241, rfl, ho0, hb⟩
               refine ⟨_, rfl, ?_⟩
               have HO242 := Aside0.mk (Kd.R_lower (Kd.R_new' (Kd.R_new' ho0 (Kd.R_lt (hd_ HO_3))) (Kd.R_lt (hd_ HO239))) (bz_ HB))
               replace HO_3 := Aside0.mk (Kd.R_elder' (hd_ HO_3) (Kd.R_base ho0) hb)
               replace HO239 := Aside0.mk (Kd.R_elder' (hd_ HO239) (Kd.R_base ho0) hb)
               replace BK198 := Aside0.mk (bb_ BK198 hb)
               replace BK236 := Aside0.mk (bb_ BK236 hb)
               replace HB := Aside0.mk (bt_ HB hb)
               (try clear hb)
               (try clear hb2)
               (try clear hk)
               (try clear hi)
               (try clear ho0)
               refine hK.out _ _ ⟨(blk_cell BK236.out 0).trans rfl, (blk_cell BK236.out 1).trans rfl, (blk_cell BK236.out 2).trans rfl⟩ (fun hHeld => ?_)
               clear hK K
               refine nz_ 74 ?_
               refine one_ (i := 10) (N := some 79) ba6_34 rfl rfl (one_of HT_.out (by kernel_rfl)) (by decide) (fun K hK => ?_)
               refine Kd.R_lit_step (Kd.int .u8) _ 5 ?hg (N := 79) ?hd (xs := ([((rd_T74 l0_4 x5_2).f0.f1) % 256] : List Int)) (inner := [.int .u8 (((rd_T74 l0_4 x5_2).f0.f1) % 256)]) (ok := fun _ => True) (okp := fun _ => True) ?hr ?hp (fun _ hk => hk) trivial (Below.refl _ _) (Nat.le_refl _) (by simp) ?_; (case hd => rfl); (case hg => rfl); (case hr => first | (go_simp; done) | (go_simp; rfl)); (case hp => exact (Reps.one (show Kd.M (Kd.int .u8) _ _ _ (((rd_T74 l0_4 x5_2).f0.f1) % 256) [.int .u8 (((rd_T74 l0_4 x5_2).f0.f1) % 256)] from rfl) (Reps.none _ _)))
               intro v244 w61 ho62 hb hg_ hnew_
               clear hg_ hnew_
               (first | rw [← Ny243.out] at ho62 | (simp only [Int.reduceToNat] at ho62; rw [← Ny243.out] at ho62))
               have HO245 := Aside0.mk (Kd.R_lower (Kd.R_new' (Kd.R_new' (Kd.R_new' ho62 (Kd.R_lt (hd_ HO_3))) (Kd.R_lt (hd_ HO239))) (Kd.R_lt (hd_ HO242))) (bz_ HB))
               replace HO_3 := Aside0.mk (Kd.R_elder' (hd_ HO_3) (Kd.R_base ho62) hb)
               replace HO239 := Aside0.mk (Kd.R_elder' (hd_ HO239) (Kd.R_base ho62) hb)
               replace HO242 := Aside0.mk (Kd.R_elder' (hd_ HO242) (Kd.R_base ho62) hb)
               replace BK198 := Aside0.mk (bb_ BK198 hb)
               replace BK236 := Aside0.mk (bb_ BK236 hb)
               replace HB := Aside0.mk (bt_ HB hb)
               clear hb ho62
               refine hK.out _ _ ⟨(blk_cell BK236.out 0).trans rfl, (blk_cell BK236.out 1).trans rfl, (blk_cell BK236.out 2).trans rfl⟩ (fun hHeld => ?_)
               clear hK K
               refine nz_ 79 ?_
               exact norm_ (by simp only [putAll, Act.put, List.setIfInBounds_toArray, List.set_cons_zero, List.set_cons_succ]) (hCont (.slice Ao59 t237.length co59, v241, v244) _ ⟨hHeld, (by (with_reducible repeat (first | apply Kd.R_alloc | apply Kd.R_drewN | apply Kd.R_drew)); exact Kd.R_mono HO239.out (fun _ hk => ⟨hk.1.2, ⟨hk.2, hk.1.1.2⟩⟩)), (by (with_reducible repeat (first | apply Kd.R_alloc | apply Kd.R_drewN | apply Kd.R_drew)); exact Kd.R_mono HO242.out (fun _ hk => ⟨hk.1.2, ⟨hk.2, hk.1.1.2⟩⟩)), (by (with_reducible repeat (first | apply Kd.R_alloc | apply Kd.R_drewN | apply Kd.R_drew)); exact Kd.R_mono HO245.out (fun _ hk => ⟨hk.1.2, ⟨hk.2, hk.1.1.2⟩⟩)), (by (with_reducible repeat (first | apply Kd.R_alloc | apply Kd.R_drewN | apply Kd.R_drew)); exact Kd.R_mono HO_3.out (fun _ hk => ⟨hk.1.1.2, ⟨hk.1.2, hk.2⟩⟩)), (by (with_reducible repeat (first | refine blk_drewN ?_ _ | refine blk_drew ?_ | refine blk_alloc ?_ _)); exact BK198.out), (by (with_reducible repeat (first | refine blk_drewN ?_ _ | refine blk_drew ?_ | refine blk_alloc ?_ _)); exact BK236.out), (by repeat (first | (with_reducible first | exact HB.out | apply below_alloc | apply pw_below_drewN | apply below_drew1 | refine below_set ?_ GE198.out | refine below_set ?_ GE236.out) | exact HB.out))⟩)
              ·skip
               refine Kd.R_lit_step (Kd.int .u8) _ 5 ?hg (N := 79) ?hd (xs := ([((rd_T74 l0_4 x5_2).f0.f1) % 256] : List Int)) (inner := [.int .u8 (((rd_T74 l0_4 x5_2).f0.f1) % 256)]) (ok := fun _ => True) (okp := fun _ => True) ?hr ?hp (fun _ hk => hk) trivial (Below.refl _ _) (Nat.le_refl _) (by simp) ?_; (case hd => rfl); (case hg => rfl); (case hr => first | (go_simp; done) | (go_simp; rfl)); (case hp => exact (Reps.one (show Kd.M (Kd.int .u8) _ _ _ (((rd_T74 l0_4 x5_2).f0.f1) % 256) [.int .u8 (((rd_T74 l0_4 x5_2).f0.f1) % 256)] from rfl) (Reps.none _ _)))
               intro v244 w59 ho60 hb hg_ hnew_
               clear hg_ hnew_
               (first | rw [← Ny243.out] at ho60 | (simp only [Int.reduceToNat] at ho60; rw [← Ny243.out] at ho60))
               have HO245 := Aside0.mk (Kd.R_lower (Kd.R_new' (Kd.R_new' ho60 (Kd.R_lt (hd_ HO_3))) (Kd.R_lt (hd_ HO239))) (bz_ HB))
               replace HO_3 := Aside0.mk (Kd.R_elder' (hd_ HO_3) (Kd.R_base ho60) hb)
               replace HO239 := Aside0.mk (Kd.R_elder' (hd_ HO239) (Kd.R_base ho60) hb)
               replace BK198 := Aside0.mk (bb_ BK198 hb)
               replace BK236 := Aside0.mk (bb_ BK236 hb)
               replace HB := Aside0.mk (bt_ HB hb)
               clear hb ho60
               obtain ⟨Ao61, co61, eo61⟩ := Kd.R_slice HO239.out
               (first | subst eo61 | (injection eo61 with f1_ f2_ f3_; have f4_ := f1_.symm; have f5_ := f3_.symm; clear f1_ f2_ f3_; subst f4_; subst f5_))
               refine hK.out _ _ ⟨(blk_cell BK236.out 0).trans rfl, (blk_cell BK236.out 1).trans rfl, (blk_cell BK236.out 2).trans rfl⟩ (fun hHeld => ?_)
               clear hK K
               refine nz_ 79 ?_
               refine one_ (i := 5) (N := some 74) ba6_34 rfl rfl (one_of HT_.out (by kernel_rfl)) (by decide) (fun K hK => ?_)
               refine gz_ Try.func75 #[.slice Ao55 x3_2.length co55, .slice Ao61 t237.length co61] ?_
               with_reducible refine (spec_l01Join.calls k2 _ _ x3_2 _ _ t237 t240 _ ?side1 ?side2 ?side3 ?side4 A47.out).mono ?_
               (case side1 => exact rc_ HO_3)
               (case side2 => exact (Kd.R_reads' HO_3.out).2.1)
               (case side3 => exact rc_ HO239)
               (case side4 => exact (Kd.R_reads' HO239.out).2.1)
               rintro e w62 ⟨v241, rfl, ho0, hb⟩
               refine ⟨_, rfl, ?_⟩
               have HO242 := Aside0.mk (Kd.R_lower (Kd.R_new' (Kd.R_new' (Kd.R_new' ho0 (Kd.R_lt (hd_ HO_3))) (Kd.R_lt (hd_ HO239))) (Kd.R_lt (hd_ HO245))) (bz_ HB))
               replace HO_3 := Aside0.mk (Kd.R_elder' (hd_ HO_3) (Kd.R_base ho0) hb)
               replace HO239 := Aside0.mk (Kd.R_elder' (hd_ HO239) (Kd.R_base ho0) hb)
               replace HO245 := Aside0.mk (Kd.R_elder' (hd_ HO245) (Kd.R_base ho0) hb)
               replace BK198 := Aside0.mk (bb_ BK198 hb)
               replace BK236 := Aside0.mk (bb_ BK236 hb)
               replace HB := Aside0.mk (bt_ HB hb)
               (try clear hb)
               (try clear hb2)
               (try clear hk)
               (try clear hi)
               (try clear ho0)
               refine hK.out _ _ ⟨(blk_cell BK236.out 0).trans rfl, (blk_cell BK236.out 1).trans rfl, (blk_cell BK236.out 2).trans rfl⟩ (fun hHeld => ?_)
               clear hK K
               refine nz_ 74 ?_
               exact norm_ (by simp only [putAll, Act.put, List.setIfInBounds_toArray, List.set_cons_zero, List.set_cons_succ]) (hCont (.slice Ao61 t237.length co61, v241, v244) _ ⟨hHeld, (by (with_reducible repeat (first | apply Kd.R_alloc | apply Kd.R_drewN | apply Kd.R_drew)); exact Kd.R_mono HO239.out (fun _ hk => ⟨hk.2, ⟨hk.1.2, hk.1.1.2⟩⟩)), (by (with_reducible repeat (first | apply Kd.R_alloc | apply Kd.R_drewN | apply Kd.R_drew)); exact Kd.R_mono HO242.out (fun _ hk => ⟨hk.1.2, ⟨hk.2, hk.1.1.2⟩⟩)), (by (with_reducible repeat (first | apply Kd.R_alloc | apply Kd.R_drewN | apply Kd.R_drew)); exact Kd.R_mono HO245.out (fun _ hk => ⟨hk.1.2, ⟨hk.2, hk.1.1.2⟩⟩)), (by (with_reducible repeat (first | apply Kd.R_alloc | apply Kd.R_drewN | apply Kd.R_drew)); exact Kd.R_mono HO_3.out (fun _ hk => ⟨hk.1.1.2, ⟨hk.2, hk.1.2⟩⟩)), (by (with_reducible repeat (first | refine blk_drewN ?_ _ | refine blk_drew ?_ | refine blk_alloc ?_ _)); exact BK198.out), (by (with_reducible repeat (first | refine blk_drewN ?_ _ | refine blk_drew ?_ | refine blk_alloc ?_ _)); exact BK236.out), (by repeat (first | (with_reducible first | exact HB.out | apply below_alloc | apply pw_below_drewN | apply below_drew1 | refine below_set ?_ GE198.out | refine below_set ?_ GE236.out) | exact HB.out))⟩)
             ·skip
              refine Kd.R_lit_step (Kd.int .u8) _ 5 ?hg (N := 79) ?hd (xs := ([((rd_T74 l0_4 x5_2).f0.f1) % 256] : List Int)) (inner := [.int .u8 (((rd_T74 l0_4 x5_2).f0.f1) % 256)]) (ok := fun _ => True) (okp := fun _ => True) ?hr ?hp (fun _ hk => hk) trivial (Below.refl _ _) (Nat.le_refl _) (by simp) ?_; (case hd => rfl); (case hg => rfl); (case hr => first | (go_simp; done) | (go_simp; rfl)); (case hp => exact (Reps.one (show Kd.M (Kd.int .u8) _ _ _ (((rd_T74 l0_4 x5_2).f0.f1) % 256) [.int .u8 (((rd_T74 l0_4 x5_2).f0.f1) % 256)] from rfl) (Reps.none _ _)))
              intro v244 w58 ho59 hb hg_ hnew_
              clear hg_ hnew_
              (first | rw [← Ny243.out] at ho59 | (simp only [Int.reduceToNat] at ho59; rw [← Ny243.out] at ho59))
              have HO245 := Aside0.mk (Kd.R_lower (Kd.R_new' ho59 (Kd.R_lt (hd_ HO_3))) (bz_ HB))
              replace HO_3 := Aside0.mk (Kd.R_elder' (hd_ HO_3) (Kd.R_base ho59) hb)
              replace BK198 := Aside0.mk (bb_ BK198 hb)
              replace BK236 := Aside0.mk (bb_ BK236 hb)
              replace HB := Aside0.mk (bt_ HB hb)
              clear hb ho59
              refine hK.out _ _ ⟨(blk_cell BK236.out 0).trans rfl, (blk_cell BK236.out 1).trans rfl, (blk_cell BK236.out 2).trans rfl⟩ (fun hHeld => ?_)
              clear hK K
              refine nz_ 79 ?_
              refine one_ (i := 4) (N := some 73) ba6_38 rfl rfl (one_of HT_.out (by kernel_rfl)) (by decide) (fun K hK => ?_)
              refine gz_ Try.func76 #[.int .i64 ((rd_T74 l0_4 x5_2).f0.f0), .int .i64 2] ?_
              with_reducible refine (spec_l05Wide.calls k2 ((rd_T74 l0_4 x5_2).f0.f0) 2 t237 _ A46.out).mono ?_
              rintro e w60 ⟨v238, rfl, ho0, hb⟩
              refine ⟨_, rfl, ?_⟩
              have HO239 := Aside0.mk (Kd.R_lower (Kd.R_new' (Kd.R_new' ho0 (Kd.R_lt (hd_ HO_3))) (Kd.R_lt (hd_ HO245))) (bz_ HB))
              replace HO_3 := Aside0.mk (Kd.R_elder' (hd_ HO_3) (Kd.R_base ho0) hb)
              replace HO245 := Aside0.mk (Kd.R_elder' (hd_ HO245) (Kd.R_base ho0) hb)
              replace BK198 := Aside0.mk (bb_ BK198 hb)
              replace BK236 := Aside0.mk (bb_ BK236 hb)
              replace HB := Aside0.mk (bt_ HB hb)
              (try clear hb)
              (try clear hb2)
              (try clear hk)
              (try clear hi)
              (try clear ho0)
              obtain ⟨Ao61, co61, eo61⟩ := Kd.R_slice HO239.out
              (first | subst eo61 | (injection eo61 with f1_ f2_ f3_; have f4_ := f1_.symm; have f5_ := f3_.symm; clear f1_ f2_ f3_; subst f4_; subst f5_))
              refine hK.out _ _ ⟨(blk_cell BK236.out 0).trans rfl, (blk_cell BK236.out 1).trans rfl, (blk_cell BK236.out 2).trans rfl⟩ (fun hHeld => ?_)
              clear hK K
              refine nz_ 73 ?_
              refine one_ (i := 5) (N := some 74) ba6_34 rfl rfl (one_of HT_.out (by kernel_rfl)) (by decide) (fun K hK => ?_)
              refine gz_ Try.func75 #[.slice Ao55 x3_2.length co55, .slice Ao61 t237.length co61] ?_
              with_reducible refine (spec_l01Join.calls k2 _ _ x3_2 _ _ t237 t240 _ ?side1 ?side2 ?side3 ?side4 A47.out).mono ?_
              (case side1 => exact rc_ HO_3)
              (case side2 => exact (Kd.R_reads' HO_3.out).2.1)
              (case side3 => exact rc_ HO239)
              (case side4 => exact (Kd.R_reads' HO239.out).2.1)
              rintro e w62 ⟨v241, rfl, ho0, hb⟩
              refine ⟨_, rfl, ?_⟩
              have HO242 := Aside0.mk (Kd.R_lower (Kd.R_new' (Kd.R_new' (Kd.R_new' ho0 (Kd.R_lt (hd_ HO_3))) (Kd.R_lt (hd_ HO245))) (Kd.R_lt (hd_ HO239))) (bz_ HB))
              replace HO_3 := Aside0.mk (Kd.R_elder' (hd_ HO_3) (Kd.R_base ho0) hb)
              replace HO245 := Aside0.mk (Kd.R_elder' (hd_ HO245) (Kd.R_base ho0) hb)
              replace HO239 := Aside0.mk (Kd.R_elder' (hd_ HO239) (Kd.R_base ho0) hb)
              replace BK198 := Aside0.mk (bb_ BK198 hb)
              replace BK236 := Aside0.mk (bb_ BK236 hb)
              replace HB := Aside0.mk (bt_ HB hb)
              (try clear hb)
              (try clear hb2)
              (try clear hk)
              (try clear hi)
              (try clear ho0)
              refine hK.out _ _ ⟨(blk_cell BK236.out 0).trans rfl, (blk_cell BK236.out 1).trans rfl, (blk_cell BK236.out 2).trans rfl⟩ (fun hHeld => ?_)
              clear hK K
              refine nz_ 74 ?_
              exact norm_ (by simp only [putAll, Act.put, List.setIfInBounds_toArray, List.set_cons_zero, List.set_cons_succ]) (hCont (.slice Ao61 t237.length co61, v241, v244) _ ⟨hHeld, (by (with_reducible repeat (first | apply Kd.R_alloc | apply Kd.R_drewN | apply Kd.R_drew)); exact Kd.R_mono HO239.out (fun _ hk => ⟨hk.2, ⟨hk.1.2, hk.1.1.2⟩⟩)), (by (with_reducible repeat (first | apply Kd.R_alloc | apply Kd.R_drewN | apply Kd.R_drew)); exact Kd.R_mono HO242.out (fun _ hk => ⟨hk.2, ⟨hk.1.2, hk.1.1.2⟩⟩)), (by (with_reducible repeat (first | apply Kd.R_alloc | apply Kd.R_drewN | apply Kd.R_drew)); exact Kd.R_mono HO245.out (fun _ hk => ⟨hk.1.2, ⟨hk.2, hk.1.1.2⟩⟩)), (by (with_reducible repeat (first | apply Kd.R_alloc | apply Kd.R_drewN | apply Kd.R_drew)); exact Kd.R_mono HO_3.out (fun _ hk => ⟨hk.1.2, ⟨hk.2, hk.1.1.2⟩⟩)), (by (with_reducible repeat (first | refine blk_drewN ?_ _ | refine blk_drew ?_ | refine blk_alloc ?_ _)); exact BK198.out), (by (with_reducible repeat (first | refine blk_drewN ?_ _ | refine blk_drew ?_ | refine blk_alloc ?_ _)); exact BK236.out), (by repeat (first | (with_reducible first | exact HB.out | apply below_alloc | apply pw_below_drewN | apply below_drew1 | refine below_set ?_ GE198.out | refine below_set ?_ GE236.out) | exact HB.out))⟩)
            rintro ⟨v238, v241, v244⟩ w63 ⟨hS_, h0_, h1_, h2_, h3_, h4_, h5_, h6_⟩
            have HO239 : Aside0 (Kd.R (Kd.int .u8) 5 w63 w.heap.size (fun k_ => some k_ ≠ (v241 : Value).ownBlock ∧ some k_ ≠ (v244 : Value).ownBlock ∧ some k_ ≠ (.slice Ao55 x3_2.length co55 : Value).ownBlock) v238 t237) := ⟨h0_⟩
            have HO242 : Aside0 (Kd.R (Kd.int .u8) 5 w63 w.heap.size (fun k_ => some k_ ≠ (v238 : Value).ownBlock ∧ some k_ ≠ (v244 : Value).ownBlock ∧ some k_ ≠ (.slice Ao55 x3_2.length co55 : Value).ownBlock) v241 t240) := ⟨h1_⟩
            have HO245 : Aside0 (Kd.R (Kd.int .u8) 5 w63 w.heap.size (fun k_ => some k_ ≠ (v238 : Value).ownBlock ∧ some k_ ≠ (v241 : Value).ownBlock ∧ some k_ ≠ (.slice Ao55 x3_2.length co55 : Value).ownBlock) v244 y243) := ⟨h2_⟩
            replace HO_3 : Aside0 (Kd.R (Kd.int .u8) 5 w63 w.heap.size (fun k_ => some k_ ≠ (v238 : Value).ownBlock ∧ some k_ ≠ (v241 : Value).ownBlock ∧ some k_ ≠ (v244 : Value).ownBlock) (.slice Ao55 x3_2.length co55) x3_2) := ⟨h3_⟩
            replace BK198 : Aside0 (w63.heap[gb198]? = some (.cells #[.int .i64 a0_0, .int .i64 a0_1, .int .i64 a0_2, .slice A0_3 l0_3.length c0_3, .slice (some ad235) l0_4.length c0_4] 31 (0, 0))) := ⟨h4_⟩
            replace BK236 : Aside0 (w63.heap[gb236]? = some (.cells #[.int .i64 ((rd_T74 l0_4 x5_2).f0.f0), .int .i64 ((rd_T74 l0_4 x5_2).f0.f1), .int .i64 ((rd_T74 l0_4 x5_2).f1)] 74 (0, 0))) := ⟨h5_⟩
            replace HB : Aside0 (Below w.heap.size w w63) := ⟨h6_⟩
            clear h0_ h1_ h2_ h3_ h4_ h5_ h6_
            have hHeld : w63.cell? ⟨gb236, 0, none⟩ = some (.int .i64 ((rd_T74 l0_4 x5_2).f0.f0)) ∧ w63.cell? ⟨gb236, 1, none⟩ = some (.int .i64 ((rd_T74 l0_4 x5_2).f0.f1)) ∧ w63.cell? ⟨gb236, 2, none⟩ = some (.int .i64 ((rd_T74 l0_4 x5_2).f1)) := hS_
            obtain ⟨Ao65, co65, eo65⟩ := Kd.R_slice HO245.out
            (first | subst eo65 | (injection eo65 with f1_ f2_ f3_; have f4_ := f1_.symm; have f5_ := f3_.symm; clear f1_ f2_ f3_; subst f4_; subst f5_))
            refine norm_ (a' := ?_) ?_ ?_
            rotate_left; · simp only [putAll, Act.put, List.setIfInBounds_toArray, List.set_cons_zero, List.set_cons_succ]; rfl
            refine one_ (i := 11) (N := some 80) ba6_39 rfl rfl (one_of HT_.out (by kernel_rfl)) (by decide) (fun K hK => ?_)
            refine Kd.R_append_rows_step (Kd.int .u8) (w0 := w) w.heap.size (by rfl) (.tmp 74) (.tmp 79) 62 5 (.int .u8 0) 1 rfl Try.underlying62 info5 rfl (by decide) (by omega) v241 t240 y243 _ _ _ (fun k_ => some k_ ≠ (.slice Ao55 x3_2.length co55 : Value).ownBlock ∧ some k_ ≠ (v238 : Value).ownBlock ∧ some k_ ≠ (.slice Ao65 y243.length co65 : Value).ownBlock) (fun _ => False) rfl rfl ?aO ?aR (fun _ _ h => h) (fun _ h => h.elim) ?aF ?aB ?aS ?aL ?_
            (case aR => exact rc_ HO245)
            (case aB => exact (by repeat (first | (with_reducible first | exact HB.out | apply below_alloc | apply pw_below_drewN | apply below_drew1 | refine below_set ?_ GE198.out | refine below_set ?_ GE236.out) | exact HB.out)))
            (case aF => exact (fun k_ hk => ⟨Kd.fresh' (Kd.R_lt (hd_ HO_3)) k_ hk, Kd.fresh' (Kd.R_lt (hd_ HO239)) k_ hk, Kd.fresh' (Kd.R_lt (hd_ HO245)) k_ hk⟩))
            (case aO => exact (by (with_reducible repeat (first | apply Kd.R_alloc | apply Kd.R_drewN | apply Kd.R_drew)); exact Kd.R_mono HO242.out (fun _ hk => ⟨hk.2.2, ⟨hk.1, hk.2.1⟩⟩)))
            (case aS => exact (bz_ HB))
            (case aL => have := LMc48.out; omega)
            intro v247 w64 ho hb hg hat
            rw [← Ny246.out] at ho
            have HO248 := Aside0.mk ho
            replace HO_3 := Aside0.mk (Kd.R_after (ok := (fun k_ => some k_ ≠ (v238 : Value).ownBlock ∧ some k_ ≠ (.slice Ao65 y243.length co65 : Value).ownBlock)) (by (with_reducible repeat (first | apply Kd.R_alloc | apply Kd.R_drewN | apply Kd.R_drew)); exact Kd.R_mono HO_3.out (fun _ hk => ⟨⟨hk.1, hk.2.2⟩, hk.2.1⟩)) hg hat)
            replace BK198 := Aside0.mk (blk_grown (g := gb198) (o := .cells #[.int .i64 a0_0, .int .i64 a0_1, .int .i64 a0_2, .slice A0_3 l0_3.length c0_3, .slice (some ad235) l0_4.length c0_4] 31 (0, 0)) (by (with_reducible repeat (first | refine blk_drewN ?_ _ | refine blk_drew ?_ | refine blk_alloc ?_ _)); exact BK198.out) hg (Kd.R_ne HO242.out BK198.out (by decide)))
            replace BK236 := Aside0.mk (blk_grown (g := gb236) (o := .cells #[.int .i64 ((rd_T74 l0_4 x5_2).f0.f0), .int .i64 ((rd_T74 l0_4 x5_2).f0.f1), .int .i64 ((rd_T74 l0_4 x5_2).f1)] 74 (0, 0)) (by (with_reducible repeat (first | refine blk_drewN ?_ _ | refine blk_drew ?_ | refine blk_alloc ?_ _)); exact BK236.out) hg (Kd.R_ne HO242.out BK236.out (by decide)))
            replace HO239 := Aside0.mk (Kd.R_after (ok := (fun k_ => some k_ ≠ (.slice Ao55 x3_2.length co55 : Value).ownBlock ∧ some k_ ≠ (.slice Ao65 y243.length co65 : Value).ownBlock)) (by (with_reducible repeat (first | apply Kd.R_alloc | apply Kd.R_drewN | apply Kd.R_drew)); exact Kd.R_mono HO239.out (fun _ hk => ⟨⟨hk.2.2, hk.2.1⟩, hk.1⟩)) hg hat)
            replace HO245 := Aside0.mk (Kd.R_after (ok := (fun k_ => some k_ ≠ (.slice Ao55 x3_2.length co55 : Value).ownBlock ∧ some k_ ≠ (v238 : Value).ownBlock)) (by (with_reducible repeat (first | apply Kd.R_alloc | apply Kd.R_drewN | apply Kd.R_drew)); exact Kd.R_mono HO245.out (fun _ hk => ⟨⟨hk.2.2, hk.1⟩, hk.2.1⟩)) hg hat)
            replace HB := Aside0.mk (hb)
            clear HO242
            clear ho hb hg hat
            refine hK.out _ _ ⟨(blk_cell BK236.out 0).trans rfl, (blk_cell BK236.out 1).trans rfl, (blk_cell BK236.out 2).trans rfl⟩ (fun hHeld => ?_)
            clear hK K
            refine nz_ 80 ?_
            refine one_ (i := 14) (N := some 83) ba6_40 rfl rfl (one_of HT_.out (by kernel_rfl)) (by decide) (fun K hK => ?_)
            refine gz_ Try.func76 #[.int .i64 ((rd_T74 l0_4 x5_2).f1), .int .i64 2] ?_
            with_reducible refine (spec_l05Wide.calls k2 ((rd_T74 l0_4 x5_2).f1) 2 t249 _ A49.out).mono ?_
            rintro e w66 ⟨v250, rfl, ho0, hb⟩
            refine ⟨_, rfl, ?_⟩
            have HO251 := Aside0.mk (Kd.R_lower (Kd.R_new' (Kd.R_new' (Kd.R_new' (Kd.R_new' ho0 (Kd.R_lt (hd_ HO_3))) (Kd.R_lt (hd_ HO239))) (Kd.R_lt (hd_ HO245))) (Kd.R_lt (hd_ HO248))) (bz_ HB))
            replace HO_3 := Aside0.mk (Kd.R_elder' (hd_ HO_3) (Kd.R_base ho0) hb)
            replace HO239 := Aside0.mk (Kd.R_elder' (hd_ HO239) (Kd.R_base ho0) hb)
            replace HO245 := Aside0.mk (Kd.R_elder' (hd_ HO245) (Kd.R_base ho0) hb)
            replace HO248 := Aside0.mk (Kd.R_elder' (hd_ HO248) (Kd.R_base ho0) hb)
            replace BK198 := Aside0.mk (bb_ BK198 hb)
            replace BK236 := Aside0.mk (bb_ BK236 hb)
            replace HB := Aside0.mk (bt_ HB hb)
            (try clear hb)
            (try clear hb2)
            (try clear hk)
            (try clear hi)
            (try clear ho0)
            obtain ⟨Ao67, co67, eo67⟩ := Kd.R_slice HO248.out
            (first | subst eo67 | (injection eo67 with f1_ f2_ f3_; have f4_ := f1_.symm; have f5_ := f3_.symm; clear f1_ f2_ f3_; subst f4_; subst f5_))
            obtain ⟨Ao68, co68, eo68⟩ := Kd.R_slice HO251.out
            (first | subst eo68 | (injection eo68 with f1_ f2_ f3_; have f4_ := f1_.symm; have f5_ := f3_.symm; clear f1_ f2_ f3_; subst f4_; subst f5_))
            refine hK.out _ _ ⟨(blk_cell BK236.out 0).trans rfl, (blk_cell BK236.out 1).trans rfl, (blk_cell BK236.out 2).trans rfl⟩ (fun hHeld => ?_)
            clear hK K
            refine nz_ 83 ?_
            refine one_ (i := 15) (N := some 84) ba6_41 rfl rfl (one_of HT_.out (by kernel_rfl)) (by decide) (fun K hK => ?_)
            refine gz_ Try.func75 #[.slice Ao67 y246.length co67, .slice Ao68 t249.length co68] ?_
            with_reducible refine (spec_l01Join.calls k2 _ _ y246 _ _ t249 t252 _ ?side1 ?side2 ?side3 ?side4 A50.out).mono ?_
            (case side1 => exact rc_ HO248)
            (case side2 => exact (Kd.R_reads' HO248.out).2.1)
            (case side3 => exact rc_ HO251)
            (case side4 => exact (Kd.R_reads' HO251.out).2.1)
            rintro e w69 ⟨v253, rfl, ho0, hb⟩
            refine ⟨_, rfl, ?_⟩
            have HO254 := Aside0.mk (Kd.R_lower (Kd.R_new' (Kd.R_new' (Kd.R_new' (Kd.R_new' (Kd.R_new' ho0 (Kd.R_lt (hd_ HO_3))) (Kd.R_lt (hd_ HO239))) (Kd.R_lt (hd_ HO245))) (Kd.R_lt (hd_ HO248))) (Kd.R_lt (hd_ HO251))) (bz_ HB))
            replace HO_3 := Aside0.mk (Kd.R_elder' (hd_ HO_3) (Kd.R_base ho0) hb)
            replace HO239 := Aside0.mk (Kd.R_elder' (hd_ HO239) (Kd.R_base ho0) hb)
            replace HO245 := Aside0.mk (Kd.R_elder' (hd_ HO245) (Kd.R_base ho0) hb)
            replace HO248 := Aside0.mk (Kd.R_elder' (hd_ HO248) (Kd.R_base ho0) hb)
            replace HO251 := Aside0.mk (Kd.R_elder' (hd_ HO251) (Kd.R_base ho0) hb)
            replace BK198 := Aside0.mk (bb_ BK198 hb)
            replace BK236 := Aside0.mk (bb_ BK236 hb)
            replace HB := Aside0.mk (bt_ HB hb)
            (try clear hb)
            (try clear hb2)
            (try clear hk)
            (try clear hi)
            (try clear ho0)
            refine hK.out _ _ ⟨(blk_cell BK236.out 0).trans rfl, (blk_cell BK236.out 1).trans rfl, (blk_cell BK236.out 2).trans rfl⟩ (fun hHeld => ?_)
            clear hK K
            refine nz_ 84 ?_
            refine pz_ 16 3 ba6_42 HT_ ?_
            refine done_ (done_of HT_.out (by kernel_rfl)) ?_
            try go_wp2
            go_roundg k2
            case measure => have := HK1.out; have := HK2.out; omega
            case rel => exact ⟨(t252), (wrap64 (x5_2 + 1)), (by first | rfl | (simp; done) | (simp [*]; done)), H', ⟨by have := HK1.out; have := HK2.out; omega⟩, ⟨by (with_reducible repeat (first | apply Kd.R_alloc | apply Kd.R_drewN | apply Kd.R_drew)); exact Kd.R_mono HO254.out (fun _ hk => trivial)⟩, ⟨by (with_reducible repeat (first | refine blk_drewN ?_ _ | refine blk_drew ?_ | refine blk_alloc ?_ _)); exact BK198.out⟩, ⟨by repeat (first | (with_reducible first | exact HB.out | apply below_alloc | apply pw_below_drewN | apply below_drew1 | refine below_set ?_ GE198.out | refine below_set ?_ GE236.out) | exact HB.out)⟩⟩
           ·rw [if_neg c48] at H
            exact absurd H (by simp)
          ·rw [if_neg c45] at H
           exact absurd H (by simp)
         ·rw [if_neg c44] at H
          have c44b0 : decide (x5_2 < (l0_4.length : Int)) = false := decide_eq_false c44
          clear c44
          obtain rfl := Option.some.inj H
          have hcz70_0 := cz_ BK198 0 (.int .i64 a0_0)
          have hcz70_1 := cz_ BK198 1 (.int .i64 a0_1)
          have hcz70_2 := cz_ BK198 2 (.int .i64 a0_2)
          have hcz70_3 := cz_ BK198 3 (.slice A0_3 l0_3.length c0_3)
          have hcz70_4 := cz_ BK198 4 (.slice A0_4 l0_4.length c0_4)
          have hfz70_0 := blk_frozen BK198.out 0
          have hfz70_1 := blk_frozen BK198.out 1
          have hfz70_2 := blk_frozen BK198.out 2
          have hfz70_3 := blk_frozen BK198.out 3
          have hfz70_4 := blk_frozen BK198.out 4
          go_wp2
          go_ret
          exact ⟨_, by first | rfl | (simp [errW_none, errW_some] <;> rfl) | (simp [*, errW_none, errW_some] <;> rfl), by (with_reducible repeat (first | apply Kd.R_alloc | apply Kd.R_drewN | apply Kd.R_drew)); exact HO_3.out, by repeat (first | (with_reducible first | exact HB.out | apply below_alloc | apply pw_below_drewN | apply below_drew1 | refine below_set ?_ GE198.out) | exact HB.out)⟩
      ·rw [if_neg c38] at H
       exact absurd H (by simp)
  ·rw [if_neg c6] at H
   exact absurd H (by simp)
 ·replace c3 := Bool.eq_false_iff.mpr c3
  subst c3
  rw [if_neg (show ¬ (false = true) by decide)] at H
  obtain rfl := Option.some.inj H
  go_enter Try.func41, Try.ntmps41
  go_wp2_with (first | ((with_reducible refine gate_dst (N := 1) rfl ?_); refine box_event ?hg (N := 1) ?hd (cs := #[.int .i64 a0_0, .int .i64 a0_1, .int .i64 a0_2, .slice A0_3 l0_3.length c0_3, .slice A0_4 l0_4.length c0_4]) (t := 31) ?hr ?_; (case hd => rfl); (case hg => rfl); (case hr => first | (go_simp; done) | (go_simp; rfl)); intro gb198 hg w71 hbox hb; have BK198 := Aside0.mk hbox; have GW198 := ge_ HB hg; have GE198 := ge_ HB hg; replace HB := Aside0.mk (bt_ HB hb); clear hb hbox hg; have hcz72_0 := cz_ BK198 0 (.int .i64 a0_0); have hcz72_1 := cz_ BK198 1 (.int .i64 a0_1); have hcz72_2 := cz_ BK198 2 (.int .i64 a0_2); have hcz72_3 := cz_ BK198 3 (.slice A0_3 l0_3.length c0_3); have hcz72_4 := cz_ BK198 4 (.slice A0_4 l0_4.length c0_4); have hfz72_0 := blk_frozen BK198.out 0; have hfz72_1 := blk_frozen BK198.out 1; have hfz72_2 := blk_frozen BK198.out 2; have hfz72_3 := blk_frozen BK198.out 3; have hfz72_4 := blk_frozen BK198.out 4) | ((with_reducible refine gate_callee (f := 14) rfl ?_); refine gl_ (some 8) Try.func14 #[.agg #[.int .i64 a0_0, .int .i64 a0_1, .int .i64 a0_2, .slice A0_3 l0_3.length c0_3, .slice A0_4 l0_4.length c0_4]] ?_; (with_reducible refine (spec_LsaOk.calls k a0_0 a0_1 a0_2 _ _ l0_3 _ _ l0_4 false _ ?side1 ?side2 ?side3 ?side4 A2.out).mono ?_); (case side1 => exact cb_ HR0_3 HB); (case side2 => exact HC0_3.out); (case side3 => exact cb_ HR0_4 HB); (case side4 => exact HC0_4.out); rintro e w73 ⟨rfl, hb⟩; refine ⟨_, rfl, ?_⟩; replace BK198 := Aside0.mk (bb_ BK198 hb); replace HB := Aside0.mk (bt_ HB hb); (try clear hb); (try clear hb2); (try clear hk); (try clear hi)))
  go_ret
  exact ⟨_, by first | rfl | (simp [errW_none, errW_some] <;> rfl) | (simp [*, errW_none, errW_some] <;> rfl), by first | exact Kd.R_nil _ _ _ _ _ | exact Kd.N_nil _ _ _ _ _ | exact Kd.V_nil _ _ _ _ _ | exact Kd.Q_nil _ _ _ _ _ | exact Kd.S_nil _ _ _ _ _, by repeat (first | (with_reducible first | exact HB.out | apply below_alloc | apply pw_below_drewN | apply below_drew1 | refine below_set ?_ GE198.out) | exact HB.out)⟩

end Go.Proofs.Ytiikcfaodkiakaa.QFnExactNewer
