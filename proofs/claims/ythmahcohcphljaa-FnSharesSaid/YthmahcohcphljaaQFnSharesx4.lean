/- Contracts of functions that the law reaches: what each call returns and what it leaves in memory. Made by this session over the print of the kit. -/
import Derived.Test.YthmahcohcphljaaQFnSharesx0
import Derived.Test.YthmahcohcphljaaQFnSharesx1
import Derived.Test.YthmahcohcphljaaQFnSharesx2
import Derived.Test.YthmahcohcphljaaQFnSharesx3
namespace Go.Proofs.Ythmahcohcphljaa.QFnShares
open Go.RowKit Go.Proofs.YthmahcohcphljaaS.PrintWords Go.Proofs.YthmahcohcphljaaS.PrintLast Go.Proofs.YthmahcohcphljaaS.PrintMore
attribute [local go_sem] max2_int min2_int max_two min_two max_three min_three max_four min_four   -- for this text's walks alone
set_option linter.unusedVariables false
set_option linter.unusedSimpArgs false
theorem str_ {P : Program} {ops : Array Oper} {Q : Exit → Act → World → Prop} {S S' : World → Prop} (h : ∀ w, S' w → S w) : ∀ {fuel : Nat} {l : Array Bool} {a : Act} {w : World}, S' w → wpAnyLast P .any ops Q S' [] fuel l a w → wpAnyLast P .any ops Q S [] fuel l a w
  | 0, _, _, _, _, hw => hw
  | _ + 1, _, _, _, hs, hw => ⟨hw.1, fun i hi => wpOp_mono (fun _ _ h' => ⟨fun _ _ => h _ (h'.1 (by simp) hs), str_ h (h'.1 (by simp) hs) h'.2⟩) (hw.2 i hi)⟩
theorem R_typesR {α β : Type} {d : Kd α} {d2 : Kd β} {w : World} {e e2 base base2 : Nat} {ok ok2 : Nat → Prop} {v : Value} {xs : List α} {g n c : Nat} {ys : List β} (h : d.R e w base ok v xs) (h2 : d2.R e2 w base2 ok2 (.slice (some ⟨g, 0, none⟩) n c) ys) (ht : ∀ q, q ∈ e :: d.E → q ≠ e2) : d.R e w base (fun k => ok k ∧ k ≠ g) v xs :=
  Kd.R_mono (Kd.R_apart' h (Kd.R_typed h2) ht) (fun k h_ => ⟨h_.1, fun e_ => h_.2 (by rw [e_]; simp [Value.ownBlock])⟩)
def ba4_0 : Array Bool := bs_ 36 0
def ba4_1 : Array Bool := bs_ 36 1
def ba4_2 : Array Bool := bs_ 36 3
def ba4_3 : Array Bool := bs_ 36 7
def ba4_4 : Array Bool := bs_ 36 15
def ba4_5 : Array Bool := bs_ 36 31
def ba4_6 : Array Bool := bs_ 36 63
def ba4_7 : Array Bool := bs_ 36 127
def ba4_8 : Array Bool := bs_ 36 255
def ba4_9 : Array Bool := bs_ 36 511
def ba4_10 : Array Bool := bs_ 36 1023
def ba4_11 : Array Bool := bs_ 36 2047
def ba4_12 : Array Bool := bs_ 36 4095
def ba4_13 : Array Bool := bs_ 36 8191
def ba4_14 : Array Bool := bs_ 36 16383
def ba4_15 : Array Bool := bs_ 36 32767
def ba4_16 : Array Bool := bs_ 36 65535
def ba4_17 : Array Bool := bs_ 36 131071
def ba4_18 : Array Bool := bs_ 36 262143
def ba4_19 : Array Bool := bs_ 36 524287
def ba4_20 : Array Bool := bs_ 36 1048575
def ba4_21 : Array Bool := bs_ 36 2097151
def ba4_22 : Array Bool := bs_ 36 4194303
def ba4_23 : Array Bool := bs_ 36 8388607
def ba4_24 : Array Bool := bs_ 36 16777215
def ba4_25 : Array Bool := bs_ 36 33554431
def ba4_26 : Array Bool := bs_ 36 67108863
def ba4_27 : Array Bool := bs_ 36 134217727
def ba4_28 : Array Bool := bs_ 36 268435455
def ba4_29 : Array Bool := bs_ 36 536870911
def ba4_30 : Array Bool := bs_ 36 1073741823
def ba4_31 : Array Bool := bs_ 36 2147483647
def ba4_32 : Array Bool := bs_ 36 4294967295
def ba4_33 : Array Bool := bs_ 36 8589934591
def ba4_34 : Array Bool := bs_ 36 17179869183
def ba4_35 : Array Bool := bs_ 36 34359738367
def ba4_36 : Array Bool := bs_ 36 68719476735
def ba4_37 : Array Bool := bs_ 36 6291455
def ba4_38 : Array Bool := bs_ 36 23068671
def ba4_39 : Array Bool := bs_ 36 291504127
def ba4_40 : Array Bool := bs_ 36 1365245951
def ba4_41 : Array Bool := bs_ 36 1367343103
def ba4_42 : Array Bool := bs_ 36 1501560831
def ba4_43 : Array Bool := bs_ 36 1509949439
def ba4_44 : Array Bool := bs_ 36 1543503871
def ba4_45 : Array Bool := bs_ 36 1610612735
def ba4_46 : Array Bool := bs_ 16 0
def ba4_47 : Array Bool := bs_ 16 1
def ba4_48 : Array Bool := bs_ 16 3
def ba4_49 : Array Bool := bs_ 16 7
def ba4_50 : Array Bool := bs_ 16 15
def ba4_51 : Array Bool := bs_ 16 47
def ba4_52 : Array Bool := bs_ 16 111
def ba4_53 : Array Bool := bs_ 16 239
def ba4_54 : Array Bool := bs_ 16 495
def ba4_55 : Array Bool := bs_ 16 4591
def ba4_56 : Array Bool := bs_ 16 4607
def ba4_57 : Array Bool := bs_ 16 5119
def ba4_58 : Array Bool := bs_ 16 6143
def ba4_59 : Array Bool := bs_ 16 8191
def ba4_60 : Array Bool := bs_ 16 16383
def ba4_61 : Array Bool := bs_ 16 32767
def ba4_62 : Array Bool := bs_ 16 65535

/-! ### spec_Shares: function 19 -/
mutual
def spec_Shares.j0 : Nat → Int → Int → Int → Bool → Int → List (S76) → Option (List Int)
 | 0, _, _, _, _, _, _ => none
 | k + 1, x1, x2, x3, x36, x155000, x155001 => if x36 = true then (some ([] : List Int)) else (if x1 = x2 then (spec_Shares.j1 k x1 x2 x3 false x155000 x155001) else ((spec_HopsTo.f k x155000 x155001 x1 x2).bind fun t159 => (spec_Shares.j1 k x1 x2 x3 ((t159.length : Int) == 0) x155000 x155001)))
def spec_Shares.j1 : Nat → Int → Int → Int → Bool → Int → List (S76) → Option (List Int)
 | 0, _, _, _, _, _, _ => none
 | k + 1, x1, x2, x3, x47, x155000, x155001 => if x47 = true then (some ([] : List Int)) else (if 0 ≤ x155000 then (if (x155000 : Int).toNat ≤ 35184372088832 then ((some (List.replicate (x155000 : Int).toNat 0 : List Int)).bind fun y162 => (if 0 ≤ x1 then (if x1 < (y162.length : Int) then (if (x155000 : Int).toNat ≤ 281474976710656 then (spec_Shares.l0 k x2 (y162.set (x1 : Int).toNat x3) (List.replicate (x155000 : Int).toNat false) 0 x155000 x155001) else (none)) else (none)) else (none))) else (none)) else (none))
def spec_Shares.l0 : Nat → Int → List Int → List Bool → Int → Int → List (S76) → Option (List Int)
 | 0, _, _, _, _, _, _ => none
 | k + 1, x2, x9, x10, x11, x155000, x155001 => if x11 < x155000 then (spec_Shares.l1 k x2 x9 x10 x11 (-1) 0 x155000 x155001) else (some x9)
def spec_Shares.l1 : Nat → Int → List Int → List Bool → Int → Int → Int → Int → List (S76) → Option (List Int)
 | 0, _, _, _, _, _, _, _, _ => none
 | k + 1, x2, x9, x10, x11, x12, x13, x155000, x155001 => if x13 < x155000 then (if 0 ≤ x13 then (if x13 < (x10.length : Int) then (if rdOf false x10 x13 = true then (spec_Shares.l1 k x2 x9 x10 x11 x12 (wrap64 (x13 + 1)) x155000 x155001) else (if x13 = x2 then (spec_Shares.l1 k x2 x9 x10 x11 x12 (wrap64 (x13 + 1)) x155000 x155001) else (if x13 < (x9.length : Int) then (if (rd x9 x13) > 0 then (if x12 < 0 then (spec_Shares.l1 k x2 x9 x10 x11 x13 (wrap64 (x13 + 1)) x155000 x155001) else ((spec_Distances.f k x155000 x155001 x13).bind fun t171 => (if 0 ≤ x2 then (if x2 < (t171.length : Int) then ((spec_Distances.f k x155000 x155001 x12).bind fun t175 => (if x2 < (t175.length : Int) then (if (rd t171 x2) > (rd t175 x2) then (spec_Shares.l1 k x2 x9 x10 x11 x13 (wrap64 (x13 + 1)) x155000 x155001) else (spec_Shares.l1 k x2 x9 x10 x11 x12 (wrap64 (x13 + 1)) x155000 x155001)) else (none))) else (none)) else (none)))) else (spec_Shares.l1 k x2 x9 x10 x11 x12 (wrap64 (x13 + 1)) x155000 x155001)) else (none)))) else (none)) else (none)) else (if x12 < 0 then (some x9) else (if 0 ≤ x12 then (if x12 < (x10.length : Int) then ((spec_HopsTo.f k x155000 x155001 x12 x2).bind fun t180 => (spec_Shares.l2 k x2 x9 (x10.set (x12 : Int).toNat true) x11 x12 t180 0 x155000 x155001)) else (none)) else (none)))
def spec_Shares.l2 : Nat → Int → List Int → List Bool → Int → Int → List Int → Int → Int → List (S76) → Option (List Int)
 | 0, _, _, _, _, _, _, _, _, _ => none
 | k + 1, x2, x9, x10, x11, x12, x14, x15, x155000, x155001 => if x15 < (x14.length : Int) then (if 0 ≤ x12 then (if x12 < (x9.length : Int) then (if (x14.length : Int) = 0 then (none) else (if x15 < (Int.tmod (rd x9 x12) (x14.length : Int)) then (if 0 ≤ x15 then (if 0 ≤ (rd x14 x15) then (if (rd x14 x15) < (x9.length : Int) then (spec_Shares.l2 k x2 (x9.set ((rd x14 x15) : Int).toNat (wrap64 ((rd x9 (rd x14 x15)) + (wrap64 ((wrap64 (Int.tdiv (rd x9 x12) (x14.length : Int))) + 1))))) x10 x11 x12 x14 (wrap64 (x15 + 1)) x155000 x155001) else (none)) else (none)) else (none)) else (if 0 ≤ x15 then (if 0 ≤ (rd x14 x15) then (if (rd x14 x15) < (x9.length : Int) then (spec_Shares.l2 k x2 (x9.set ((rd x14 x15) : Int).toNat (wrap64 ((rd x9 (rd x14 x15)) + (wrap64 (Int.tdiv (rd x9 x12) (x14.length : Int)))))) x10 x11 x12 x14 (wrap64 (x15 + 1)) x155000 x155001) else (none)) else (none)) else (none)))) else (none)) else (none)) else (spec_Shares.l0 k x2 x9 x10 (wrap64 (x11 + 1)) x155000 x155001)
end
def spec_Shares.f (k : Nat) (a0_0 : Int) (l0_1 : List (S76)) (a1 : Int) (a2 : Int) (a3 : Int) : Option (List Int) := (spec_l01In.f a3 1 100000).bind fun t155 => (if t155 = true then ((spec_GraphOk.f k a0_0 l0_1).bind fun t156 => (if t156 = true then ((spec_l03Node.f a0_0 l0_1 a1).bind fun t157 => (if t157 = true then ((spec_l03Node.f a0_0 l0_1 a2).bind fun t158 => (spec_Shares.j0 k a1 a2 a3 (!t158) a0_0 l0_1)) else (spec_Shares.j0 k a1 a2 a3 true a0_0 l0_1))) else (spec_Shares.j0 k a1 a2 a3 true a0_0 l0_1))) else (spec_Shares.j0 k a1 a2 a3 true a0_0 l0_1))
theorem spec_Shares.mono_l : ∀ k, (∀ y0 y1 y2 y3 y4 y5, LeO (spec_Shares.j0 k y0 y1 y2 y3 y4 y5) (spec_Shares.j0 (k + 1) y0 y1 y2 y3 y4 y5)) ∧ (∀ y0 y1 y2 y3 y4 y5, LeO (spec_Shares.j1 k y0 y1 y2 y3 y4 y5) (spec_Shares.j1 (k + 1) y0 y1 y2 y3 y4 y5)) ∧ (∀ y0 y1 y2 y3 y4 y5, LeO (spec_Shares.l0 k y0 y1 y2 y3 y4 y5) (spec_Shares.l0 (k + 1) y0 y1 y2 y3 y4 y5)) ∧ (∀ y0 y1 y2 y3 y4 y5 y6 y7, LeO (spec_Shares.l1 k y0 y1 y2 y3 y4 y5 y6 y7) (spec_Shares.l1 (k + 1) y0 y1 y2 y3 y4 y5 y6 y7)) ∧ (∀ y0 y1 y2 y3 y4 y5 y6 y7 y8, LeO (spec_Shares.l2 k y0 y1 y2 y3 y4 y5 y6 y7 y8) (spec_Shares.l2 (k + 1) y0 y1 y2 y3 y4 y5 y6 y7 y8))
 | 0 => ⟨fun _ _ _ _ _ _ r h => by simp [spec_Shares.j0] at h, fun _ _ _ _ _ _ r h => by simp [spec_Shares.j1] at h, fun _ _ _ _ _ _ r h => by simp [spec_Shares.l0] at h, fun _ _ _ _ _ _ _ _ r h => by simp [spec_Shares.l1] at h, fun _ _ _ _ _ _ _ _ _ r h => by simp [spec_Shares.l2] at h⟩
 | k + 1 => by
  obtain ⟨ih0, ih1, ih2, ih3, ih4⟩ := spec_Shares.mono_l k
  refine ⟨?_, ?_, ?_, ?_, ?_⟩
  ·intro y0 y1 y2 y3 y4 y5
   unfold spec_Shares.j0
   repeat' first | (with_reducible first | exact ih0 _ _ _ _ _ _ | exact ih1 _ _ _ _ _ _ | exact ih2 _ _ _ _ _ _ | exact ih3 _ _ _ _ _ _ _ _ | exact ih4 _ _ _ _ _ _ _ _ _ | exact spec_Distances.mono _ _ _ _ | exact spec_GraphOk.mono _ _ _ | exact spec_HopsTo.mono _ _ _ _ _ | exact LeO.refl _ | exact LeO.none _ | refine LeO.ite ?_ ?_ | refine LeO.bind ?_ (fun _ => ?_)) | exact ih0 _ _ _ _ _ _ | exact ih1 _ _ _ _ _ _ | exact ih2 _ _ _ _ _ _ | exact ih3 _ _ _ _ _ _ _ _ | exact ih4 _ _ _ _ _ _ _ _ _ | exact spec_Distances.mono _ _ _ _ | exact spec_GraphOk.mono _ _ _ | exact spec_HopsTo.mono _ _ _ _ _ | exact LeO.none _ | refine LeO.ite ?_ ?_ | refine LeO.bind ?_ (fun _ => ?_)
  ·intro y0 y1 y2 y3 y4 y5
   unfold spec_Shares.j1
   repeat' first | (with_reducible first | exact ih0 _ _ _ _ _ _ | exact ih1 _ _ _ _ _ _ | exact ih2 _ _ _ _ _ _ | exact ih3 _ _ _ _ _ _ _ _ | exact ih4 _ _ _ _ _ _ _ _ _ | exact spec_Distances.mono _ _ _ _ | exact spec_GraphOk.mono _ _ _ | exact spec_HopsTo.mono _ _ _ _ _ | exact LeO.refl _ | exact LeO.none _ | refine LeO.ite ?_ ?_ | refine LeO.bind ?_ (fun _ => ?_)) | exact ih0 _ _ _ _ _ _ | exact ih1 _ _ _ _ _ _ | exact ih2 _ _ _ _ _ _ | exact ih3 _ _ _ _ _ _ _ _ | exact ih4 _ _ _ _ _ _ _ _ _ | exact spec_Distances.mono _ _ _ _ | exact spec_GraphOk.mono _ _ _ | exact spec_HopsTo.mono _ _ _ _ _ | exact LeO.none _ | refine LeO.ite ?_ ?_ | refine LeO.bind ?_ (fun _ => ?_)
  ·intro y0 y1 y2 y3 y4 y5
   unfold spec_Shares.l0
   repeat' first | (with_reducible first | exact ih0 _ _ _ _ _ _ | exact ih1 _ _ _ _ _ _ | exact ih2 _ _ _ _ _ _ | exact ih3 _ _ _ _ _ _ _ _ | exact ih4 _ _ _ _ _ _ _ _ _ | exact spec_Distances.mono _ _ _ _ | exact spec_GraphOk.mono _ _ _ | exact spec_HopsTo.mono _ _ _ _ _ | exact LeO.refl _ | exact LeO.none _ | refine LeO.ite ?_ ?_ | refine LeO.bind ?_ (fun _ => ?_)) | exact ih0 _ _ _ _ _ _ | exact ih1 _ _ _ _ _ _ | exact ih2 _ _ _ _ _ _ | exact ih3 _ _ _ _ _ _ _ _ | exact ih4 _ _ _ _ _ _ _ _ _ | exact spec_Distances.mono _ _ _ _ | exact spec_GraphOk.mono _ _ _ | exact spec_HopsTo.mono _ _ _ _ _ | exact LeO.none _ | refine LeO.ite ?_ ?_ | refine LeO.bind ?_ (fun _ => ?_)
  ·intro y0 y1 y2 y3 y4 y5 y6 y7
   unfold spec_Shares.l1
   repeat' first | (with_reducible first | exact ih0 _ _ _ _ _ _ | exact ih1 _ _ _ _ _ _ | exact ih2 _ _ _ _ _ _ | exact ih3 _ _ _ _ _ _ _ _ | exact ih4 _ _ _ _ _ _ _ _ _ | exact spec_Distances.mono _ _ _ _ | exact spec_GraphOk.mono _ _ _ | exact spec_HopsTo.mono _ _ _ _ _ | exact LeO.refl _ | exact LeO.none _ | refine LeO.ite ?_ ?_ | refine LeO.bind ?_ (fun _ => ?_)) | exact ih0 _ _ _ _ _ _ | exact ih1 _ _ _ _ _ _ | exact ih2 _ _ _ _ _ _ | exact ih3 _ _ _ _ _ _ _ _ | exact ih4 _ _ _ _ _ _ _ _ _ | exact spec_Distances.mono _ _ _ _ | exact spec_GraphOk.mono _ _ _ | exact spec_HopsTo.mono _ _ _ _ _ | exact LeO.none _ | refine LeO.ite ?_ ?_ | refine LeO.bind ?_ (fun _ => ?_)
  ·intro y0 y1 y2 y3 y4 y5 y6 y7 y8
   unfold spec_Shares.l2
   repeat' first | (with_reducible first | exact ih0 _ _ _ _ _ _ | exact ih1 _ _ _ _ _ _ | exact ih2 _ _ _ _ _ _ | exact ih3 _ _ _ _ _ _ _ _ | exact ih4 _ _ _ _ _ _ _ _ _ | exact spec_Distances.mono _ _ _ _ | exact spec_GraphOk.mono _ _ _ | exact spec_HopsTo.mono _ _ _ _ _ | exact LeO.refl _ | exact LeO.none _ | refine LeO.ite ?_ ?_ | refine LeO.bind ?_ (fun _ => ?_)) | exact ih0 _ _ _ _ _ _ | exact ih1 _ _ _ _ _ _ | exact ih2 _ _ _ _ _ _ | exact ih3 _ _ _ _ _ _ _ _ | exact ih4 _ _ _ _ _ _ _ _ _ | exact spec_Distances.mono _ _ _ _ | exact spec_GraphOk.mono _ _ _ | exact spec_HopsTo.mono _ _ _ _ _ | exact LeO.none _ | refine LeO.ite ?_ ?_ | refine LeO.bind ?_ (fun _ => ?_)
theorem spec_Shares.mono : ∀ a0 a1 a2 a3 a4 k, LeO (spec_Shares.f k a0 a1 a2 a3 a4) (spec_Shares.f (k + 1) a0 a1 a2 a3 a4) := by
 intro a0 a1 a2 a3 a4 k
 obtain ⟨ih0, ih1, ih2, ih3, ih4⟩ := spec_Shares.mono_l k
 unfold spec_Shares.f
 repeat' first | (with_reducible first | exact ih0 _ _ _ _ _ _ | exact ih1 _ _ _ _ _ _ | exact ih2 _ _ _ _ _ _ | exact ih3 _ _ _ _ _ _ _ _ | exact ih4 _ _ _ _ _ _ _ _ _ | exact spec_Distances.mono _ _ _ _ | exact spec_GraphOk.mono _ _ _ | exact spec_HopsTo.mono _ _ _ _ _ | exact LeO.refl _ | exact LeO.none _ | refine LeO.ite ?_ ?_ | refine LeO.bind ?_ (fun _ => ?_)) | exact ih0 _ _ _ _ _ _ | exact ih1 _ _ _ _ _ _ | exact ih2 _ _ _ _ _ _ | exact ih3 _ _ _ _ _ _ _ _ | exact ih4 _ _ _ _ _ _ _ _ _ | exact spec_Distances.mono _ _ _ _ | exact spec_GraphOk.mono _ _ _ | exact spec_HopsTo.mono _ _ _ _ _ | exact LeO.none _ | refine LeO.ite ?_ ?_ | refine LeO.bind ?_ (fun _ => ?_)
def spec_Shares.T15 : Bool × List (List Nat × List Nat) := (true, [([], []), ([], []), ([0, 1], [0, 1]), ([2], [2]), ([3], [3]), ([4], [4]), ([5], [5]), ([5], [5]), ([6, 7, 5], [5, 6, 7]), ([5, 8], [5, 8]), ([9, 5], [9]), ([10], [10]), ([10], [10]), ([11, 12, 10], [10, 11, 12]), ([13, 10], [10, 13]), ([14, 10], [10, 14]), ([10, 15], [10, 15]), ([16, 10], [16]), ([17], [17]), ([18, 17], [17, 18]), ([19, 17, 17], [17, 19]), ([20], [20]), ([20], [20]), ([21, 22, 20, 20], [20, 21, 22]), ([20], [20]), ([23, 24, 20], [20, 23, 24]), ([25, 20], [20, 25]), ([20], [20]), ([20], [20]), ([27, 28, 23, 20], [20, 27, 28]), ([20], [20]), ([29, 30, 20], [20, 29, 30]), ([31, 20], [20, 31]), ([26, 32, 20], [20, 26, 32]), ([20, 33, 17], [17, 20, 33]), ([17, 34], [17, 34])])
def spec_Shares.B15 : List Nat := [0, 0, 3, 7, 15, 31, 63, 63, 255, 511, 1023, 2047, 2047, 8191, 16383, 32767, 65535, 131071, 262143, 524287, 1048575, 2097151, 2097151, 8388607, 2097151, 33554431, 67108863, 2097151, 2097151, 419430399, 2097151, 2030043135, 4177526783, 8589934591, 17179869183, 34359738367]
theorem spec_Shares.tab15 : rtab .any (opsOf Try.f19 15) = spec_Shares.T15 := by kernel_rfl
theorem spec_Shares.bits15 : waitsOk spec_Shares.T15.2 spec_Shares.B15 = true := by kernel_rfl
def spec_Shares.T26 : Bool × List (List Nat × List Nat) := (true, [([], []), ([], []), ([], []), ([1, 2], [1, 2]), ([3], [3]), ([], []), ([], []), ([], []), ([6, 7], [6, 7]), ([8], [8]), ([5, 9], [5, 9]), ([10], [10]), ([], []), ([11, 12], [11, 12]), ([0, 4, 0, 1, 2, 3, 4, 5, 6, 7, 8, 9, 10, 11, 12, 13], [0, 4]), ([14, 13, 0, 1, 2, 3, 4, 5, 6, 7, 8, 9, 10, 11, 12, 13], [13, 14])])
def spec_Shares.B26 : List Nat := [0, 0, 0, 6, 14, 0, 0, 0, 192, 448, 992, 2016, 0, 8160, 16383, 32767]
theorem spec_Shares.tab26 : rtab .any (opsOf Try.f19 26) = spec_Shares.T26 := by kernel_rfl
theorem spec_Shares.bits26 : waitsOk spec_Shares.T26.2 spec_Shares.B26 = true := by kernel_rfl
set_option maxHeartbeats 8000000 in
set_option maxRecDepth 100000 in
theorem spec_Shares.calls (k : Nat) (a0_0 : Int) (A0_1 : Option Addr) (c0_1 : Nat) (l0_1 : List (S76)) (a1 : Int) (a2 : Int) (a3 : Int) (r : List Int) (w : World) (hr0_1 : Kd.C k76 w A0_1 l0_1.length l0_1) (hc0_1 : l0_1.length ≤ c0_1) (h : spec_Shares.f k a0_0 l0_1 a1 a2 a3 = some r) :
  Calls Try.prog 19 #[.agg #[.int .i64 a0_0, .slice A0_1 l0_1.length c0_1], .int .i64 a1, .int .i64 a2, .int .i64 a3] w fun e w' => ∃ v0_ : Value, e = .returned (v0_) ∧ Kd.R (Kd.int .i64) 3 w' w.heap.size (fun _ => True) v0_ r ∧ Below w.heap.size w w' := by
 have hu30 := Try.underlying30
 have HR0_1 := Aside0.mk hr0_1
 have HC0_1 := Aside0.mk hc0_1
 clear hr0_1 hc0_1
 have HB := Aside0.mk (Below.refl w.heap.size w)
 have H : ((spec_l01In.f a3 1 100000).bind fun t155 => (if t155 = true then ((spec_GraphOk.f k a0_0 l0_1).bind fun t156 => (if t156 = true then ((spec_l03Node.f a0_0 l0_1 a1).bind fun t157 => (if t157 = true then ((spec_l03Node.f a0_0 l0_1 a2).bind fun t158 => (spec_Shares.j0 k a1 a2 a3 (!t158) a0_0 l0_1)) else (spec_Shares.j0 k a1 a2 a3 true a0_0 l0_1))) else (spec_Shares.j0 k a1 a2 a3 true a0_0 l0_1))) else (spec_Shares.j0 k a1 a2 a3 true a0_0 l0_1))) = some r := h
 clear h
 have HC5 := Aside0.mk H
 clear H
 go_enter Try.func19, Try.ntmps19
 go_upto_region 1 with ((with_reducible refine gate_dst (N := 4) rfl ?_); refine box_event ?hg (N := 4) ?hd (cs := #[.int .i64 a0_0, .slice A0_1 l0_1.length c0_1]) (t := 30) ?hr ?_; (case hd => rfl); (case hg => rfl); (case hr => first | (go_simp; done) | (go_simp; rfl)); intro gb154 hg w6 hbox hb; have BK154 := Aside0.mk hbox; have GW154 := ge_ HB hg; have GE154 := ge_ HB hg; replace HB := at_ HB hb; clear hb hbox hg)
 (try simp only [Act.put, List.setIfInBounds_toArray, List.set_cons_zero, List.set_cons_succ])
 go_cut [36] (fun v36 wc => ∃ (kq : Nat) (x36_4 : Bool), v36 = .bool x36_4 ∧ Aside0 (spec_Shares.j0 kq a1 a2 a3 x36_4 a0_0 l0_1 = some r) ∧ Aside0 (kq ≤ k) ∧ Aside0 (wc.heap[gb154]? = some (.cells #[.int .i64 a0_0, (.slice A0_1 l0_1.length c0_1)] 30 (0, 0))) ∧ Aside0 (Below w.heap.size w wc))
 case first =>
  have H := HC5.out
  clear HC5
  replace H := Option.bind_eq_some_iff.mp H
  obtain ⟨t155, A70, H⟩ := H
  have A7 := Aside0.mk A70
  clear A70
  by_cases c8 : t155 = true
  rotate_left
  ·replace c8 := Bool.eq_false_iff.mpr c8
   subst c8
   rw [if_neg (show ¬ (false = true) by decide)] at H
   have H' := Aside0.mk H
   clear H
   go_wp2_with ((with_reducible refine gate_callee (f := 52) rfl ?_); refine gl_ (some 18) Try.func52 #[.int .i64 a3, .int .i64 1, .int .i64 100000] ?_; (with_reducible refine (spec_l01In.calls a3 1 100000 false _ A7.out).mono ?_); rintro e w' ⟨rfl, ⟨nd, rfl⟩⟩; refine ⟨_, rfl, ?_⟩)
   go_meet
   case rel => exact ⟨_, (true), er_, H', ⟨by first | omega | exact Nat.le_refl _⟩, ⟨bx_ BK154⟩, ⟨bw_⟩⟩
  subst c8
  rw [if_pos rfl] at H
  replace H := Option.bind_eq_some_iff.mp H
  obtain ⟨t156, A90, H⟩ := H
  have A9 := Aside0.mk A90
  clear A90
  by_cases c10 : t156 = true
  rotate_left
  ·replace c10 := Bool.eq_false_iff.mpr c10
   subst c10
   rw [if_neg (show ¬ (false = true) by decide)] at H
   have H' := Aside0.mk H
   clear H
   go_wp2_with (first | ((with_reducible refine gate_callee (f := 52) rfl ?_); refine gl_ (some 18) Try.func52 #[.int .i64 a3, .int .i64 1, .int .i64 100000] ?_; (with_reducible refine (spec_l01In.calls a3 1 100000 true _ A7.out).mono ?_); rintro e w' ⟨rfl, ⟨nd, rfl⟩⟩; refine ⟨_, rfl, ?_⟩; have hcz24_0 := cz_ BK154 0 (.int .i64 a0_0); have hcz24_1 := cz_ BK154 1 (.slice A0_1 l0_1.length c0_1); have hfz24_0 := fz_ BK154 0; have hfz24_1 := fz_ BK154 1) | (go_at_call 25; (with_reducible refine (spec_GraphOk.calls k a0_0 _ _ l0_1 false _ ?side1 ?side2 A9.out).mono ?_); (case side1 => exact cc_ HR0_1 HB); (case side2 => exact HC0_1.out); rintro e w25 ⟨rfl, hb⟩; replace BK154 := ab_ BK154 hb; replace HB := at_ HB hb; (try clear hb); (try clear hb2); (try clear hk); (try clear hi)))
   go_meet
   case rel => exact ⟨_, (true), er_, H', ⟨by first | omega | exact Nat.le_refl _⟩, ⟨bx_ BK154⟩, ⟨bw_⟩⟩
  subst c10
  rw [if_pos rfl] at H
  replace H := Option.bind_eq_some_iff.mp H
  obtain ⟨t157, A110, H⟩ := H
  have A11 := Aside0.mk A110
  clear A110
  by_cases c12 : t157 = true
  rotate_left
  ·replace c12 := Bool.eq_false_iff.mpr c12
   subst c12
   rw [if_neg (show ¬ (false = true) by decide)] at H
   have H' := Aside0.mk H
   clear H
   go_wp2_with (first | ((with_reducible refine gate_callee (f := 52) rfl ?_); refine gl_ (some 18) Try.func52 #[.int .i64 a3, .int .i64 1, .int .i64 100000] ?_; (with_reducible refine (spec_l01In.calls a3 1 100000 true _ A7.out).mono ?_); rintro e w' ⟨rfl, ⟨nd, rfl⟩⟩; refine ⟨_, rfl, ?_⟩; have hcz20_0 := cz_ BK154 0 (.int .i64 a0_0); have hcz20_1 := cz_ BK154 1 (.slice A0_1 l0_1.length c0_1); have hfz20_0 := fz_ BK154 0; have hfz20_1 := fz_ BK154 1) | (go_at_call 25; (with_reducible refine (spec_GraphOk.calls k a0_0 _ _ l0_1 true _ ?side1 ?side2 A9.out).mono ?_); (case side1 => exact cc_ HR0_1 HB); (case side2 => exact HC0_1.out); rintro e w21 ⟨rfl, hb⟩; replace BK154 := ab_ BK154 hb; replace HB := at_ HB hb; (try clear hb); (try clear hb2); (try clear hk); (try clear hi); have hcz22_0 := cz_ BK154 0 (.int .i64 a0_0); have hcz22_1 := cz_ BK154 1 (.slice A0_1 l0_1.length c0_1); have hfz22_0 := fz_ BK154 0; have hfz22_1 := fz_ BK154 1) | (go_at_call 45; (with_reducible refine (spec_l03Node.calls a0_0 _ _ l0_1 a1 false _ ?side1 ?side2 A11.out).mono ?_); (case side1 => exact cb_ HR0_1 HB); (case side2 => exact HC0_1.out); rintro e w23 ⟨rfl, hb⟩; replace BK154 := ab_ BK154 hb; replace HB := at_ HB hb; (try clear hb); (try clear hb2); (try clear hk); (try clear hi)))
   go_meet
   case rel => exact ⟨_, (true), er_, H', ⟨by first | omega | exact Nat.le_refl _⟩, ⟨bx_ BK154⟩, ⟨bw_⟩⟩
  subst c12
  rw [if_pos rfl] at H
  replace H := Option.bind_eq_some_iff.mp H
  obtain ⟨t158, A130, H⟩ := H
  have A13 := Aside0.mk A130
  clear A130
  have H' := Aside0.mk H
  clear H
  go_wp2_with (first | ((with_reducible refine gate_callee (f := 52) rfl ?_); refine gl_ (some 18) Try.func52 #[.int .i64 a3, .int .i64 1, .int .i64 100000] ?_; (with_reducible refine (spec_l01In.calls a3 1 100000 true _ A7.out).mono ?_); rintro e w' ⟨rfl, ⟨nd, rfl⟩⟩; refine ⟨_, rfl, ?_⟩; have hcz14_0 := cz_ BK154 0 (.int .i64 a0_0); have hcz14_1 := cz_ BK154 1 (.slice A0_1 l0_1.length c0_1); have hfz14_0 := fz_ BK154 0; have hfz14_1 := fz_ BK154 1) | (go_at_call 25; (with_reducible refine (spec_GraphOk.calls k a0_0 _ _ l0_1 true _ ?side1 ?side2 A9.out).mono ?_); (case side1 => exact cc_ HR0_1 HB); (case side2 => exact HC0_1.out); rintro e w15 ⟨rfl, hb⟩; replace BK154 := ab_ BK154 hb; replace HB := at_ HB hb; (try clear hb); (try clear hb2); (try clear hk); (try clear hi); have hcz16_0 := cz_ BK154 0 (.int .i64 a0_0); have hcz16_1 := cz_ BK154 1 (.slice A0_1 l0_1.length c0_1); have hfz16_0 := fz_ BK154 0; have hfz16_1 := fz_ BK154 1) | (go_at_call 45; (with_reducible refine (spec_l03Node.calls a0_0 _ _ l0_1 a1 true _ ?side1 ?side2 A11.out).mono ?_); (case side1 => exact cb_ HR0_1 HB); (case side2 => exact HC0_1.out); rintro e w17 ⟨rfl, hb⟩; replace BK154 := ab_ BK154 hb; replace HB := at_ HB hb; (try clear hb); (try clear hb2); (try clear hk); (try clear hi); have hcz18_0 := cz_ BK154 0 (.int .i64 a0_0); have hcz18_1 := cz_ BK154 1 (.slice A0_1 l0_1.length c0_1); have hfz18_0 := fz_ BK154 0; have hfz18_1 := fz_ BK154 1) | (go_at_call 45; (with_reducible refine (spec_l03Node.calls a0_0 _ _ l0_1 a2 t158 _ ?side1 ?side2 A13.out).mono ?_); (case side1 => exact cb_ HR0_1 HB); (case side2 => exact HC0_1.out); rintro e w19 ⟨rfl, hb⟩; replace BK154 := ab_ BK154 hb; replace HB := at_ HB hb; (try clear hb); (try clear hb2); (try clear hk); (try clear hi)))
  go_meet
  case rel => exact ⟨_, (!t158), er_, H', ⟨by first | omega | exact Nat.le_refl _⟩, ⟨bx_ BK154⟩, ⟨bw_⟩⟩
 case rest =>
  clear HC5
  try clear c1
  try clear p2
  try clear c5
  try clear c8
  try clear c10
  try clear c12
  try clear c19
  try clear hcz14_0
  try clear hcz14_1
  try clear hcz16_0
  try clear hcz16_1
  try clear hcz18_0
  try clear hcz18_1
  try clear hcz20_0
  try clear hcz20_1
  try clear hcz22_0
  try clear hcz22_1
  try clear hcz24_0
  try clear hcz24_1
  try clear hfz14_0
  try clear hfz14_1
  try clear hfz16_0
  try clear hfz16_1
  try clear hfz18_0
  try clear hfz18_1
  try clear hfz20_0
  try clear hfz20_1
  try clear hfz22_0
  try clear hfz22_1
  try clear hfz24_0
  try clear hfz24_1
  obtain ⟨kq, x36_4, rfl, HA, HJ4, BK154, HB⟩ := hcut
  cases kq with
  | zero => exact absurd HA.out (by simp [spec_Shares.j0])
  | succ kj4 =>
   have H := HA.out
   clear HA
   simp only [spec_Shares.j0] at H
   by_cases c26 : x36_4 = true
   ·subst c26
    rw [if_pos rfl] at H
    obtain rfl := Option.some.inj H
    go_wp2
    go_ret
    exact ⟨_, by first | rfl | (simp [errW_none, errW_some] <;> rfl) | (simp [*, errW_none, errW_some] <;> rfl), by first | exact Kd.R_nil _ _ _ _ _ | exact Kd.N_nil _ _ _ _ _ | exact Kd.V_nil _ _ _ _ _ | exact Kd.Q_nil _ _ _ _ _ | exact Kd.S_nil _ _ _ _ _, bw_⟩
   replace c26 := Bool.eq_false_iff.mpr c26
   subst c26
   rw [if_neg (show ¬ (false = true) by decide)] at H
   have HC27 := Aside0.mk H
   clear H
   go_upto_region 3 with (fail)
   go_cut [47] (fun v47 wc => ∃ (kq : Nat) (x47_26 : Bool), v47 = .bool x47_26 ∧ Aside0 (spec_Shares.j1 kq a1 a2 a3 x47_26 a0_0 l0_1 = some r) ∧ Aside0 (kq ≤ kj4) ∧ Aside0 (wc.heap[gb154]? = some (.cells #[.int .i64 a0_0, (.slice A0_1 l0_1.length c0_1)] 30 (0, 0))) ∧ Aside0 (Below w.heap.size w wc))
   case first =>
    have H := HC27.out
    clear HC27
    by_cases c28 : a1 = a2
    ·rw [if_pos c28] at H
     have c28b0 : (a1 == a2) = true := beq_iff_eq.mpr c28
     have c28b1 : (a1 != a2) = false := bne_eq_false_iff_eq.mpr c28
     clear c28
     (first | rw [c28b0] | (simp only [i64_w, i32_w]; rw [c28b0]) | skip)
     have H' := Aside0.mk H
     clear H
     go_wp2
     go_meet
     case rel => exact ⟨_, (false), er_, H', ⟨by have := HJ4.out; first | omega | exact Nat.le_refl _⟩, ⟨bx_ BK154⟩, ⟨bw_⟩⟩
    rw [if_neg c28] at H
    have c28b0 : (a1 == a2) = false := beq_eq_false_iff_ne.mpr c28
    have c28b1 : (a1 != a2) = true := bne_iff_ne.mpr c28
    (first | rw [c28b0] | (simp only [i64_w, i32_w]; rw [c28b0]) | skip)
    replace H := Option.bind_eq_some_iff.mp H
    obtain ⟨t159, A290, H⟩ := H
    have A29 := Aside0.mk A290
    clear A290
    have H' := Aside0.mk H
    clear H
    have hcz30_0 := cz_ BK154 0 (.int .i64 a0_0)
    have hcz30_1 := cz_ BK154 1 (.slice A0_1 l0_1.length c0_1)
    have hfz30_0 := fz_ BK154 0
    have hfz30_1 := fz_ BK154 1
    go_wp2_with (go_at_call 53; (with_reducible refine (spec_HopsTo.calls kj4 a0_0 _ _ l0_1 a1 a2 t159 _ ?side1 ?side2 A29.out).mono ?_); (case side1 => exact cb_ HR0_1 HB); (case side2 => exact HC0_1.out); rintro e w31 ⟨v160, rfl, ho0, hb⟩; have HO161 := Aside0.mk (Kd.R_lower ho0 (bz_ HB)); replace BK154 := ab_ BK154 hb; replace HB := at_ HB hb; (try clear hb); (try clear hb2); (try clear hk); (try clear hi); (try clear ho0); obtain ⟨Ao32, co32, eo32⟩ := Kd.R_slice HO161.out; subst eo32)
    go_meet
    case rel => exact ⟨_, (((t159.length : Int) == 0)), er_, H', ⟨by have := HJ4.out; first | omega | exact Nat.le_refl _⟩, ⟨bx_ BK154⟩, ⟨bw_⟩⟩
   case rest =>
    clear HC27
    try clear c1
    try clear c2
    try clear p2
    try clear c5
    try clear c8
    try clear c10
    try clear c12
    try clear c19
    try clear c26
    try clear c28
    try clear c28b0
    try clear c28b1
    try clear hcz14_0
    try clear hcz14_1
    try clear hcz16_0
    try clear hcz16_1
    try clear hcz18_0
    try clear hcz18_1
    try clear hcz20_0
    try clear hcz20_1
    try clear hcz22_0
    try clear hcz22_1
    try clear hcz24_0
    try clear hcz24_1
    try clear hcz30_0
    try clear hcz30_1
    try clear hfz14_0
    try clear hfz14_1
    try clear hfz16_0
    try clear hfz16_1
    try clear hfz18_0
    try clear hfz18_1
    try clear hfz20_0
    try clear hfz20_1
    try clear hfz22_0
    try clear hfz22_1
    try clear hfz24_0
    try clear hfz24_1
    try clear hfz30_0
    try clear hfz30_1
    try clear p2
    obtain ⟨kq, x47_26, rfl, HA, HJ26, BK154, HB⟩ := hcut
    cases kq with
    | zero => exact absurd HA.out (by simp [spec_Shares.j1])
    | succ kj26 =>
     have H := HA.out
     clear HA
     simp only [spec_Shares.j1] at H
     by_cases c33 : x47_26 = true
     ·subst c33
      rw [if_pos rfl] at H
      obtain rfl := Option.some.inj H
      go_wp2
      go_ret
      exact ⟨_, by first | rfl | (simp [errW_none, errW_some] <;> rfl) | (simp [*, errW_none, errW_some] <;> rfl), by first | exact Kd.R_nil _ _ _ _ _ | exact Kd.N_nil _ _ _ _ _ | exact Kd.V_nil _ _ _ _ _ | exact Kd.Q_nil _ _ _ _ _ | exact Kd.S_nil _ _ _ _ _, bw_⟩
     replace c33 := Bool.eq_false_iff.mpr c33
     subst c33
     rw [if_neg (show ¬ (false = true) by decide)] at H
     by_cases c34 : 0 ≤ a0_0
     rotate_left
     ·rw [if_neg c34] at H
      exact absurd H (by simp)
     rw [if_pos c34] at H
     have c34b0 := eq_true c34
     have c34b1 : decide (0 ≤ a0_0) = true := decide_eq_true c34
     clear c34
     by_cases c35 : (a0_0 : Int).toNat ≤ 35184372088832
     rotate_left
     ·rw [if_neg c35] at H
      exact absurd H (by simp)
     rw [if_pos c35] at H
     have c35b0 := eq_true c35
     have c35b1 : decide ((a0_0 : Int).toNat ≤ 35184372088832) = true := decide_eq_true c35
     clear c35
     obtain ⟨y162, hy162⟩ : ∃ y_ : List Int, y_ = (List.replicate (a0_0 : Int).toNat 0) := ⟨_, rfl⟩
     replace H : (if 0 ≤ a1 then (if a1 < (y162.length : Int) then (if (a0_0 : Int).toNat ≤ 281474976710656 then (spec_Shares.l0 kj26 a2 (y162.set (a1 : Int).toNat a3) (List.replicate (a0_0 : Int).toNat false) 0 a0_0 l0_1) else (none)) else (none)) else (none)) = some r := by first | (rw [hy162]; with_reducible exact H) | (have H2_ := (Option.bind_some _ _).symm.trans H; rw [hy162]; with_reducible exact H2_) | (have H2_ := (Option.bind_some _ _).symm.trans H; with_reducible exact H2_) | with_reducible exact H | (rw [hy162]; exact H) | exact H
     have Ny162 := Aside0.mk hy162
     clear hy162
     obtain ⟨c36b0, H⟩ := iq_ H
     obtain ⟨c37b0, H⟩ := iq_ H
     obtain ⟨y165, hy165⟩ : ∃ y_ : List Int, y_ = (y162.set (a1 : Int).toNat a3) := ⟨_, rfl⟩
     replace H : (if (a0_0 : Int).toNat ≤ 281474976710656 then (spec_Shares.l0 kj26 a2 y165 (List.replicate (a0_0 : Int).toNat false) 0 a0_0 l0_1) else (none)) = some r := by first | (rw [hy165]; with_reducible exact H) | (have H2_ := (Option.bind_some _ _).symm.trans H; rw [hy165]; with_reducible exact H2_) | (have H2_ := (Option.bind_some _ _).symm.trans H; with_reducible exact H2_) | with_reducible exact H | (rw [hy165]; exact H) | exact H
     have Ny165 := Aside0.mk hy165
     clear hy165
     by_cases c39 : (a0_0 : Int).toNat ≤ 281474976710656
     rotate_left
     ·rw [if_neg c39] at H
      exact absurd H (by simp)
     rw [if_pos c39] at H
     have c39b0 := eq_true c39
     have c39b1 : decide ((a0_0 : Int).toNat ≤ 281474976710656) = true := decide_eq_true c39
     clear c39
     obtain ⟨y166, hy166⟩ : ∃ y_ : List Bool, y_ = (List.replicate (a0_0 : Int).toNat false) := ⟨_, rfl⟩
     replace H : (spec_Shares.l0 kj26 a2 y165 y166 0 a0_0 l0_1) = some r := by first | (rw [hy166]; with_reducible exact H) | (have H2_ := (Option.bind_some _ _).symm.trans H; rw [hy166]; with_reducible exact H2_) | (have H2_ := (Option.bind_some _ _).symm.trans H; with_reducible exact H2_) | with_reducible exact H | (rw [hy166]; exact H) | exact H
     have Ny166 := Aside0.mk hy166
     clear hy166
     have H' := Aside0.mk H
     clear H
     have hcz40_0 := cz_ BK154 0 (.int .i64 a0_0)
     have hcz40_1 := cz_ BK154 1 (.slice A0_1 l0_1.length c0_1)
     have hfz40_0 := fz_ BK154 0
     have hfz40_1 := fz_ BK154 1
     go_wp2_with (first | ((with_reducible refine gate_dst (N := 50) rfl ?_); refine Kd.R_make (Kd.int .i64) _ 3 rfl (N := 50) rfl 26 _ _ rfl a0_0 rfl rfl Try.underlying26 (.int .i64 0) 8 info3 rfl (by decide) (by omega) 0 (ok := fun _ => True) (okp := fun _ => True) rfl (fun _ hk => hk) trivial oa_ (Nat.le_trans (Nat.mul_le_mul_right _ (oa_ : a0_0.toNat ≤ 35184372088832)) (by omega)) (Below.refl _ _) (Nat.le_refl _) ?_; intro v163 w41 ho42 hb hg_ hnew_; clear hg_ hnew_; (first | rw [← Ny162.out] at ho42 | (simp only [Int.reduceToNat] at ho42; rw [← Ny162.out] at ho42)); have HO164 := Aside0.mk (Kd.R_lower ho42 (bz_ HB)); replace BK154 := ab_ BK154 hb; replace HB := at_ HB hb; clear hb ho42; have p38 : 0 ≤ (a1 : Int) := oa_; have q38 : (a1 : Int) < ((y162.length : Int) : Int) := oa_; obtain ⟨go38, co38, eo38, gb38, gl38, cl38, HG38⟩ := Kd.R_form HO164.out (by omega); (first | cases eo38 | (injection eo38 with ea_ en_ ec_; (first | subst ea_ | (injection ea_ with ea_; subst ea_)); subst ec_; clear en_)); have GB38 := Aside0.mk gb38; have GG38 := Aside0.mk HG38; clear gb38 gl38 HG38; obtain ⟨hx38_0, hf38_0⟩ := Kd.R_celln 0 HO164.out (a1 : Int) p38 q38; replace p38 := eq_true p38; replace q38 := eq_true q38; obtain ⟨hy43_, hz43_⟩ := Kd.R_celln 0 HO164.out (a1 : Int) oa_ oa_; have HP43 := Kd.R_putg HO164.out (a1 : Int) a3) | ((with_reducible refine gate_store (t := 3) (p := 54) rfl ?_); refine store_event (t := 3) (p := 54) (v := ?vo_w44) (w1 := (w41.setCell ⟨go38, (a1 : Int).toNat, none⟩ (.int .i64 a3))) ?hg ?ho ?hn ?hr ?_; (case ho => rfl); (case hg => rfl); (case hn => rfl); (case hr => first | (go_simp; done) | (go_simp; rfl)); intro w44 hw; have hg : w41.grownBy w44 (some go38) := (by rw [hw]; exact HP43.2); have hp_ : Kd.R (Kd.int .i64) 3 w44 w.heap.size (fun _ => True) (.slice (some ⟨go38, 0, none⟩) y162.length co38) y165 := (by rw [hw, Ny165.out]; exact HP43.1); clear HP43; replace BK154 := Aside0.mk (blk_grown (g := gb154) (o := .cells #[.int .i64 a0_0, .slice A0_1 l0_1.length c0_1] 30 (0, 0)) (bx_ BK154) hg (Kd.R_ne HO164.out BK154.out (by decide))); replace HO164 := Aside0.mk (hp_); replace HB := Aside0.mk ((by rw [hw]; exact below_set (HB.out) GB38.out : Below w.heap.size w w44)); clear hg hw hp_; have hcz45_0 := cz_ BK154 0 (.int .i64 a0_0); have hcz45_1 := cz_ BK154 1 (.slice A0_1 l0_1.length c0_1); have hfz45_0 := fz_ BK154 0; have hfz45_1 := fz_ BK154 1) | ((with_reducible refine gate_dst (N := 57) rfl ?_); refine Kd.R_make Kd.bool _ 4 rfl (N := 57) rfl 69 _ _ rfl a0_0 rfl rfl Try.underlying69 (.bool false) 1 info4 rfl (by decide) (by omega) false (ok := fun _ => True) (okp := fun _ => True) rfl (fun _ hk => hk) trivial oa_ (Nat.le_trans (Nat.mul_le_mul_right _ (oa_ : a0_0.toNat ≤ 281474976710656)) (by omega)) (Below.refl _ _) (Nat.le_refl _) ?_; intro v167 w46 ho47 hb hg_ hnew_; clear hg_ hnew_; (first | rw [← Ny166.out] at ho47 | (simp only [Int.reduceToNat] at ho47; rw [← Ny166.out] at ho47)); have HO168 := Aside0.mk (Kd.R_lower ho47 (bz_ HB)); replace HO164 := rb_ HO164 hb; replace BK154 := ab_ BK154 hb; replace HB := at_ HB hb; clear hb ho47))
     go_loopg [11] kj26 (fun kq v11 w' => ∃ (x9_3 : List Int) (x10_3 : List Bool) (x11_3 : Int), v11 = .int .i64 x11_3 ∧ Aside0 (spec_Shares.l0 kq a2 x9_3 x10_3 x11_3 a0_0 l0_1 = some r) ∧ Aside0 (kq ≤ kj26) ∧ Aside0 (Kd.R (Kd.int .i64) 3 w' w.heap.size (fun _ => True) (.slice (some ⟨go38, 0, none⟩) y162.length co38) x9_3) ∧ Aside0 (Kd.R Kd.bool 4 w' w.heap.size (fun _ => True) v167 x10_3) ∧ Aside0 (w'.heap[gb154]? = some (.cells #[.int .i64 a0_0, (.slice A0_1 l0_1.length c0_1)] 30 (0, 0))) ∧ Aside0 (Below w.heap.size w w'))
     case atStart => exact ⟨(y165), (y166), (0), er_, H', ⟨Nat.le_refl _⟩, ⟨hd_ HO164⟩, ⟨hd_ HO168⟩, ⟨bx_ BK154⟩, ⟨bw_⟩⟩
     case round =>
      clear H'
      try clear c1
      try clear c2
      try clear p2
      try clear c3
      try clear p3
      try clear q3
      try clear hx3
      try clear c5
      try clear c8
      try clear c10
      try clear c12
      try clear c19
      try clear c26
      try clear c28
      try clear c28b0
      try clear c28b1
      try clear c33
      try clear c34
      try clear c34b0
      try clear c34b1
      try clear c35
      try clear c35b0
      try clear c35b1
      try clear c36
      try clear c36b0
      try clear c37
      try clear c37b0
      try clear p38
      try clear q38
      try clear hx38
      try clear hf38
      try clear c39
      try clear c39b0
      try clear c39b1
      try clear hcz14_0
      try clear hcz14_1
      try clear hcz16_0
      try clear hcz16_1
      try clear hcz18_0
      try clear hcz18_1
      try clear hcz20_0
      try clear hcz20_1
      try clear hcz22_0
      try clear hcz22_1
      try clear hcz24_0
      try clear hcz24_1
      try clear hcz30_0
      try clear hcz30_1
      try clear hcz40_0
      try clear hcz40_1
      try clear hcz45_0
      try clear hcz45_1
      try clear hfz14_0
      try clear hfz14_1
      try clear hfz16_0
      try clear hfz16_1
      try clear hfz18_0
      try clear hfz18_1
      try clear hfz20_0
      try clear hfz20_1
      try clear hfz22_0
      try clear hfz22_1
      try clear hfz24_0
      try clear hfz24_1
      try clear hfz30_0
      try clear hfz30_1
      try clear hfz40_0
      try clear hfz40_1
      try clear hfz45_0
      try clear hfz45_1
      try clear hx38_0
      try clear p2
      try clear p38
      try clear q38
      obtain ⟨x9_3, x10_3, x11_3, rfl, HA, HK3, HO_9, HO_10, BK154, HB⟩ := hrel
      have hl9_3 := (Kd.R_reads' HO_9.out).1
      rw [hl9_3] at HO_9
      (try simp only [hl9_3])
      (try simp only [hl9_3] at BK154)
      (try simp only [hl9_3] at HO_10)
      cases gk with
      | zero => exact absurd HA.out (by simp [spec_Shares.l0])
      | succ k3 =>
       have H := HA.out
       clear HA
       simp only [spec_Shares.l0] at H
       by_cases c48 : x11_3 < a0_0
       rotate_left
       ·rw [if_neg c48] at H
        have c48b0 : decide (x11_3 < a0_0) = false := decide_eq_false c48
        clear c48
        obtain rfl := Option.some.inj H
        have hcz122_0 := cz_ BK154 0 (.int .i64 a0_0)
        have hcz122_1 := cz_ BK154 1 (.slice A0_1 l0_1.length c0_1)
        have hfz122_0 := fz_ BK154 0
        have hfz122_1 := fz_ BK154 1
        go_wp2
        go_ret
        exact ⟨_, by first | rfl | (simp [errW_none, errW_some] <;> rfl) | (simp [*, errW_none, errW_some] <;> rfl), by (with_reducible repeat (first | apply Kd.R_alloc | apply Kd.R_drewN | apply Kd.R_drew)); exact HO_9.out, bw_⟩
       rw [if_pos c48] at H
       have c48b0 : decide (x11_3 < a0_0) = true := decide_eq_true c48
       clear c48
       have H' := Aside0.mk H
       clear H
       have hcz49_0 := cz_ BK154 0 (.int .i64 a0_0)
       have hcz49_1 := cz_ BK154 1 (.slice A0_1 l0_1.length c0_1)
       have hfz49_0 := fz_ BK154 0
       have hfz49_1 := fz_ BK154 1
       go_wp2
       go_loopg [12, 13] k3 (fun kq v12 v13 w' => ∃ (x12_4 : Int) (x13_4 : Int), v12 = .int .i64 x12_4 ∧ v13 = .int .i64 x13_4 ∧ Aside0 (spec_Shares.l1 kq a2 x9_3 x10_3 x11_3 x12_4 x13_4 a0_0 l0_1 = some r) ∧ Aside0 (kq ≤ k3) ∧ Aside0 (Kd.R (Kd.int .i64) 3 w' w.heap.size (fun _ => True) (.slice (some ⟨go38, 0, none⟩) x9_3.length co38) x9_3) ∧ Aside0 (Kd.R Kd.bool 4 w' w.heap.size (fun _ => True) v167 x10_3) ∧ Aside0 (w'.heap[gb154]? = some (.cells #[.int .i64 a0_0, (.slice A0_1 l0_1.length c0_1)] 30 (0, 0))) ∧ Aside0 (Below w.heap.size w w'))
       case atStart => exact ⟨((-1)), (0), er_, er_, H', ⟨Nat.le_refl _⟩, ⟨by (try simp only [hl9_3]); (with_reducible repeat (first | apply Kd.R_alloc | apply Kd.R_drewN | apply Kd.R_drew)); exact HO_9.out⟩, ⟨by (try simp only [hl9_3]); (with_reducible repeat (first | apply Kd.R_alloc | apply Kd.R_drewN | apply Kd.R_drew)); exact HO_10.out⟩, ⟨by (try simp only [hl9_3]); refine bd_ ?_; exact BK154.out⟩, ⟨bw_⟩⟩
       case round =>
        clear H'
        try clear c1
        try clear c2
        try clear p2
        try clear c3
        try clear p3
        try clear q3
        try clear hx3
        try clear c4
        try clear c5
        try clear c8
        try clear c10
        try clear c12
        try clear c19
        try clear c26
        try clear c28
        try clear c28b0
        try clear c28b1
        try clear c33
        try clear c34
        try clear c34b0
        try clear c34b1
        try clear c35
        try clear c35b0
        try clear c35b1
        try clear c36
        try clear c36b0
        try clear c37
        try clear c37b0
        try clear p38
        try clear q38
        try clear hx38
        try clear hf38
        try clear c39
        try clear c39b0
        try clear c39b1
        try clear c48
        try clear c48b0
        try clear hcz14_0
        try clear hcz14_1
        try clear hcz16_0
        try clear hcz16_1
        try clear hcz18_0
        try clear hcz18_1
        try clear hcz20_0
        try clear hcz20_1
        try clear hcz22_0
        try clear hcz22_1
        try clear hcz24_0
        try clear hcz24_1
        try clear hcz30_0
        try clear hcz30_1
        try clear hcz40_0
        try clear hcz40_1
        try clear hcz45_0
        try clear hcz45_1
        try clear hcz49_0
        try clear hcz49_1
        try clear hfz14_0
        try clear hfz14_1
        try clear hfz16_0
        try clear hfz16_1
        try clear hfz18_0
        try clear hfz18_1
        try clear hfz20_0
        try clear hfz20_1
        try clear hfz22_0
        try clear hfz22_1
        try clear hfz24_0
        try clear hfz24_1
        try clear hfz30_0
        try clear hfz30_1
        try clear hfz40_0
        try clear hfz40_1
        try clear hfz45_0
        try clear hfz45_1
        try clear hfz49_0
        try clear hfz49_1
        try clear hx38_0
        try clear p2
        try clear p3
        try clear p38
        try clear q3
        try clear q38
        obtain ⟨x12_4, x13_4, rfl, rfl, HA, HK4, HO_9, HO_10, BK154, HB⟩ := hrel
        cases gk with
        | zero => exact absurd HA.out (by simp [spec_Shares.l1])
        | succ k4 =>
         have H := HA.out
         clear HA
         simp only [spec_Shares.l1] at H
         by_cases c50 : x13_4 < a0_0
         rotate_left
         ·rw [if_neg c50] at H
          have c50b0 : decide (x13_4 < a0_0) = false := decide_eq_false c50
          clear c50
          by_cases c91 : x12_4 < 0
          ·rw [if_pos c91] at H
           have c91b0 : decide (x12_4 < 0) = true := decide_eq_true c91
           clear c91
           obtain rfl := Option.some.inj H
           have hcz92_0 := cz_ BK154 0 (.int .i64 a0_0)
           have hcz92_1 := cz_ BK154 1 (.slice A0_1 l0_1.length c0_1)
           have hfz92_0 := fz_ BK154 0
           have hfz92_1 := fz_ BK154 1
           go_wp2
           go_ret
           exact ⟨_, by first | rfl | (simp [errW_none, errW_some] <;> rfl) | (simp [*, errW_none, errW_some] <;> rfl), by (with_reducible repeat (first | apply Kd.R_alloc | apply Kd.R_drewN | apply Kd.R_drew)); exact HO_9.out, bw_⟩
          rw [if_neg c91] at H
          have c91b0 : decide (x12_4 < 0) = false := decide_eq_false c91
          clear c91
          obtain ⟨c93b0, H⟩ := iq_ H
          obtain ⟨c94b0, H⟩ := iq_ H
          obtain ⟨y179, hy179⟩ : ∃ y_ : List Bool, y_ = (x10_3.set (x12_4 : Int).toNat true) := ⟨_, rfl⟩
          replace H : ((spec_HopsTo.f k4 a0_0 l0_1 x12_4 a2).bind fun t180 => (spec_Shares.l2 k4 a2 x9_3 y179 x11_3 x12_4 t180 0 a0_0 l0_1)) = some r := by first | (rw [hy179]; with_reducible exact H) | (have H2_ := (Option.bind_some _ _).symm.trans H; rw [hy179]; with_reducible exact H2_) | (have H2_ := (Option.bind_some _ _).symm.trans H; with_reducible exact H2_) | with_reducible exact H | (rw [hy179]; exact H) | exact H
          have Ny179 := Aside0.mk hy179
          clear hy179
          replace H := Option.bind_eq_some_iff.mp H
          obtain ⟨t180, A960, H⟩ := H
          have A96 := Aside0.mk A960
          clear A960
          have H' := Aside0.mk H
          clear H
          have hcz97_0 := cz_ BK154 0 (.int .i64 a0_0)
          have hcz97_1 := cz_ BK154 1 (.slice A0_1 l0_1.length c0_1)
          have hfz97_0 := fz_ BK154 0
          have hfz97_1 := fz_ BK154 1
          have p95 : 0 ≤ (x12_4 : Int) := oa_
          have q95 : (x12_4 : Int) < ((x10_3.length : Int) : Int) := oa_
          obtain ⟨go95, co95, eo95, gb95, gl95, cl95, HG95⟩ := Kd.R_form HO_10.out (by omega)
          (first | cases eo95 | (injection eo95 with ea_ en_ ec_; (first | subst ea_ | (injection ea_ with ea_; subst ea_)); subst ec_; clear en_))
          have GB95 := Aside0.mk gb95
          have GG95 := Aside0.mk HG95
          clear gb95 gl95 HG95
          obtain ⟨hx95_0, hf95_0⟩ := Kd.R_celln false HO_10.out (x12_4 : Int) p95 q95
          replace p95 := eq_true p95
          replace q95 := eq_true q95
          have HP98 := Kd.R_putg HO_10.out (x12_4 : Int) true
          go_wp2_with (first | ((with_reducible refine gate_store (t := 4) (p := 111) rfl ?_); refine store_event (t := 4) (p := 111) (v := ?vo_w99) (w1 := (wr.setCell ⟨go95, (x12_4 : Int).toNat, none⟩ (.bool true))) ?hg ?ho ?hn ?hr ?_; (case ho => rfl); (case hg => rfl); (case hn => rfl); (case hr => first | (go_simp; done) | (go_simp; rfl)); intro w99 hw; have hg : wr.grownBy w99 (some go95) := (by rw [hw]; exact HP98.2); have hp_ : Kd.R Kd.bool 4 w99 w.heap.size (fun _ => True) (.slice (some ⟨go95, 0, none⟩) x10_3.length co95) y179 := (by rw [hw, Ny179.out]; exact HP98.1); clear HP98; replace HO_9 := Aside0.mk (Kd.R_over' (v := (.slice (some ⟨go95, 0, none⟩) x10_3.length co95)) (hd_ HO_9) (Kd.R_typed HO_10.out) (by decide) hg); replace BK154 := Aside0.mk (blk_grown (g := gb154) (o := .cells #[.int .i64 a0_0, .slice A0_1 l0_1.length c0_1] 30 (0, 0)) (bx_ BK154) hg (Kd.R_ne HO_10.out BK154.out (by decide))); replace HO_10 := Aside0.mk (hp_); replace HB := Aside0.mk ((by rw [hw]; exact below_set (HB.out) GB95.out : Below w.heap.size w w99)); clear hg hw hp_; have hcz100_0 := cz_ BK154 0 (.int .i64 a0_0); have hcz100_1 := cz_ BK154 1 (.slice A0_1 l0_1.length c0_1); have hfz100_0 := fz_ BK154 0; have hfz100_1 := fz_ BK154 1) | ((with_reducible refine gate_callee (f := 53) rfl ?_); refine gl_ (some 115) Try.func53 #[.agg #[.int .i64 a0_0, .slice A0_1 l0_1.length c0_1], .int .i64 x12_4, .int .i64 a2] ?_; (with_reducible refine (spec_HopsTo.calls k4 a0_0 _ _ l0_1 x12_4 a2 t180 _ ?side1 ?side2 A96.out).mono ?_); (case side1 => exact cb_ HR0_1 HB); (case side2 => exact HC0_1.out); rintro e w101 ⟨v181, rfl, ho0, hb⟩; refine ⟨_, rfl, ?_⟩; have HO182 := Aside0.mk (Kd.R_lower (Kd.R_new' ho0 (Kd.R_lt (hd_ HO_9))) (bz_ HB)); replace HO_10 := rb_ HO_10 hb; replace HO_9 := Aside0.mk (Kd.R_elder' (hd_ HO_9) (Kd.R_base ho0) hb); replace BK154 := ab_ BK154 hb; replace HB := at_ HB hb; (try clear hb); (try clear hb2); (try clear hk); (try clear hi); (try clear ho0)))
          (try simp only [Act.put, List.setIfInBounds_toArray, List.set_cons_zero, List.set_cons_succ])
          go_loopg [15] k4 (fun kq v15 w' => ∃ (x9_5 : List Int) (x15_5 : Int), v15 = .int .i64 x15_5 ∧ Aside0 (spec_Shares.l2 kq a2 x9_5 y179 x11_3 x12_4 t180 x15_5 a0_0 l0_1 = some r) ∧ Aside0 (kq ≤ k4) ∧ Aside0 (Kd.R (Kd.int .i64) 3 w' w.heap.size (fun k_ => some k_ ≠ (v181 : Value).ownBlock) (.slice (some ⟨go38, 0, none⟩) x9_3.length co38) x9_5) ∧ Aside0 (Kd.R Kd.bool 4 w' w.heap.size (fun _ => True) (.slice (some ⟨go95, 0, none⟩) x10_3.length co95) y179) ∧ Aside0 (Kd.R (Kd.int .i64) 3 w' w.heap.size (fun k_ => some k_ ≠ ((.slice (some ⟨go38, 0, none⟩) x9_3.length co38) : Value).ownBlock) v181 t180) ∧ Aside0 (w'.heap[gb154]? = some (.cells #[.int .i64 a0_0, (.slice A0_1 l0_1.length c0_1)] 30 (0, 0))) ∧ Aside0 (Below w.heap.size w w'))
          case atStart => exact ⟨(x9_3), (0), er_, H', ⟨Nat.le_refl _⟩, ⟨by (try simp only [hl9_3]); (with_reducible repeat (first | apply Kd.R_alloc | apply Kd.R_drewN | apply Kd.R_drew)); exact Kd.R_mono HO_9.out (fun _ hk => hk.2)⟩, ⟨by (try simp only [hl9_3]); (with_reducible repeat (first | apply Kd.R_alloc | apply Kd.R_drewN | apply Kd.R_drew)); exact HO_10.out⟩, ⟨by (try simp only [hl9_3]); (with_reducible repeat (first | apply Kd.R_alloc | apply Kd.R_drewN | apply Kd.R_drew)); exact Kd.R_mono HO182.out (fun _ hk => hk.2)⟩, ⟨by (try simp only [hl9_3]); refine bd_ ?_; exact BK154.out⟩, ⟨bw_⟩⟩
          case round =>
           clear H'
           try clear p1
           try clear q1
           try clear hx1
           try clear p2
           try clear c3
           try clear c5
           try clear q5
           try clear c6
           try clear p6
           try clear c7
           try clear c9
           try clear p9
           try clear q9
           try clear hx9
           try clear hf9
           try clear p16
           try clear q16
           try clear hx16
           try clear p17
           try clear q17
           try clear hx17
           try clear c33
           try clear c50
           try clear c50b0
           try clear c51
           try clear c52
           try clear c53
           try clear q53
           try clear c62
           try clear c63
           try clear c63b0
           try clear p64
           try clear c69
           try clear c70
           try clear c72
           try clear c91
           try clear c91b0
           try clear c93
           try clear c93b0
           try clear c94
           try clear c94b0
           try clear p95
           try clear q95
           try clear hx95
           try clear hf95
           try clear hcz100_0
           try clear hcz100_1
           try clear hcz88_0
           try clear hcz88_1
           try clear hcz92_0
           try clear hcz92_1
           try clear hcz97_0
           try clear hcz97_1
           try clear hfz100_0
           try clear hfz100_1
           try clear hfz88_0
           try clear hfz88_1
           try clear hfz92_0
           try clear hfz92_1
           try clear hfz97_0
           try clear hfz97_1
           try clear hx169_0
           try clear hx170_0
           try clear hx174_0
           try clear hx178_0
           try clear hx95_0
           try clear p169
           try clear p170
           try clear p174
           try clear p178
           try clear p95
           try clear q169
           try clear q170
           try clear q174
           try clear q178
           try clear q95
           obtain ⟨x9_5, x15_5, rfl, HA, HK5, HO_9, HO_10, HO_14, BK154, HB⟩ := hrel
           have hl9_5 := (Kd.R_reads' HO_9.out).1
           rw [hl9_5] at HO_9
           (try simp only [hl9_5])
           (try simp only [hl9_5] at BK154)
           (try simp only [hl9_5] at HO_10)
           (try simp only [hl9_5] at HO_14)
           have hl10_5 := (Kd.R_reads' HO_10.out).1
           rw [hl10_5] at HO_10
           (try simp only [hl10_5])
           (try simp only [hl10_5] at BK154)
           (try simp only [hl10_5] at HO_9)
           (try simp only [hl10_5] at HO_14)
           cases gk with
           | zero => exact absurd HA.out (by simp [spec_Shares.l2])
           | succ k5 =>
            have H := HA.out
            clear HA
            simp only [spec_Shares.l2] at H
            by_cases c102 : x15_5 < (t180.length : Int)
            rotate_left
            ·rw [if_neg c102] at H
             have c102b0 : decide (x15_5 < (t180.length : Int)) = false := decide_eq_false c102
             (try simp only [hl9_3] at c102b0)
             (try simp only [hl9_5] at c102b0)
             (try simp only [hl10_5] at c102b0)
             clear c102
             have H' := Aside0.mk H
             clear H
             obtain ⟨Ao121, co121, eo121⟩ := Kd.R_slice HO_14.out
             subst eo121
             go_wp2
             (try simp only [← hl9_3, ← hl9_5, ← hl10_5])
             go_roundg k5
             case measure => have := HJ4.out; have := HJ26.out; have := HK3.out; have := HK4.out; have := HK5.out; omega
             case rel => exact ⟨(x9_5), (y179), (wrap64 (x11_3 + 1)), er_, H', ⟨by have := HJ4.out; have := HJ26.out; have := HK3.out; have := HK4.out; have := HK5.out; omega⟩, ⟨by (try simp only [hl9_3]); (try simp only [hl9_5]); (try simp only [hl10_5]); (with_reducible repeat (first | apply Kd.R_alloc | apply Kd.R_drewN | apply Kd.R_drew)); exact Kd.R_mono HO_9.out (fun _ hk => trivial)⟩, ⟨by (try simp only [hl9_3]); (try simp only [hl9_5]); (try simp only [hl10_5]); (with_reducible repeat (first | apply Kd.R_alloc | apply Kd.R_drewN | apply Kd.R_drew)); exact HO_10.out⟩, ⟨by (try simp only [hl9_3]); (try simp only [hl9_5]); (try simp only [hl10_5]); refine bd_ ?_; exact BK154.out⟩, ⟨bw_⟩⟩
            rw [if_pos c102] at H
            have c102b0 : decide (x15_5 < (t180.length : Int)) = true := decide_eq_true c102
            clear c102
            obtain ⟨c103b0, H⟩ := iq_ H
            obtain ⟨c104b0, H⟩ := iq_ H
            by_cases c105 : (t180.length : Int) = 0
            ·rw [if_pos c105] at H
             exact absurd H (by simp)
            rw [if_neg c105] at H
            have c105b0 : ((t180.length : Int) == 0) = false := beq_eq_false_iff_ne.mpr c105
            have c105b1 : ((t180.length : Int) != 0) = true := bne_iff_ne.mpr c105
            have c105b2 : ¬ (t180 = []) := fun h_ => c105 (by rw [h_]; rfl)
            by_cases c106 : x15_5 < (Int.tmod (rd x9_5 x12_4) (t180.length : Int))
            ·rw [if_pos c106] at H
             have c106b0 : decide (x15_5 < (Int.tmod (rd x9_5 x12_4) (t180.length : Int))) = true := decide_eq_true c106
             clear c106
             obtain ⟨c107b0, H⟩ := iq_ H
             obtain ⟨c108b0, H⟩ := iq_ H
             obtain ⟨c109b0, H⟩ := iq_ H
             obtain ⟨y188, hy188⟩ : ∃ y_ : List Int, y_ = (x9_5.set ((rd t180 x15_5) : Int).toNat (wrap64 ((rd x9_5 (rd t180 x15_5)) + (wrap64 ((wrap64 (Int.tdiv (rd x9_5 x12_4) (t180.length : Int))) + 1))))) := ⟨_, rfl⟩
             replace H : (spec_Shares.l2 k5 a2 y188 y179 x11_3 x12_4 t180 (wrap64 (x15_5 + 1)) a0_0 l0_1) = some r := by first | (rw [hy188]; with_reducible exact H) | (have H2_ := (Option.bind_some _ _).symm.trans H; rw [hy188]; with_reducible exact H2_) | (have H2_ := (Option.bind_some _ _).symm.trans H; with_reducible exact H2_) | with_reducible exact H | (rw [hy188]; exact H) | exact H
             have Ny188 := Aside0.mk hy188
             clear hy188
             have H' := Aside0.mk H
             clear H
             obtain ⟨Ao111, co111, eo111⟩ := Kd.R_slice HO_14.out
             subst eo111
             have p183 : 0 ≤ (x12_4 : Int) := oa_
             have q183 : x12_4 < (x9_5.length : Int) := oa_
             obtain ⟨ad183, e183, hx183_0⟩ := Kd.at_int (Kd.R_reads' HO_9.out).2.2 x12_4 p183 q183
             obtain rfl : (⟨go38, 0, none⟩ : Addr) = ad183 := (by injection e183)
             (first | simp only [add_plain] at hx183_0 | simp only [add_at] at hx183_0 | simp only [Addr.add, Nat.zero_add] at hx183_0 | skip)
             replace p183 := eq_true p183
             replace q183 := eq_true q183
             have p184 : 0 ≤ (x12_4 : Int) := oa_
             have q184 : x12_4 < (x9_5.length : Int) := oa_
             obtain ⟨ad184, e184, hx184_0⟩ := Kd.at_int (Kd.R_reads' HO_9.out).2.2 x12_4 p184 q184
             obtain rfl : (⟨go38, 0, none⟩ : Addr) = ad184 := (by injection e184)
             (first | simp only [add_plain] at hx184_0 | simp only [add_at] at hx184_0 | simp only [Addr.add, Nat.zero_add] at hx184_0 | skip)
             replace p184 := eq_true p184
             replace q184 := eq_true q184
             try go_wp2
             replace HO_9 := Aside0.mk (Kd.R_drew HO_9.out)
             replace HO_10 := Aside0.mk (Kd.R_drew HO_10.out)
             replace HO_14 := Aside0.mk (Kd.R_drew HO_14.out)
             replace BK154 := ad_ BK154
             replace HB := Aside0.mk (below_drew1 HB.out)
             have p185 : 0 ≤ (x15_5 : Int) := oa_
             have q185 : x15_5 < (t180.length : Int) := oa_
             obtain ⟨ad185, e185, hx185_0⟩ := Kd.at_int (Kd.R_reads' HO_14.out).2.2 x15_5 p185 q185
             cases e185
             replace p185 := eq_true p185
             replace q185 := eq_true q185
             have p186 : 0 ≤ (x15_5 : Int) := oa_
             have q186 : x15_5 < (t180.length : Int) := oa_
             obtain ⟨ad186, e186, hx186_0⟩ := Kd.at_int (Kd.R_reads' HO_14.out).2.2 x15_5 p186 q186
             obtain rfl : ad185 = ad186 := (by injection e186)
             replace p186 := eq_true p186
             replace q186 := eq_true q186
             have p187 : 0 ≤ ((rd t180 x15_5) : Int) := oa_
             have q187 : (rd t180 x15_5) < (x9_5.length : Int) := oa_
             obtain ⟨ad187, e187, hx187_0⟩ := Kd.at_int (Kd.R_reads' HO_9.out).2.2 (rd t180 x15_5) p187 q187
             obtain rfl : (⟨go38, 0, none⟩ : Addr) = ad187 := (by injection e187)
             (first | simp only [add_plain] at hx187_0 | simp only [add_at] at hx187_0 | simp only [Addr.add, Nat.zero_add] at hx187_0 | skip)
             replace p187 := eq_true p187
             replace q187 := eq_true q187
             have p110 : 0 ≤ ((rd t180 x15_5) : Int) := oa_
             have q110 : ((rd t180 x15_5) : Int) < ((x9_5.length : Int) : Int) := oa_
             obtain ⟨hx110_0, hf110_0⟩ := Kd.R_celln 0 HO_9.out ((rd t180 x15_5) : Int) p110 q110
             replace p110 := eq_true p110
             replace q110 := eq_true q110
             have HP113 := Kd.R_putn HO_9.out ((rd t180 x15_5) : Int) (wrap64 ((rd x9_5 (rd t180 x15_5)) + (wrap64 ((wrap64 (Int.tdiv (rd x9_5 x12_4) (t180.length : Int))) + 1))))
             rw [← Ny188.out] at HP113
             have HQ113 := Aside0.mk HP113
             clear HP113
             refine start_ (n := 16) (S := fun w' => w'.cell? (ad185.add (x15_5).toNat) = some (.int .i64 (rd t180 x15_5)) ∧ w'.cell? (ad185.add (x15_5).toNat) = some (.int .i64 (rd t180 x15_5)) ∧ w'.cell? ⟨go38, ((rd t180 x15_5)).toNat, none⟩ = some (.int .i64 (rd x9_5 (rd t180 x15_5)))) (ds := [15]) ba4_46 (by kernel_rfl) rfl rfl ⟨hx185_0, hx186_0, hx187_0⟩ (fun hHeld => ?_); refine with_tabW spec_Shares.tab26 spec_Shares.bits26 (fun HT_ HW_ => ?_)
             generalize wr.drew = w112 at HO_9 HO_10 HO_14 BK154 HB HQ113 hf110_0 hx110_0 hx185_0 hx186_0 hx187_0 hHeld ⊢
             refine pz_ 0 140 ba4_47 HT_ ?_
             refine pz_ 1 141 ba4_48 HT_ ?_
             refine pz_ 2 142 ba4_49 HT_ ?_
             refine pz_ 3 143 ba4_50 HT_ ?_
             refine pz_ 5 145 ba4_51 HT_ ?_
             refine pz_ 6 146 ba4_52 HT_ ?_
             refine pz_ 7 147 ba4_53 HT_ ?_
             refine pz_ 8 148 ba4_54 HT_ ?_
             refine pz_ 12 152 ba4_55 HT_ ?_
             refine pt_ 4 144 ba4_56 HT_ HW_ hHeld ?_
             refine pt_ 9 149 ba4_57 HT_ HW_ hHeld ?_
             refine pz_ 10 150 ba4_58 HT_ ?_
             refine pt_ 11 151 ba4_59 HT_ HW_ hHeld ?_
             refine pz_ 13 153 ba4_60 HT_ ?_
             refine pz_ 14 154 ba4_61 HT_ ?_
             refine last_ (i := 15) (N := none) ba4_62 rfl rfl (one_of HT_.out (by kernel_rfl)) (by decide) (fun K hK => ?_)
             refine skip_ (w1 := ?_) (by rfl) rfl ?_ ?_
             rotate_left; · go_simp; rfl
             refine hK.out _ _ ?_
             clear hK K
             refine done_ (done_of HT_.out (by kernel_rfl)) ?_
             try go_wp2
             (try simp only [← hl9_5, ← hl10_5])
             go_roundg k5
             case measure => have := HJ4.out; have := HJ26.out; have := HK3.out; have := HK4.out; have := HK5.out; omega
             case rel => exact ⟨(y188), (wrap64 (x15_5 + 1)), er_, H', ⟨by have := HJ4.out; have := HJ26.out; have := HK3.out; have := HK4.out; have := HK5.out; omega⟩, ⟨by (try simp only [hl9_3]); (try simp only [hl9_5]); (try simp only [hl10_5]); (with_reducible repeat (first | apply Kd.R_alloc | apply Kd.R_drewN | apply Kd.R_drew)); exact HQ113.out⟩, ⟨by (try simp only [hl9_3]); (try simp only [hl9_5]); (try simp only [hl10_5]); (with_reducible repeat (first | apply Kd.R_alloc | apply Kd.R_drewN | apply Kd.R_drew)); exact Kd.R_mono (Kd.R_far (p := ⟨go38, ((rd t180 x15_5) : Int).toNat, none⟩) (R_typesR HO_10.out HO_9.out (by decide)) (fun _ hk => hk.2) (.int .i64 (wrap64 ((rd x9_5 (rd t180 x15_5)) + (wrap64 ((wrap64 (Int.tdiv (rd x9_5 x12_4) (t180.length : Int))) + 1)))))) (fun _ hk => trivial)⟩, ⟨by (try simp only [hl9_3]); (try simp only [hl9_5]); (try simp only [hl10_5]); (with_reducible repeat (first | apply Kd.R_alloc | apply Kd.R_drewN | apply Kd.R_drew)); exact Kd.R_mono (Kd.R_far (p := ⟨go38, ((rd t180 x15_5) : Int).toNat, none⟩) (Kd.R_mono HO_14.out (fun k_ hk => (⟨hk, fun e_ => hk (by rw [e_]; rfl)⟩ : _ ∧ k_ ≠ go38))) (fun _ hk => hk.2) (.int .i64 (wrap64 ((rd x9_5 (rd t180 x15_5)) + (wrap64 ((wrap64 (Int.tdiv (rd x9_5 x12_4) (t180.length : Int))) + 1)))))) (fun _ hk => hk.1)⟩, ⟨by (try simp only [hl9_3]); (try simp only [hl9_5]); (try simp only [hl10_5]); refine bd_ ?_; refine blk_far ?_ (by have h_ := Kd.R_ne HO_9.out BK154.out (by decide); intro e_; exact h_ (by rw [e_]; rfl)) _; refine bd_ ?_; exact BK154.out⟩, ⟨by repeat (first | (with_reducible first | exact HB.out | apply below_alloc | apply pw_below_drewN | apply below_drew1 | refine below_set ?_ GB38.out | refine below_set ?_ GE154.out) | exact HB.out)⟩⟩
            rw [if_neg c106] at H
            have c106b0 : decide (x15_5 < (Int.tmod (rd x9_5 x12_4) (t180.length : Int))) = false := decide_eq_false c106
            clear c106
            obtain ⟨c114b0, H⟩ := iq_ H
            obtain ⟨c115b0, H⟩ := iq_ H
            obtain ⟨c116b0, H⟩ := iq_ H
            obtain ⟨y192, hy192⟩ : ∃ y_ : List Int, y_ = (x9_5.set ((rd t180 x15_5) : Int).toNat (wrap64 ((rd x9_5 (rd t180 x15_5)) + (wrap64 (Int.tdiv (rd x9_5 x12_4) (t180.length : Int)))))) := ⟨_, rfl⟩
            replace H : (spec_Shares.l2 k5 a2 y192 y179 x11_3 x12_4 t180 (wrap64 (x15_5 + 1)) a0_0 l0_1) = some r := by first | (rw [hy192]; with_reducible exact H) | (have H2_ := (Option.bind_some _ _).symm.trans H; rw [hy192]; with_reducible exact H2_) | (have H2_ := (Option.bind_some _ _).symm.trans H; with_reducible exact H2_) | with_reducible exact H | (rw [hy192]; exact H) | exact H
            have Ny192 := Aside0.mk hy192
            clear hy192
            have H' := Aside0.mk H
            clear H
            obtain ⟨Ao118, co118, eo118⟩ := Kd.R_slice HO_14.out
            subst eo118
            have p183 : 0 ≤ (x12_4 : Int) := oa_
            have q183 : x12_4 < (x9_5.length : Int) := oa_
            obtain ⟨ad183, e183, hx183_0⟩ := Kd.at_int (Kd.R_reads' HO_9.out).2.2 x12_4 p183 q183
            obtain rfl : (⟨go38, 0, none⟩ : Addr) = ad183 := (by injection e183)
            (first | simp only [add_plain] at hx183_0 | simp only [add_at] at hx183_0 | simp only [Addr.add, Nat.zero_add] at hx183_0 | skip)
            replace p183 := eq_true p183
            replace q183 := eq_true q183
            have p184 : 0 ≤ (x12_4 : Int) := oa_
            have q184 : x12_4 < (x9_5.length : Int) := oa_
            obtain ⟨ad184, e184, hx184_0⟩ := Kd.at_int (Kd.R_reads' HO_9.out).2.2 x12_4 p184 q184
            obtain rfl : (⟨go38, 0, none⟩ : Addr) = ad184 := (by injection e184)
            (first | simp only [add_plain] at hx184_0 | simp only [add_at] at hx184_0 | simp only [Addr.add, Nat.zero_add] at hx184_0 | skip)
            replace p184 := eq_true p184
            replace q184 := eq_true q184
            try go_wp2
            replace HO_9 := Aside0.mk (Kd.R_drew HO_9.out)
            replace HO_10 := Aside0.mk (Kd.R_drew HO_10.out)
            replace HO_14 := Aside0.mk (Kd.R_drew HO_14.out)
            replace BK154 := ad_ BK154
            replace HB := Aside0.mk (below_drew1 HB.out)
            have p189 : 0 ≤ (x15_5 : Int) := oa_
            have q189 : x15_5 < (t180.length : Int) := oa_
            obtain ⟨ad189, e189, hx189_0⟩ := Kd.at_int (Kd.R_reads' HO_14.out).2.2 x15_5 p189 q189
            cases e189
            replace p189 := eq_true p189
            replace q189 := eq_true q189
            have p190 : 0 ≤ (x15_5 : Int) := oa_
            have q190 : x15_5 < (t180.length : Int) := oa_
            obtain ⟨ad190, e190, hx190_0⟩ := Kd.at_int (Kd.R_reads' HO_14.out).2.2 x15_5 p190 q190
            obtain rfl : ad189 = ad190 := (by injection e190)
            replace p190 := eq_true p190
            replace q190 := eq_true q190
            have p191 : 0 ≤ ((rd t180 x15_5) : Int) := oa_
            have q191 : (rd t180 x15_5) < (x9_5.length : Int) := oa_
            obtain ⟨ad191, e191, hx191_0⟩ := Kd.at_int (Kd.R_reads' HO_9.out).2.2 (rd t180 x15_5) p191 q191
            obtain rfl : (⟨go38, 0, none⟩ : Addr) = ad191 := (by injection e191)
            (first | simp only [add_plain] at hx191_0 | simp only [add_at] at hx191_0 | simp only [Addr.add, Nat.zero_add] at hx191_0 | skip)
            replace p191 := eq_true p191
            replace q191 := eq_true q191
            have p117 : 0 ≤ ((rd t180 x15_5) : Int) := oa_
            have q117 : ((rd t180 x15_5) : Int) < ((x9_5.length : Int) : Int) := oa_
            obtain ⟨hx117_0, hf117_0⟩ := Kd.R_celln 0 HO_9.out ((rd t180 x15_5) : Int) p117 q117
            replace p117 := eq_true p117
            replace q117 := eq_true q117
            have HP120 := Kd.R_putn HO_9.out ((rd t180 x15_5) : Int) (wrap64 ((rd x9_5 (rd t180 x15_5)) + (wrap64 (Int.tdiv (rd x9_5 x12_4) (t180.length : Int)))))
            rw [← Ny192.out] at HP120
            have HQ120 := Aside0.mk HP120
            clear HP120
            refine start_ (n := 16) (S := fun w' => w'.cell? (ad189.add (x15_5).toNat) = some (.int .i64 (rd t180 x15_5)) ∧ w'.cell? (ad189.add (x15_5).toNat) = some (.int .i64 (rd t180 x15_5)) ∧ w'.cell? ⟨go38, ((rd t180 x15_5)).toNat, none⟩ = some (.int .i64 (rd x9_5 (rd t180 x15_5)))) (ds := [15]) ba4_46 (by kernel_rfl) rfl rfl ⟨hx189_0, hx190_0, hx191_0⟩ (fun hHeld => ?_); refine with_tabW spec_Shares.tab26 spec_Shares.bits26 (fun HT_ HW_ => ?_)
            generalize wr.drew = w119 at HO_9 HO_10 HO_14 BK154 HB HQ120 hf117_0 hx117_0 hx189_0 hx190_0 hx191_0 hHeld ⊢
            refine pz_ 0 140 ba4_47 HT_ ?_
            refine pz_ 1 141 ba4_48 HT_ ?_
            refine pz_ 2 142 ba4_49 HT_ ?_
            refine pz_ 3 143 ba4_50 HT_ ?_
            refine pz_ 5 145 ba4_51 HT_ ?_
            refine pz_ 6 146 ba4_52 HT_ ?_
            refine pz_ 7 147 ba4_53 HT_ ?_
            refine pz_ 8 148 ba4_54 HT_ ?_
            refine pz_ 12 152 ba4_55 HT_ ?_
            refine pt_ 4 144 ba4_56 HT_ HW_ hHeld ?_
            refine pt_ 9 149 ba4_57 HT_ HW_ hHeld ?_
            refine pz_ 10 150 ba4_58 HT_ ?_
            refine pt_ 11 151 ba4_59 HT_ HW_ hHeld ?_
            refine pz_ 13 153 ba4_60 HT_ ?_
            refine pz_ 14 154 ba4_61 HT_ ?_
            refine last_ (i := 15) (N := none) ba4_62 rfl rfl (one_of HT_.out (by kernel_rfl)) (by decide) (fun K hK => ?_)
            refine skip_ (w1 := ?_) (by rfl) rfl ?_ ?_
            rotate_left; · go_simp; rfl
            refine hK.out _ _ ?_
            clear hK K
            refine done_ (done_of HT_.out (by kernel_rfl)) ?_
            try go_wp2
            (try simp only [← hl9_5, ← hl10_5])
            go_roundg k5
            case measure => have := HJ4.out; have := HJ26.out; have := HK3.out; have := HK4.out; have := HK5.out; omega
            case rel => exact ⟨(y192), (wrap64 (x15_5 + 1)), er_, H', ⟨by have := HJ4.out; have := HJ26.out; have := HK3.out; have := HK4.out; have := HK5.out; omega⟩, ⟨by (try simp only [hl9_3]); (try simp only [hl9_5]); (try simp only [hl10_5]); (with_reducible repeat (first | apply Kd.R_alloc | apply Kd.R_drewN | apply Kd.R_drew)); exact HQ120.out⟩, ⟨by (try simp only [hl9_3]); (try simp only [hl9_5]); (try simp only [hl10_5]); (with_reducible repeat (first | apply Kd.R_alloc | apply Kd.R_drewN | apply Kd.R_drew)); exact Kd.R_mono (Kd.R_far (p := ⟨go38, ((rd t180 x15_5) : Int).toNat, none⟩) (R_typesR HO_10.out HO_9.out (by decide)) (fun _ hk => hk.2) (.int .i64 (wrap64 ((rd x9_5 (rd t180 x15_5)) + (wrap64 (Int.tdiv (rd x9_5 x12_4) (t180.length : Int))))))) (fun _ hk => trivial)⟩, ⟨by (try simp only [hl9_3]); (try simp only [hl9_5]); (try simp only [hl10_5]); (with_reducible repeat (first | apply Kd.R_alloc | apply Kd.R_drewN | apply Kd.R_drew)); exact Kd.R_mono (Kd.R_far (p := ⟨go38, ((rd t180 x15_5) : Int).toNat, none⟩) (Kd.R_mono HO_14.out (fun k_ hk => (⟨hk, fun e_ => hk (by rw [e_]; rfl)⟩ : _ ∧ k_ ≠ go38))) (fun _ hk => hk.2) (.int .i64 (wrap64 ((rd x9_5 (rd t180 x15_5)) + (wrap64 (Int.tdiv (rd x9_5 x12_4) (t180.length : Int))))))) (fun _ hk => hk.1)⟩, ⟨by (try simp only [hl9_3]); (try simp only [hl9_5]); (try simp only [hl10_5]); refine bd_ ?_; refine blk_far ?_ (by have h_ := Kd.R_ne HO_9.out BK154.out (by decide); intro e_; exact h_ (by rw [e_]; rfl)) _; refine bd_ ?_; exact BK154.out⟩, ⟨by repeat (first | (with_reducible first | exact HB.out | apply below_alloc | apply pw_below_drewN | apply below_drew1 | refine below_set ?_ GB38.out | refine below_set ?_ GE154.out) | exact HB.out)⟩⟩
         rw [if_pos c50] at H
         have c50b0 : decide (x13_4 < a0_0) = true := decide_eq_true c50
         clear c50
         obtain ⟨c51b0, H⟩ := iq_ H
         obtain ⟨c52b0, H⟩ := iq_ H
         obtain ⟨bq53, hbq53⟩ : ∃ b_ : Bool, b_ = (rdOf false x10_3 x13_4) := ⟨_, rfl⟩
         replace H : (if bq53 = true then (spec_Shares.l1 k4 a2 x9_3 x10_3 x11_3 x12_4 (wrap64 (x13_4 + 1)) a0_0 l0_1) else (if x13_4 = a2 then (spec_Shares.l1 k4 a2 x9_3 x10_3 x11_3 x12_4 (wrap64 (x13_4 + 1)) a0_0 l0_1) else (if x13_4 < (x9_3.length : Int) then (if (rd x9_3 x13_4) > 0 then (if x12_4 < 0 then (spec_Shares.l1 k4 a2 x9_3 x10_3 x11_3 x13_4 (wrap64 (x13_4 + 1)) a0_0 l0_1) else ((spec_Distances.f k4 a0_0 l0_1 x13_4).bind fun t171 => (if 0 ≤ a2 then (if a2 < (t171.length : Int) then ((spec_Distances.f k4 a0_0 l0_1 x12_4).bind fun t175 => (if a2 < (t175.length : Int) then (if (rd t171 a2) > (rd t175 a2) then (spec_Shares.l1 k4 a2 x9_3 x10_3 x11_3 x13_4 (wrap64 (x13_4 + 1)) a0_0 l0_1) else (spec_Shares.l1 k4 a2 x9_3 x10_3 x11_3 x12_4 (wrap64 (x13_4 + 1)) a0_0 l0_1)) else (none))) else (none)) else (none)))) else (spec_Shares.l1 k4 a2 x9_3 x10_3 x11_3 x12_4 (wrap64 (x13_4 + 1)) a0_0 l0_1)) else (none)))) = some r := by rw [← hbq53] at H; exact H
         have Nbq53 := Aside0.mk hbq53
         clear hbq53
         by_cases c54 : bq53 = true
         ·subst c54
          rw [if_pos rfl] at H
          have H' := Aside0.mk H
          clear H
          have hcz55_0 := cz_ BK154 0 (.int .i64 a0_0)
          have hcz55_1 := cz_ BK154 1 (.slice A0_1 l0_1.length c0_1)
          have hfz55_0 := fz_ BK154 0
          have hfz55_1 := fz_ BK154 1
          try go_wp2
          replace HO_9 := Aside0.mk (Kd.R_drew HO_9.out)
          replace HO_10 := Aside0.mk (Kd.R_drew HO_10.out)
          replace BK154 := ad_ BK154
          replace HB := Aside0.mk (below_drew1 HB.out)
          obtain ⟨Ao57, co57, eo57⟩ := Kd.R_slice HO_10.out
          (first | subst eo57 | (injection eo57 with f1_ f2_ f3_; have f4_ := f1_.symm; have f5_ := f3_.symm; clear f1_ f2_ f3_; subst f4_; subst f5_))
          have p169 : 0 ≤ (x13_4 : Int) := oa_
          have q169 : x13_4 < (x10_3.length : Int) := oa_
          obtain ⟨ad169, e169, hx169_0⟩ := Kd.at_bool (Kd.R_reads' HO_10.out).2.2 x13_4 p169 q169
          (try rw [← Nbq53.out] at hx169_0)
          cases e169
          replace p169 := eq_true p169
          replace q169 := eq_true q169
          refine start_ (n := 36) (S := fun w' => w'.cell? (ad169.add (x13_4).toNat) = some (.bool true)) (ds := []) ba4_0 (by kernel_rfl) rfl rfl (hx169_0) (fun hHeld => ?_); refine with_tabW spec_Shares.tab15 spec_Shares.bits15 (fun HT_ HW_ => ?_)
          generalize wr.drew = w56 at HO_9 HO_10 BK154 HB hx169_0 hHeld ⊢
          refine pz_ 0 70 ba4_1 HT_ ?_
          refine pz_ 1 71 ba4_2 HT_ ?_
          refine pz_ 2 72 ba4_3 HT_ ?_
          refine take_ (i := 3) (N := some 73) (v := ?_) (a' := ?_) ba4_4 rfl rfl (take_ofW HT_.out HW_.out (by kernel_rfl)) (fun _ _ _ h => h) (Or.inl ⟨by rfl, ?_⟩) hHeld ?_ ?_
          rotate_left; · intro w' s0; go_simp; with_reducible rfl
          rotate_left; · simp only [Act.put, List.setIfInBounds_toArray, List.set_cons_zero, List.set_cons_succ, i64_w, i32_w]; rfl
          refine pz_ 4 74 ba4_5 HT_ ?_
          refine pz_ 5 75 ba4_6 HT_ ?_
          refine pu_ 6 76 ba4_7 HT_ ?_
          refine pu_ 7 77 ba4_8 HT_ ?_
          refine pu_ 8 78 ba4_9 HT_ ?_
          refine pz_ 9 79 ba4_10 HT_ ?_
          refine pz_ 10 80 ba4_11 HT_ ?_
          refine pu_ 11 81 ba4_12 HT_ ?_
          refine pu_ 12 82 ba4_13 HT_ ?_
          refine pu_ 13 83 ba4_14 HT_ ?_
          refine pu_ 14 84 ba4_15 HT_ ?_
          refine pu_ 15 85 ba4_16 HT_ ?_
          refine pz_ 16 86 ba4_17 HT_ ?_
          refine pz_ 17 87 ba4_18 HT_ ?_
          refine pu_ 18 88 ba4_19 HT_ ?_
          refine pu_ 19 89 ba4_20 HT_ ?_
          refine pu_ 20 90 ba4_21 HT_ ?_
          refine pu_ 21 91 ba4_22 HT_ ?_
          refine pu_ 22 92 ba4_23 HT_ ?_
          refine pu_ 23 93 ba4_24 HT_ ?_
          refine pu_ 24 94 ba4_25 HT_ ?_
          refine pu_ 25 95 ba4_26 HT_ ?_
          refine pu_ 26 96 ba4_27 HT_ ?_
          refine pu_ 27 97 ba4_28 HT_ ?_
          refine pu_ 28 98 ba4_29 HT_ ?_
          refine pu_ 29 99 ba4_30 HT_ ?_
          refine pu_ 30 100 ba4_31 HT_ ?_
          refine pu_ 31 101 ba4_32 HT_ ?_
          refine pu_ 32 102 ba4_33 HT_ ?_
          refine pu_ 33 103 ba4_34 HT_ ?_
          refine pu_ 34 104 ba4_35 HT_ ?_
          refine pz_ 35 105 ba4_36 HT_ ?_
          refine done_ (done_of HT_.out (by kernel_rfl)) ?_
          try go_wp2
          go_roundg k4
          case measure => have := HJ4.out; have := HJ26.out; have := HK3.out; have := HK4.out; omega
          case rel => exact ⟨(x12_4), (wrap64 (x13_4 + 1)), er_, er_, H', ⟨by have := HJ4.out; have := HJ26.out; have := HK3.out; have := HK4.out; omega⟩, ⟨by (try simp only [hl9_3]); (with_reducible repeat (first | apply Kd.R_alloc | apply Kd.R_drewN | apply Kd.R_drew)); exact HO_9.out⟩, ⟨by (try simp only [hl9_3]); (with_reducible repeat (first | apply Kd.R_alloc | apply Kd.R_drewN | apply Kd.R_drew)); exact HO_10.out⟩, ⟨by (try simp only [hl9_3]); refine bd_ ?_; exact BK154.out⟩, ⟨bw_⟩⟩
         replace c54 := Bool.eq_false_iff.mpr c54
         subst c54
         rw [if_neg (show ¬ (false = true) by decide)] at H
         by_cases c58 : x13_4 = a2
         ·rw [if_pos c58] at H
          have c58b0 : (x13_4 == a2) = true := beq_iff_eq.mpr c58
          have c58b1 : (x13_4 != a2) = false := bne_eq_false_iff_eq.mpr c58
          clear c58
          have H' := Aside0.mk H
          clear H
          have hcz59_0 := cz_ BK154 0 (.int .i64 a0_0)
          have hcz59_1 := cz_ BK154 1 (.slice A0_1 l0_1.length c0_1)
          have hfz59_0 := fz_ BK154 0
          have hfz59_1 := fz_ BK154 1
          try go_wp2
          replace HO_9 := Aside0.mk (Kd.R_drew HO_9.out)
          replace HO_10 := Aside0.mk (Kd.R_drew HO_10.out)
          replace BK154 := ad_ BK154
          replace HB := Aside0.mk (below_drew1 HB.out)
          obtain ⟨Ao61, co61, eo61⟩ := Kd.R_slice HO_10.out
          (first | subst eo61 | (injection eo61 with f1_ f2_ f3_; have f4_ := f1_.symm; have f5_ := f3_.symm; clear f1_ f2_ f3_; subst f4_; subst f5_))
          have p169 : 0 ≤ (x13_4 : Int) := oa_
          have q169 : x13_4 < (x10_3.length : Int) := oa_
          obtain ⟨ad169, e169, hx169_0⟩ := Kd.at_bool (Kd.R_reads' HO_10.out).2.2 x13_4 p169 q169
          (try rw [← Nbq53.out] at hx169_0)
          cases e169
          replace p169 := eq_true p169
          replace q169 := eq_true q169
          refine start_ (n := 36) (S := fun w' => w'.cell? (ad169.add (x13_4).toNat) = some (.bool false)) (ds := []) ba4_0 (by kernel_rfl) rfl rfl (hx169_0) (fun hHeld => ?_); refine with_tabW spec_Shares.tab15 spec_Shares.bits15 (fun HT_ HW_ => ?_)
          generalize wr.drew = w60 at HO_9 HO_10 BK154 HB hx169_0 hHeld ⊢
          refine pz_ 0 70 ba4_1 HT_ ?_
          refine pz_ 1 71 ba4_2 HT_ ?_
          refine pz_ 2 72 ba4_3 HT_ ?_
          refine take_ (i := 3) (N := some 73) (v := ?_) (a' := ?_) ba4_4 rfl rfl (take_ofW HT_.out HW_.out (by kernel_rfl)) (fun _ _ _ h => h) (Or.inl ⟨by rfl, ?_⟩) hHeld ?_ ?_
          rotate_left; · intro w' s0; go_simp; with_reducible rfl
          rotate_left; · simp only [Act.put, List.setIfInBounds_toArray, List.set_cons_zero, List.set_cons_succ, i64_w, i32_w]; rfl
          refine pz_ 4 74 ba4_5 HT_ ?_
          refine pz_ 5 75 ba4_6 HT_ ?_
          refine pz_ 6 76 ba4_7 HT_ ?_
          refine pz_ 7 77 ba4_8 HT_ ?_
          refine pz_ 8 78 ba4_9 HT_ ?_
          refine pz_ 9 79 ba4_10 HT_ ?_
          refine pz_ 10 80 ba4_11 HT_ ?_
          refine pu_ 11 81 ba4_12 HT_ ?_
          refine pu_ 12 82 ba4_13 HT_ ?_
          refine pu_ 13 83 ba4_14 HT_ ?_
          refine pu_ 14 84 ba4_15 HT_ ?_
          refine pu_ 15 85 ba4_16 HT_ ?_
          refine pz_ 16 86 ba4_17 HT_ ?_
          refine pz_ 17 87 ba4_18 HT_ ?_
          refine pu_ 18 88 ba4_19 HT_ ?_
          refine pu_ 19 89 ba4_20 HT_ ?_
          refine pu_ 20 90 ba4_21 HT_ ?_
          refine pu_ 21 91 ba4_22 HT_ ?_
          refine pu_ 22 92 ba4_23 HT_ ?_
          refine pu_ 23 93 ba4_24 HT_ ?_
          refine pu_ 24 94 ba4_25 HT_ ?_
          refine pu_ 25 95 ba4_26 HT_ ?_
          refine pu_ 26 96 ba4_27 HT_ ?_
          refine pu_ 27 97 ba4_28 HT_ ?_
          refine pu_ 28 98 ba4_29 HT_ ?_
          refine pu_ 29 99 ba4_30 HT_ ?_
          refine pu_ 30 100 ba4_31 HT_ ?_
          refine pu_ 31 101 ba4_32 HT_ ?_
          refine pu_ 32 102 ba4_33 HT_ ?_
          refine pu_ 33 103 ba4_34 HT_ ?_
          refine pu_ 34 104 ba4_35 HT_ ?_
          refine pz_ 35 105 ba4_36 HT_ ?_
          refine done_ (done_of HT_.out (by kernel_rfl)) ?_
          try go_wp2
          go_roundg k4
          case measure => have := HJ4.out; have := HJ26.out; have := HK3.out; have := HK4.out; omega
          case rel => exact ⟨(x12_4), (wrap64 (x13_4 + 1)), er_, er_, H', ⟨by have := HJ4.out; have := HJ26.out; have := HK3.out; have := HK4.out; omega⟩, ⟨by (try simp only [hl9_3]); (with_reducible repeat (first | apply Kd.R_alloc | apply Kd.R_drewN | apply Kd.R_drew)); exact HO_9.out⟩, ⟨by (try simp only [hl9_3]); (with_reducible repeat (first | apply Kd.R_alloc | apply Kd.R_drewN | apply Kd.R_drew)); exact HO_10.out⟩, ⟨by (try simp only [hl9_3]); refine bd_ ?_; exact BK154.out⟩, ⟨bw_⟩⟩
         rw [if_neg c58] at H
         have c58b0 : (x13_4 == a2) = false := beq_eq_false_iff_ne.mpr c58
         have c58b1 : (x13_4 != a2) = true := bne_iff_ne.mpr c58
         obtain ⟨c62b0, H⟩ := iq_ H
         by_cases c63 : (rd x9_3 x13_4) > 0
         rotate_left
         ·rw [if_neg c63] at H
          have c63b0 : decide (0 < (rd x9_3 x13_4)) = false := decide_eq_false c63
          clear c63
          have H' := Aside0.mk H
          clear H
          have hcz88_0 := cz_ BK154 0 (.int .i64 a0_0)
          have hcz88_1 := cz_ BK154 1 (.slice A0_1 l0_1.length c0_1)
          have hfz88_0 := fz_ BK154 0
          have hfz88_1 := fz_ BK154 1
          try go_wp2
          replace HO_9 := Aside0.mk (Kd.R_drew HO_9.out)
          replace HO_10 := Aside0.mk (Kd.R_drew HO_10.out)
          replace BK154 := ad_ BK154
          replace HB := Aside0.mk (below_drew1 HB.out)
          obtain ⟨Ao90, co90, eo90⟩ := Kd.R_slice HO_10.out
          (first | subst eo90 | (injection eo90 with f1_ f2_ f3_; have f4_ := f1_.symm; have f5_ := f3_.symm; clear f1_ f2_ f3_; subst f4_; subst f5_))
          have p169 : 0 ≤ (x13_4 : Int) := oa_
          have q169 : x13_4 < (x10_3.length : Int) := oa_
          obtain ⟨ad169, e169, hx169_0⟩ := Kd.at_bool (Kd.R_reads' HO_10.out).2.2 x13_4 p169 q169
          (try rw [← Nbq53.out] at hx169_0)
          cases e169
          replace p169 := eq_true p169
          replace q169 := eq_true q169
          have p170 : 0 ≤ (x13_4 : Int) := oa_
          have q170 : x13_4 < (x9_3.length : Int) := oa_
          obtain ⟨ad170, e170, hx170_0⟩ := Kd.at_int (Kd.R_reads' HO_9.out).2.2 x13_4 p170 q170
          obtain rfl : (⟨go38, 0, none⟩ : Addr) = ad170 := (by injection e170)
          (first | simp only [add_plain] at hx170_0 | simp only [add_at] at hx170_0 | simp only [Addr.add, Nat.zero_add] at hx170_0 | skip)
          replace p170 := eq_true p170
          replace q170 := eq_true q170
          refine start_ (n := 36) (S := fun w' => w'.cell? (ad169.add (x13_4).toNat) = some (.bool false) ∧ w'.cell? ⟨go38, (x13_4).toNat, none⟩ = some (.int .i64 (rd x9_3 x13_4))) (ds := []) ba4_0 (by kernel_rfl) rfl rfl ⟨hx169_0, hx170_0⟩ (fun hHeld => ?_); refine with_tabW spec_Shares.tab15 spec_Shares.bits15 (fun HT_ HW_ => ?_)
          generalize wr.drew = w89 at HO_9 HO_10 BK154 HB hx169_0 hx170_0 hHeld ⊢
          refine pz_ 0 70 ba4_1 HT_ ?_
          refine pz_ 1 71 ba4_2 HT_ ?_
          refine pz_ 2 72 ba4_3 HT_ ?_
          refine pt_ 3 73 ba4_4 HT_ HW_ hHeld ?_
          refine pz_ 4 74 ba4_5 HT_ ?_
          refine pz_ 5 75 ba4_6 HT_ ?_
          refine pz_ 6 76 ba4_7 HT_ ?_
          refine pz_ 7 77 ba4_8 HT_ ?_
          refine pz_ 8 78 ba4_9 HT_ ?_
          refine pz_ 9 79 ba4_10 HT_ ?_
          refine pz_ 10 80 ba4_11 HT_ ?_
          refine pz_ 11 81 ba4_12 HT_ ?_
          refine pz_ 12 82 ba4_13 HT_ ?_
          refine pz_ 13 83 ba4_14 HT_ ?_
          refine pt_ 14 84 ba4_15 HT_ HW_ hHeld ?_
          refine pz_ 15 85 ba4_16 HT_ ?_
          refine pz_ 16 86 ba4_17 HT_ ?_
          refine pz_ 17 87 ba4_18 HT_ ?_
          refine pu_ 18 88 ba4_19 HT_ ?_
          refine pu_ 19 89 ba4_20 HT_ ?_
          refine pu_ 20 90 ba4_21 HT_ ?_
          refine pu_ 21 91 ba4_22 HT_ ?_
          refine pu_ 22 92 ba4_23 HT_ ?_
          refine pu_ 23 93 ba4_24 HT_ ?_
          refine pu_ 24 94 ba4_25 HT_ ?_
          refine pu_ 25 95 ba4_26 HT_ ?_
          refine pu_ 26 96 ba4_27 HT_ ?_
          refine pu_ 27 97 ba4_28 HT_ ?_
          refine pu_ 28 98 ba4_29 HT_ ?_
          refine pu_ 29 99 ba4_30 HT_ ?_
          refine pu_ 30 100 ba4_31 HT_ ?_
          refine pu_ 31 101 ba4_32 HT_ ?_
          refine pu_ 32 102 ba4_33 HT_ ?_
          refine pu_ 33 103 ba4_34 HT_ ?_
          refine pu_ 34 104 ba4_35 HT_ ?_
          refine pz_ 35 105 ba4_36 HT_ ?_
          refine done_ (done_of HT_.out (by kernel_rfl)) ?_
          try go_wp2
          go_roundg k4
          case measure => have := HJ4.out; have := HJ26.out; have := HK3.out; have := HK4.out; omega
          case rel => exact ⟨(x12_4), (wrap64 (x13_4 + 1)), er_, er_, H', ⟨by have := HJ4.out; have := HJ26.out; have := HK3.out; have := HK4.out; omega⟩, ⟨by (try simp only [hl9_3]); (with_reducible repeat (first | apply Kd.R_alloc | apply Kd.R_drewN | apply Kd.R_drew)); exact HO_9.out⟩, ⟨by (try simp only [hl9_3]); (with_reducible repeat (first | apply Kd.R_alloc | apply Kd.R_drewN | apply Kd.R_drew)); exact HO_10.out⟩, ⟨by (try simp only [hl9_3]); refine bd_ ?_; exact BK154.out⟩, ⟨bw_⟩⟩
         rw [if_pos c63] at H
         have c63b0 : decide (0 < (rd x9_3 x13_4)) = true := decide_eq_true c63
         clear c63
         by_cases c64 : x12_4 < 0
         ·rw [if_pos c64] at H
          have c64b0 : decide (x12_4 < 0) = true := decide_eq_true c64
          clear c64
          have H' := Aside0.mk H
          clear H
          have hcz65_0 := cz_ BK154 0 (.int .i64 a0_0)
          have hcz65_1 := cz_ BK154 1 (.slice A0_1 l0_1.length c0_1)
          have hfz65_0 := fz_ BK154 0
          have hfz65_1 := fz_ BK154 1
          try go_wp2
          replace HO_9 := Aside0.mk (Kd.R_drew HO_9.out)
          replace HO_10 := Aside0.mk (Kd.R_drew HO_10.out)
          replace BK154 := ad_ BK154
          replace HB := Aside0.mk (below_drew1 HB.out)
          obtain ⟨Ao67, co67, eo67⟩ := Kd.R_slice HO_10.out
          (first | subst eo67 | (injection eo67 with f1_ f2_ f3_; have f4_ := f1_.symm; have f5_ := f3_.symm; clear f1_ f2_ f3_; subst f4_; subst f5_))
          have p169 : 0 ≤ (x13_4 : Int) := oa_
          have q169 : x13_4 < (x10_3.length : Int) := oa_
          obtain ⟨ad169, e169, hx169_0⟩ := Kd.at_bool (Kd.R_reads' HO_10.out).2.2 x13_4 p169 q169
          (try rw [← Nbq53.out] at hx169_0)
          cases e169
          replace p169 := eq_true p169
          replace q169 := eq_true q169
          have p170 : 0 ≤ (x13_4 : Int) := oa_
          have q170 : x13_4 < (x9_3.length : Int) := oa_
          obtain ⟨ad170, e170, hx170_0⟩ := Kd.at_int (Kd.R_reads' HO_9.out).2.2 x13_4 p170 q170
          obtain rfl : (⟨go38, 0, none⟩ : Addr) = ad170 := (by injection e170)
          (first | simp only [add_plain] at hx170_0 | simp only [add_at] at hx170_0 | simp only [Addr.add, Nat.zero_add] at hx170_0 | skip)
          replace p170 := eq_true p170
          replace q170 := eq_true q170
          refine start_ (n := 36) (S := fun w' => w'.cell? (ad169.add (x13_4).toNat) = some (.bool false) ∧ w'.cell? ⟨go38, (x13_4).toNat, none⟩ = some (.int .i64 (rd x9_3 x13_4))) (ds := []) ba4_0 (by kernel_rfl) rfl rfl ⟨hx169_0, hx170_0⟩ (fun hHeld => ?_); refine with_tabW spec_Shares.tab15 spec_Shares.bits15 (fun HT_ HW_ => ?_)
          generalize wr.drew = w66 at HO_9 HO_10 BK154 HB hx169_0 hx170_0 hHeld ⊢
          refine pz_ 0 70 ba4_1 HT_ ?_
          refine pz_ 1 71 ba4_2 HT_ ?_
          refine pz_ 2 72 ba4_3 HT_ ?_
          refine pt_ 3 73 ba4_4 HT_ HW_ hHeld ?_
          refine pz_ 4 74 ba4_5 HT_ ?_
          refine pz_ 5 75 ba4_6 HT_ ?_
          refine pz_ 6 76 ba4_7 HT_ ?_
          refine pz_ 7 77 ba4_8 HT_ ?_
          refine pz_ 8 78 ba4_9 HT_ ?_
          refine pz_ 9 79 ba4_10 HT_ ?_
          refine pz_ 10 80 ba4_11 HT_ ?_
          refine pz_ 11 81 ba4_12 HT_ ?_
          refine pz_ 12 82 ba4_13 HT_ ?_
          refine pz_ 13 83 ba4_14 HT_ ?_
          refine pt_ 14 84 ba4_15 HT_ HW_ hHeld ?_
          refine pz_ 15 85 ba4_16 HT_ ?_
          refine pz_ 16 86 ba4_17 HT_ ?_
          refine pz_ 17 87 ba4_18 HT_ ?_
          refine pz_ 18 88 ba4_19 HT_ ?_
          refine pz_ 19 89 ba4_20 HT_ ?_
          refine pz_ 20 90 ba4_21 HT_ ?_
          refine pu_ 21 91 ba4_22 HT_ ?_
          refine pu_ 22 92 ba4_23 HT_ ?_
          refine pu_ 23 93 ba4_24 HT_ ?_
          refine pu_ 24 94 ba4_25 HT_ ?_
          refine pu_ 25 95 ba4_26 HT_ ?_
          refine pu_ 26 96 ba4_27 HT_ ?_
          refine pu_ 27 97 ba4_28 HT_ ?_
          refine pu_ 28 98 ba4_29 HT_ ?_
          refine pu_ 29 99 ba4_30 HT_ ?_
          refine pu_ 30 100 ba4_31 HT_ ?_
          refine pu_ 31 101 ba4_32 HT_ ?_
          refine pu_ 32 102 ba4_33 HT_ ?_
          refine pu_ 33 103 ba4_34 HT_ ?_
          refine pz_ 34 104 ba4_35 HT_ ?_
          refine pz_ 35 105 ba4_36 HT_ ?_
          refine done_ (done_of HT_.out (by kernel_rfl)) ?_
          try go_wp2
          go_roundg k4
          case measure => have := HJ4.out; have := HJ26.out; have := HK3.out; have := HK4.out; omega
          case rel => exact ⟨(x13_4), (wrap64 (x13_4 + 1)), er_, er_, H', ⟨by have := HJ4.out; have := HJ26.out; have := HK3.out; have := HK4.out; omega⟩, ⟨by (try simp only [hl9_3]); (with_reducible repeat (first | apply Kd.R_alloc | apply Kd.R_drewN | apply Kd.R_drew)); exact HO_9.out⟩, ⟨by (try simp only [hl9_3]); (with_reducible repeat (first | apply Kd.R_alloc | apply Kd.R_drewN | apply Kd.R_drew)); exact HO_10.out⟩, ⟨by (try simp only [hl9_3]); refine bd_ ?_; exact BK154.out⟩, ⟨bw_⟩⟩
         rw [if_neg c64] at H
         have c64b0 : decide (x12_4 < 0) = false := decide_eq_false c64
         clear c64
         replace H := Option.bind_eq_some_iff.mp H
         obtain ⟨t171, A680, H⟩ := H
         have A68 := Aside0.mk A680
         clear A680
         obtain ⟨c69b0, H⟩ := iq_ H
         obtain ⟨c70b0, H⟩ := iq_ H
         replace H := Option.bind_eq_some_iff.mp H
         obtain ⟨t175, A710, H⟩ := H
         have A71 := Aside0.mk A710
         clear A710
         obtain ⟨c72b0, H⟩ := iq_ H
         have Hh_ := Aside0.mk H
         clear H
         have hcz74_0 := cz_ BK154 0 (.int .i64 a0_0)
         have hcz74_1 := cz_ BK154 1 (.slice A0_1 l0_1.length c0_1)
         have hfz74_0 := fz_ BK154 0
         have hfz74_1 := fz_ BK154 1
         try go_wp2
         replace HO_9 := Aside0.mk (Kd.R_drew HO_9.out)
         replace HO_10 := Aside0.mk (Kd.R_drew HO_10.out)
         replace BK154 := ad_ BK154
         replace HB := Aside0.mk (below_drew1 HB.out)
         obtain ⟨Ao76, co76, eo76⟩ := Kd.R_slice HO_10.out
         (first | subst eo76 | (injection eo76 with f1_ f2_ f3_; have f4_ := f1_.symm; have f5_ := f3_.symm; clear f1_ f2_ f3_; subst f4_; subst f5_))
         have p169 : 0 ≤ (x13_4 : Int) := oa_
         have q169 : x13_4 < (x10_3.length : Int) := oa_
         obtain ⟨ad169, e169, hx169_0⟩ := Kd.at_bool (Kd.R_reads' HO_10.out).2.2 x13_4 p169 q169
         (try rw [← Nbq53.out] at hx169_0)
         cases e169
         replace p169 := eq_true p169
         replace q169 := eq_true q169
         have p170 : 0 ≤ (x13_4 : Int) := oa_
         have q170 : x13_4 < (x9_3.length : Int) := oa_
         obtain ⟨ad170, e170, hx170_0⟩ := Kd.at_int (Kd.R_reads' HO_9.out).2.2 x13_4 p170 q170
         obtain rfl : (⟨go38, 0, none⟩ : Addr) = ad170 := (by injection e170)
         (first | simp only [add_plain] at hx170_0 | simp only [add_at] at hx170_0 | simp only [Addr.add, Nat.zero_add] at hx170_0 | skip)
         replace p170 := eq_true p170
         replace q170 := eq_true q170
         refine start_ (n := 36) (S := fun w' => w'.cell? ⟨gb154, 0, none⟩ = some (.int .i64 a0_0) ∧ w'.cell? ⟨gb154, 1, none⟩ = some (.slice A0_1 l0_1.length c0_1) ∧ w'.cell? (ad169.add (x13_4).toNat) = some (.bool false) ∧ w'.cell? ⟨go38, (x13_4).toNat, none⟩ = some (.int .i64 (rd x9_3 x13_4))) (ds := []) ba4_0 (by kernel_rfl) rfl rfl ⟨(blk_cell BK154.out 0).trans rfl, (blk_cell BK154.out 1).trans rfl, hx169_0, hx170_0⟩ (fun hHeld => ?_); refine with_tabW spec_Shares.tab15 spec_Shares.bits15 (fun HT_ HW_ => ?_)
         generalize wr.drew = w75 at HO_9 HO_10 BK154 HB hx169_0 hx170_0 hHeld ⊢
         refine pz_ 0 70 ba4_1 HT_ ?_
         refine pz_ 1 71 ba4_2 HT_ ?_
         refine pz_ 2 72 ba4_3 HT_ ?_
         refine pt_ 3 73 ba4_4 HT_ HW_ hHeld ?_
         refine pz_ 4 74 ba4_5 HT_ ?_
         refine pz_ 5 75 ba4_6 HT_ ?_
         refine pz_ 6 76 ba4_7 HT_ ?_
         refine pz_ 7 77 ba4_8 HT_ ?_
         refine pz_ 8 78 ba4_9 HT_ ?_
         refine pz_ 9 79 ba4_10 HT_ ?_
         refine pz_ 10 80 ba4_11 HT_ ?_
         refine pz_ 11 81 ba4_12 HT_ ?_
         refine pz_ 12 82 ba4_13 HT_ ?_
         refine pz_ 13 83 ba4_14 HT_ ?_
         refine pt_ 14 84 ba4_15 HT_ HW_ hHeld ?_
         refine pz_ 15 85 ba4_16 HT_ ?_
         refine pz_ 16 86 ba4_17 HT_ ?_
         refine pz_ 17 87 ba4_18 HT_ ?_
         refine pz_ 18 88 ba4_19 HT_ ?_
         refine pz_ 19 89 ba4_20 HT_ ?_
         refine pz_ 20 90 ba4_21 HT_ ?_
         refine pz_ 22 92 ba4_37 HT_ ?_
         refine pz_ 24 94 ba4_38 HT_ ?_
         refine pz_ 28 98 ba4_39 HT_ ?_
         refine pz_ 30 100 ba4_40 HT_ ?_
         refine pt_ 21 91 ba4_41 HT_ HW_ hHeld ?_
         refine pt_ 27 97 ba4_42 HT_ HW_ hHeld ?_
         refine one_ (i := 23) (N := some 93) ba4_43 rfl rfl (one_of HT_.out (by kernel_rfl)) (by decide) (fun K hK => ?_)
         refine gz_ Try.func33 #[.agg #[.int .i64 a0_0, .slice A0_1 l0_1.length c0_1], .int .i64 x13_4] ?_
         with_reducible refine (spec_Distances.calls k4 a0_0 _ _ l0_1 x13_4 t171 _ ?side1 ?side2 A68.out).mono ?_
         (case side1 => exact cb_ HR0_1 HB)
         (case side2 => exact HC0_1.out)
         rintro e w77 ⟨v172, rfl, ho0, hb⟩
         have HS2_ := (hb.cell (World.block_lt_of_cell? _ _ (hHeld.2.2.1))).trans (hHeld.2.2.1)
         have HS3_ := (hb.cell (World.block_lt_of_cell? _ _ (hHeld.2.2.2))).trans (hHeld.2.2.2)
         refine ⟨_, rfl, ?_⟩
         have HO173 := Aside0.mk (Kd.R_lower (Kd.R_new' ho0 (Kd.R_lt (hd_ HO_9))) (bz_ HB))
         replace HO_10 := rb_ HO_10 hb
         replace HO_9 := Aside0.mk (Kd.R_elder' (hd_ HO_9) (Kd.R_base ho0) hb)
         replace BK154 := ab_ BK154 hb
         replace HB := at_ HB hb
         (try clear hb)
         (try clear hb2)
         (try clear hk)
         (try clear hi)
         (try clear ho0)
         obtain ⟨Ao78, co78, eo78⟩ := Kd.R_slice HO173.out
         (first | subst eo78 | (injection eo78 with f1_ f2_ f3_; have f4_ := f1_.symm; have f5_ := f3_.symm; clear f1_ f2_ f3_; subst f4_; subst f5_))
         have p174 : 0 ≤ (a2 : Int) := oa_
         have q174 : a2 < (t171.length : Int) := oa_
         obtain ⟨ad174, e174, hx174_0⟩ := Kd.at_int (Kd.R_reads' HO173.out).2.2 a2 p174 q174
         cases e174
         replace p174 := eq_true p174
         replace q174 := eq_true q174
         refine hK.out _ _ ⟨(blk_cell BK154.out 0).trans rfl, (blk_cell BK154.out 1).trans rfl, HS2_, HS3_⟩ (fun hHeld => ?_)
         refine str_ (S' := fun w' => w'.cell? ⟨gb154, 0, none⟩ = some (.int .i64 a0_0) ∧ w'.cell? ⟨gb154, 1, none⟩ = some (.slice A0_1 l0_1.length c0_1) ∧ w'.cell? (ad169.add (x13_4).toNat) = some (.bool false) ∧ w'.cell? ⟨go38, (x13_4).toNat, none⟩ = some (.int .i64 (rd x9_3 x13_4)) ∧ w'.cell? (ad174.add (a2).toNat) = some (.int .i64 (rd t171 a2))) (fun _ h_ => ⟨h_.1, h_.2.1, h_.2.2.1, h_.2.2.2.1⟩) ⟨hHeld.1, hHeld.2.1, hHeld.2.2.1, hHeld.2.2.2, hx174_0⟩ ?_
         replace hHeld := (show (fun w' : World => w'.cell? ⟨gb154, 0, none⟩ = some (.int .i64 a0_0) ∧ w'.cell? ⟨gb154, 1, none⟩ = some (.slice A0_1 l0_1.length c0_1) ∧ w'.cell? (ad169.add (x13_4).toNat) = some (.bool false) ∧ w'.cell? ⟨go38, (x13_4).toNat, none⟩ = some (.int .i64 (rd x9_3 x13_4)) ∧ w'.cell? (ad174.add (a2).toNat) = some (.int .i64 (rd t171 a2))) _ from ⟨hHeld.1, hHeld.2.1, hHeld.2.2.1, hHeld.2.2.2, hx174_0⟩)
         clear hK K
         refine nz_ 93 ?_
         refine pz_ 25 95 ba4_44 HT_ ?_
         refine pt_ 26 96 ba4_45 HT_ HW_ hHeld ?_
         refine one_ (i := 29) (N := some 99) ba4_31 rfl rfl (one_of HT_.out (by kernel_rfl)) (by decide) (fun K hK => ?_)
         refine gz_ Try.func33 #[.agg #[.int .i64 a0_0, .slice A0_1 l0_1.length c0_1], .int .i64 x12_4] ?_
         with_reducible refine (spec_Distances.calls k4 a0_0 _ _ l0_1 x12_4 t175 _ ?side1 ?side2 A71.out).mono ?_
         (case side1 => exact cb_ HR0_1 HB)
         (case side2 => exact HC0_1.out)
         rintro e w79 ⟨v176, rfl, ho0, hb⟩
         replace hx174_0 := (hb.cell (World.block_lt_of_cell? _ _ hx174_0)).trans hx174_0
         have HS2_ := (hb.cell (World.block_lt_of_cell? _ _ (hHeld.2.2.1))).trans (hHeld.2.2.1)
         have HS3_ := (hb.cell (World.block_lt_of_cell? _ _ (hHeld.2.2.2.1))).trans (hHeld.2.2.2.1)
         refine ⟨_, rfl, ?_⟩
         have HO177 := Aside0.mk (Kd.R_lower (Kd.R_new' (Kd.R_new' ho0 (Kd.R_lt (hd_ HO_9))) (Kd.R_lt (hd_ HO173))) (bz_ HB))
         replace HO_10 := rb_ HO_10 hb
         replace HO_9 := Aside0.mk (Kd.R_elder' (hd_ HO_9) (Kd.R_base ho0) hb)
         replace HO173 := Aside0.mk (Kd.R_elder' (hd_ HO173) (Kd.R_base ho0) hb)
         replace BK154 := ab_ BK154 hb
         replace HB := at_ HB hb
         (try clear hb)
         (try clear hb2)
         (try clear hk)
         (try clear hi)
         (try clear ho0)
         obtain ⟨Ao80, co80, eo80⟩ := Kd.R_slice HO177.out
         (first | subst eo80 | (injection eo80 with f1_ f2_ f3_; have f4_ := f1_.symm; have f5_ := f3_.symm; clear f1_ f2_ f3_; subst f4_; subst f5_))
         have p178 : 0 ≤ (a2 : Int) := oa_
         have q178 : a2 < (t175.length : Int) := oa_
         obtain ⟨ad178, e178, hx178_0⟩ := Kd.at_int (Kd.R_reads' HO177.out).2.2 a2 p178 q178
         cases e178
         replace p178 := eq_true p178
         replace q178 := eq_true q178
         refine hK.out _ _ ⟨(blk_cell BK154.out 0).trans rfl, (blk_cell BK154.out 1).trans rfl, HS2_, HS3_, hx174_0⟩ (fun hHeld => ?_)
         clear hK K
         refine nz_ 99 ?_
         refine pz_ 31 101 ba4_32 HT_ ?_
         refine po_ 32 102 ba4_33 HT_ (fun w' => w'.cell? ⟨gb154, 0, none⟩ = some (.int .i64 a0_0) ∧ w'.cell? ⟨gb154, 1, none⟩ = some (.slice A0_1 l0_1.length c0_1) ∧ w'.cell? (ad169.add (x13_4).toNat) = some (.bool false) ∧ w'.cell? ⟨go38, (x13_4).toNat, none⟩ = some (.int .i64 (rd x9_3 x13_4)) ∧ w'.cell? (ad174.add (a2).toNat) = some (.int .i64 (rd t171 a2)) ∧ w'.cell? (ad178.add (a2).toNat) = some (.int .i64 (rd t175 a2))) ⟨hHeld.1, hHeld.2.1, hHeld.2.2.1, hHeld.2.2.2.1, hHeld.2.2.2.2, hx178_0⟩ ?_
         have H := Hh_.out
         clear Hh_
         by_cases c73 : (rd t171 a2) > (rd t175 a2)
         ·rw [if_pos c73] at H
          have c73b0 : decide ((rd t175 a2) < (rd t171 a2)) = true := decide_eq_true c73
          clear c73
          have H' := Aside0.mk H
          clear H
          refine pz_ 33 103 ba4_34 HT_ ?_
          refine pz_ 34 104 ba4_35 HT_ ?_
          refine pz_ 35 105 ba4_36 HT_ ?_
          refine done_ (done_of HT_.out (by kernel_rfl)) ?_
          try go_wp2
          go_roundg k4
          case measure => have := HJ4.out; have := HJ26.out; have := HK3.out; have := HK4.out; omega
          case rel => exact ⟨(x13_4), (wrap64 (x13_4 + 1)), er_, er_, H', ⟨by have := HJ4.out; have := HJ26.out; have := HK3.out; have := HK4.out; omega⟩, ⟨by (try simp only [hl9_3]); (with_reducible repeat (first | apply Kd.R_alloc | apply Kd.R_drewN | apply Kd.R_drew)); exact Kd.R_mono HO_9.out (fun _ hk => trivial)⟩, ⟨by (try simp only [hl9_3]); (with_reducible repeat (first | apply Kd.R_alloc | apply Kd.R_drewN | apply Kd.R_drew)); exact HO_10.out⟩, ⟨by (try simp only [hl9_3]); refine bd_ ?_; exact BK154.out⟩, ⟨bw_⟩⟩
         rw [if_neg c73] at H
         have c73b0 : decide ((rd t175 a2) < (rd t171 a2)) = false := decide_eq_false c73
         clear c73
         have H' := Aside0.mk H
         clear H
         refine pz_ 33 103 ba4_34 HT_ ?_
         refine pz_ 34 104 ba4_35 HT_ ?_
         refine pz_ 35 105 ba4_36 HT_ ?_
         refine done_ (done_of HT_.out (by kernel_rfl)) ?_
         try go_wp2
         go_roundg k4
         case measure => have := HJ4.out; have := HJ26.out; have := HK3.out; have := HK4.out; omega
         case rel => exact ⟨(x12_4), (wrap64 (x13_4 + 1)), er_, er_, H', ⟨by have := HJ4.out; have := HJ26.out; have := HK3.out; have := HK4.out; omega⟩, ⟨by (try simp only [hl9_3]); (with_reducible repeat (first | apply Kd.R_alloc | apply Kd.R_drewN | apply Kd.R_drew)); exact Kd.R_mono HO_9.out (fun _ hk => trivial)⟩, ⟨by (try simp only [hl9_3]); (with_reducible repeat (first | apply Kd.R_alloc | apply Kd.R_drewN | apply Kd.R_drew)); exact HO_10.out⟩, ⟨by (try simp only [hl9_3]); refine bd_ ?_; exact BK154.out⟩, ⟨bw_⟩⟩

end Go.Proofs.Ythmahcohcphljaa.QFnShares
