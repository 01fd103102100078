/- Contracts of functions that the law reaches: what each call returns and what it leaves in memory. Made by this session over the print of the kit. -/
import Derived.Test.YtjepmdngbafonaaQFnRoutesx0
import Derived.Test.YtjepmdngbafonaaQFnRoutesx2
import Derived.Test.YtjepmdngbafonaaQFnRoutesx5
import Derived.Test.YtjepmdngbafonaaQFnRoutesx6
import Derived.Test.YtjepmdngbafonaaQFnRoutesx7
import Derived.Test.YtjepmdngbafonaaQFnRoutesx8
namespace Go.Proofs.Ytjepmdngbafonaa.QFnRoutes
open Go.RowKit Go.Proofs.YtjepmdngbafonaaR.PrintWords Go.Proofs.YtjepmdngbafonaaR.PrintLast Go.Proofs.YtjepmdngbafonaaR.PrintMore
attribute [local go_sem] max2_int min2_int max_two min_two max_three min_three max_four min_four   -- for this text's walks alone
set_option linter.unusedVariables false
set_option linter.unusedSimpArgs false
def ba9_0 : Array Bool := bs_ 12 0
def ba9_1 : Array Bool := bs_ 12 1
def ba9_2 : Array Bool := bs_ 12 5
def ba9_3 : Array Bool := bs_ 12 13
def ba9_4 : Array Bool := bs_ 12 15
def ba9_5 : Array Bool := bs_ 12 31
def ba9_6 : Array Bool := bs_ 12 63
def ba9_7 : Array Bool := bs_ 12 2047
def ba9_8 : Array Bool := bs_ 12 127
def ba9_9 : Array Bool := bs_ 12 1087
def ba9_10 : Array Bool := bs_ 12 255
def ba9_11 : Array Bool := bs_ 12 511
def ba9_12 : Array Bool := bs_ 12 1023
def ba9_13 : Array Bool := bs_ 12 1151
def ba9_14 : Array Bool := bs_ 12 1279
def ba9_15 : Array Bool := bs_ 12 1535
def ba9_16 : Array Bool := bs_ 12 4095
def ba9_17 : Array Bool := bs_ 12 4
def ba9_18 : Array Bool := bs_ 12 7
def ba9_19 : Array Bool := bs_ 12 519
def ba9_20 : Array Bool := bs_ 12 543
def ba9_21 : Array Bool := bs_ 12 575
def ba9_22 : Array Bool := bs_ 12 639
def ba9_23 : Array Bool := bs_ 12 767
def ba9_24 : Array Bool := bs_ 12 527
def ba9_25 : Array Bool := bs_ 9 0
def ba9_26 : Array Bool := bs_ 9 1
def ba9_27 : Array Bool := bs_ 9 5
def ba9_28 : Array Bool := bs_ 9 13
def ba9_29 : Array Bool := bs_ 9 15
def ba9_30 : Array Bool := bs_ 9 31
def ba9_31 : Array Bool := bs_ 9 63
def ba9_32 : Array Bool := bs_ 9 127
def ba9_33 : Array Bool := bs_ 9 255
def ba9_34 : Array Bool := bs_ 9 511
def ba9_35 : Array Bool := bs_ 8 0
def ba9_36 : Array Bool := bs_ 8 1
def ba9_37 : Array Bool := bs_ 8 5
def ba9_38 : Array Bool := bs_ 8 13
def ba9_39 : Array Bool := bs_ 8 15
def ba9_40 : Array Bool := bs_ 8 31
def ba9_41 : Array Bool := bs_ 8 63
def ba9_42 : Array Bool := bs_ 8 127
def ba9_43 : Array Bool := bs_ 8 255
def ba9_44 : Array Bool := bs_ 10 0
def ba9_45 : Array Bool := bs_ 10 1
def ba9_46 : Array Bool := bs_ 10 5
def ba9_47 : Array Bool := bs_ 10 7
def ba9_48 : Array Bool := bs_ 10 15
def ba9_49 : Array Bool := bs_ 10 31
def ba9_50 : Array Bool := bs_ 10 63
def ba9_51 : Array Bool := bs_ 10 127
def ba9_52 : Array Bool := bs_ 10 255
def ba9_53 : Array Bool := bs_ 10 511
def ba9_54 : Array Bool := bs_ 10 1023

/-! ### spec_l02DrawTable: function 60 -/
mutual
def spec_l02DrawTable.l0 : Nat → Int → Int → List Int → Int → Int → List (S30) → Option ((List (S30)) × Int × Int)
 | 0, _, _, _, _, _, _ => none
 | k + 1, x1, x6, x1000, x1001, x1002, x246000 => if x6 < x1 then ((spec_l01DrawPrefix.f x1000 x1001 x1002).bind fun bt246 => (if (x246000.length : Int) > 0 then ((spec_l01Once.f x1000 bt246.2.2.1 bt246.2.2.2 2).bind fun bt251 => (spec_l02DrawTable.j1 k x1 x6 bt251.1 x1000 bt251.2.1 bt251.2.2 x246000 bt246.1 bt246.2.1)) else (spec_l02DrawTable.j1 k x1 x6 false x1000 bt246.2.2.1 bt246.2.2.2 x246000 bt246.1 bt246.2.1))) else ((spec_l01Once.f x1000 x1001 x1002 25).bind fun bt301 => (if bt301.1 = true then (spec_l02DrawTable.j2 k (decide ((x246000.length : Int) > 0)) x1000 bt301.2.1 bt301.2.2 x246000) else (spec_l02DrawTable.j2 k false x1000 bt301.2.1 bt301.2.2 x246000)))
def spec_l02DrawTable.j1 : Nat → Int → Int → Bool → List Int → Int → Int → List (S30) → Int → Int → Option ((List (S30)) × Int × Int)
 | 0, _, _, _, _, _, _, _, _, _ => none
 | k + 1, x1, x6, x30, x1000, x1001, x1002, x246000, x251000, x251001 => if x30 = true then ((spec_l01Below.f x1000 x1001 x1002 (x246000.length : Int)).bind fun bt254 => (if 0 ≤ bt254.1 then (if bt254.1 < (x246000.length : Int) then ((spec_Halves.f ((rd_T30 x246000 bt254.1).f0.f0) ((rd_T30 x246000 bt254.1).f0.f1)).bind fun bt259 => (if bt259.2.2.2.2 = true then ((spec_l01Once.f x1000 bt254.2.1 bt254.2.2 2).bind fun bt266 => (if bt266.1 = true then ((spec_l01Below.f x1000 bt266.2.1 bt266.2.2 4).bind fun bt269 => ((spec_PutRoute.f k x246000 bt259.2.2.1 bt259.2.2.2.1 bt269.1).bind fun bt272 => (spec_l02DrawTable.l0 k x1 (wrap64 (x6 + 1)) x1000 bt269.2.1 bt269.2.2 bt272.1))) else ((spec_l01Below.f x1000 bt266.2.1 bt266.2.2 4).bind fun bt277 => ((spec_PutRoute.f k x246000 bt259.1 bt259.2.1 bt277.1).bind fun bt280 => (spec_l02DrawTable.l0 k x1 (wrap64 (x6 + 1)) x1000 bt277.2.1 bt277.2.2 bt280.1))))) else ((spec_l01Below.f x1000 bt254.2.1 bt254.2.2 4).bind fun bt285 => ((spec_PutRoute.f k x246000 x251000 x251001 bt285.1).bind fun bt288 => (spec_l02DrawTable.l0 k x1 (wrap64 (x6 + 1)) x1000 bt285.2.1 bt285.2.2 bt288.1))))) else (none)) else (none))) else ((spec_l01Below.f x1000 x1001 x1002 4).bind fun bt293 => ((spec_PutRoute.f k x246000 x251000 x251001 bt293.1).bind fun bt296 => (spec_l02DrawTable.l0 k x1 (wrap64 (x6 + 1)) x1000 bt293.2.1 bt293.2.2 bt296.1)))
def spec_l02DrawTable.j2 : Nat → Bool → List Int → Int → Int → List (S30) → Option ((List (S30)) × Int × Int)
 | 0, _, _, _, _, _ => none
 | k + 1, x69, x1000, x1001, x1002, x246000 => if x69 = true then ((spec_l01Below.f x1000 x1001 x1002 (x246000.length : Int)).bind fun bt304 => ((spec_l01Below.f x1000 bt304.2.1 bt304.2.2 3).bind fun bt307 => (if bt307.1 = 0 then ((spec_l01PickInt.f x1000 bt307.2.1 bt307.2.2 (([(-1), 999, 1000] : List Int))).bind fun bt313 => (if 0 ≤ bt304.1 then (if bt304.1 < (x246000.length : Int) then (some ((x246000.set (bt304.1 : Int).toNat (⟨(⟨(rd_T30 x246000 bt304.1).f0.f0, (rd_T30 x246000 bt304.1).f0.f1⟩ : S28), bt313.1⟩ : S30)), bt313.2.1, bt313.2.2)) else (none)) else (none))) else (if bt307.1 = 1 then ((spec_l01DrawPrefix.f x1000 bt307.2.1 bt307.2.2).bind fun bt317 => (if 0 ≤ bt304.1 then (if bt304.1 < (x246000.length : Int) then (some ((x246000.set (bt304.1 : Int).toNat (⟨(⟨bt317.1, bt317.2.1⟩ : S28), (rd_T30 x246000 bt304.1).f1⟩ : S30)), bt317.2.2.1, bt317.2.2.2)) else (none)) else (none))) else (if bt307.1 = 2 then (if 0 < (x246000.length : Int) then (if x246000.length < 5864062014805 then (some ((x246000 ++ [(⟨(⟨(rd_T30 x246000 0).f0.f0, (rd_T30 x246000 0).f0.f1⟩ : S28), (rd_T30 x246000 0).f1⟩ : S30)]), bt307.2.1, bt307.2.2)) else (none)) else (none)) else (some (x246000, bt307.2.1, bt307.2.2))))))) else (some (x246000, x1001, x1002))
end
def spec_l02DrawTable.f (k : Nat) (s0_0 : List Int) (s0_1 : Int) (s0_2 : Int) (a1 : Int) : Option ((List (S30)) × Int × Int) := spec_l02DrawTable.l0 k a1 0 s0_0 s0_1 s0_2 ([] : List (S30))
theorem spec_l02DrawTable.mono_l : ∀ k, (∀ y0 y1 y2 y3 y4 y5, LeO (spec_l02DrawTable.l0 k y0 y1 y2 y3 y4 y5) (spec_l02DrawTable.l0 (k + 1) y0 y1 y2 y3 y4 y5)) ∧ (∀ y0 y1 y2 y3 y4 y5 y6 y7 y8, LeO (spec_l02DrawTable.j1 k y0 y1 y2 y3 y4 y5 y6 y7 y8) (spec_l02DrawTable.j1 (k + 1) y0 y1 y2 y3 y4 y5 y6 y7 y8)) ∧ (∀ y0 y1 y2 y3 y4, LeO (spec_l02DrawTable.j2 k y0 y1 y2 y3 y4) (spec_l02DrawTable.j2 (k + 1) y0 y1 y2 y3 y4))
 | 0 => ⟨fun _ _ _ _ _ _ r h => by simp [spec_l02DrawTable.l0] at h, fun _ _ _ _ _ _ _ _ _ r h => by simp [spec_l02DrawTable.j1] at h, fun _ _ _ _ _ r h => by simp [spec_l02DrawTable.j2] at h⟩
 | k + 1 => by
  obtain ⟨ih0, ih1, ih2⟩ := spec_l02DrawTable.mono_l k
  refine ⟨?_, ?_, ?_⟩
  ·intro y0 y1 y2 y3 y4 y5
   unfold spec_l02DrawTable.l0
   repeat' first | (with_reducible first | exact ih0 _ _ _ _ _ _ | exact ih1 _ _ _ _ _ _ _ _ _ | exact ih2 _ _ _ _ _ | exact spec_PutRoute.mono _ _ _ _ _ | exact LeO.refl _ | exact LeO.none _ | refine LeO.ite ?_ ?_ | refine LeO.bind ?_ (fun _ => ?_)) | exact ih0 _ _ _ _ _ _ | exact ih1 _ _ _ _ _ _ _ _ _ | exact ih2 _ _ _ _ _ | exact spec_PutRoute.mono _ _ _ _ _ | exact LeO.none _ | refine LeO.ite ?_ ?_ | refine LeO.bind ?_ (fun _ => ?_)
  ·intro y0 y1 y2 y3 y4 y5 y6 y7 y8
   unfold spec_l02DrawTable.j1
   repeat' first | (with_reducible first | exact ih0 _ _ _ _ _ _ | exact ih1 _ _ _ _ _ _ _ _ _ | exact ih2 _ _ _ _ _ | exact spec_PutRoute.mono _ _ _ _ _ | exact LeO.refl _ | exact LeO.none _ | refine LeO.ite ?_ ?_ | refine LeO.bind ?_ (fun _ => ?_)) | exact ih0 _ _ _ _ _ _ | exact ih1 _ _ _ _ _ _ _ _ _ | exact ih2 _ _ _ _ _ | exact spec_PutRoute.mono _ _ _ _ _ | exact LeO.none _ | refine LeO.ite ?_ ?_ | refine LeO.bind ?_ (fun _ => ?_)
  ·intro y0 y1 y2 y3 y4
   unfold spec_l02DrawTable.j2
   repeat' first | (with_reducible first | exact ih0 _ _ _ _ _ _ | exact ih1 _ _ _ _ _ _ _ _ _ | exact ih2 _ _ _ _ _ | exact spec_PutRoute.mono _ _ _ _ _ | exact LeO.refl _ | exact LeO.none _ | refine LeO.ite ?_ ?_ | refine LeO.bind ?_ (fun _ => ?_)) | exact ih0 _ _ _ _ _ _ | exact ih1 _ _ _ _ _ _ _ _ _ | exact ih2 _ _ _ _ _ | exact spec_PutRoute.mono _ _ _ _ _ | exact LeO.none _ | refine LeO.ite ?_ ?_ | refine LeO.bind ?_ (fun _ => ?_)
theorem spec_l02DrawTable.mono : ∀ a0 a1 a2 a3 k, LeO (spec_l02DrawTable.f k a0 a1 a2 a3) (spec_l02DrawTable.f (k + 1) a0 a1 a2 a3) := by
 intro a0 a1 a2 a3 k
 obtain ⟨ih0, ih1, ih2⟩ := spec_l02DrawTable.mono_l k
 unfold spec_l02DrawTable.f
 repeat' first | (with_reducible first | exact ih0 _ _ _ _ _ _ | exact ih1 _ _ _ _ _ _ _ _ _ | exact ih2 _ _ _ _ _ | exact spec_PutRoute.mono _ _ _ _ _ | exact LeO.refl _ | exact LeO.none _ | refine LeO.ite ?_ ?_ | refine LeO.bind ?_ (fun _ => ?_)) | exact ih0 _ _ _ _ _ _ | exact ih1 _ _ _ _ _ _ _ _ _ | exact ih2 _ _ _ _ _ | exact spec_PutRoute.mono _ _ _ _ _ | exact LeO.none _ | refine LeO.ite ?_ ?_ | refine LeO.bind ?_ (fun _ => ?_)
def spec_l02DrawTable.T7 : Bool × List (List Nat × List Nat) := (true, [([], []), ([0], [0]), ([], []), ([], []), ([3], [3]), ([4], [4]), ([2, 5], [2, 5]), ([1, 6], [1, 6]), ([7], [7]), ([8], [8]), ([], []), ([10, 9, 6, 0, 1, 2, 3, 4, 5, 6, 7, 8, 9, 10], [9, 10])])
def spec_l02DrawTable.B7 : List Nat := [0, 1, 0, 0, 8, 24, 60, 127, 255, 511, 0, 2047]
theorem spec_l02DrawTable.tab7 : rtab .any (opsOf Try.f60 7) = spec_l02DrawTable.T7 := by kernel_rfl
theorem spec_l02DrawTable.bits7 : waitsOk spec_l02DrawTable.T7.2 spec_l02DrawTable.B7 = true := by kernel_rfl
def spec_l02DrawTable.T13 : Bool × List (List Nat × List Nat) := (true, [([], []), ([], []), ([], []), ([2], [2]), ([1, 3], [1, 3]), ([0, 4, 3], [0, 4]), ([5], [5]), ([6], [6]), ([6], [6]), ([], []), ([9, 7, 5, 0, 1, 2, 3, 4, 5, 6, 7, 9], [7, 9]), ([8, 10, 0, 1, 2, 3, 4, 5, 6, 7, 8, 9, 10], [8])])
def spec_l02DrawTable.B13 : List Nat := [0, 0, 0, 4, 14, 31, 63, 127, 127, 0, 767, 2047]
theorem spec_l02DrawTable.tab13 : rtab .any (opsOf Try.f60 13) = spec_l02DrawTable.T13 := by kernel_rfl
theorem spec_l02DrawTable.bits13 : waitsOk spec_l02DrawTable.T13.2 spec_l02DrawTable.B13 = true := by kernel_rfl
def spec_l02DrawTable.T19 : Bool × List (List Nat × List Nat) := (true, [([], []), ([0], [0]), ([], []), ([], []), ([], []), ([3, 4], [3, 4]), ([1, 2, 0, 1, 2, 3, 4, 5], [1, 2]), ([6, 0, 1, 2, 3, 4, 5], [6]), ([7, 5, 5, 0, 1, 2, 3, 4, 5], [5, 7])])
def spec_l02DrawTable.B19 : List Nat := [0, 1, 0, 0, 0, 24, 63, 127, 255]
theorem spec_l02DrawTable.tab19 : rtab .any (opsOf Try.f60 19) = spec_l02DrawTable.T19 := by kernel_rfl
theorem spec_l02DrawTable.bits19 : waitsOk spec_l02DrawTable.T19.2 spec_l02DrawTable.B19 = true := by kernel_rfl
def spec_l02DrawTable.T21 : Bool × List (List Nat × List Nat) := (true, [([], []), ([0], [0]), ([], []), ([], []), ([3], [3]), ([1, 2, 0, 1, 2, 3, 4], [1, 2]), ([5, 0, 1, 2, 3, 4], [5]), ([6, 4, 4, 0, 1, 2, 3, 4], [4, 6])])
def spec_l02DrawTable.B21 : List Nat := [0, 1, 0, 0, 8, 31, 63, 127]
theorem spec_l02DrawTable.tab21 : rtab .any (opsOf Try.f60 21) = spec_l02DrawTable.T21 := by kernel_rfl
theorem spec_l02DrawTable.bits21 : waitsOk spec_l02DrawTable.T21.2 spec_l02DrawTable.B21 = true := by kernel_rfl
def spec_l02DrawTable.T23 : Bool × List (List Nat × List Nat) := (true, [([], []), ([0], [0]), ([], []), ([2], [2]), ([3], [3]), ([4], [4]), ([5], [5]), ([1, 6], [1, 6]), ([0, 1, 2, 3, 4, 5, 6, 7], []), ([8, 7, 7, 0, 1, 2, 3, 4, 5, 6, 7], [7, 8])])
def spec_l02DrawTable.B23 : List Nat := [0, 1, 0, 4, 12, 28, 60, 127, 255, 511]
theorem spec_l02DrawTable.tab23 : rtab .any (opsOf Try.f60 23) = spec_l02DrawTable.T23 := by kernel_rfl
theorem spec_l02DrawTable.bits23 : waitsOk spec_l02DrawTable.T23.2 spec_l02DrawTable.B23 = true := by kernel_rfl
set_option maxHeartbeats 8000000 in
set_option maxRecDepth 100000 in
theorem spec_l02DrawTable.calls (k : Nat) (g : Nat) (s0_0 : List Int) (s0_1 : Int) (s0_2 : Int) (a1 : Int) (r1 : List (S30)) (r2 : Int) (r3 : Int) (w0 w : World) (hI : IsS112 w0 w g s0_0 s0_1 s0_2) (hB : Below w0.heap.size w0 w) (h : spec_l02DrawTable.f k s0_0 s0_1 s0_2 a1 = some (r1, r2, r3)) :
  Calls Try.prog 60 #[.pointer (some ⟨g, 0, none⟩), .int .i64 a1] w fun e w' => ∃ v0_ : Value, e = .returned (.agg #[v0_]) ∧ Kd.R k30 30 w' w.heap.size (fun _ => True) v0_ r1 ∧ IsS112 w0 w' g s0_0 r2 r3 ∧ Below w0.heap.size w0 w' ∧ KeepBut w w' g none := by
 have hu26 := Try.underlying26
 have hu28 := Try.underlying28
 have hu30 := Try.underlying30
 have HI0 := Aside0.mk hI
 have HK := Aside0.mk (KeepBut.refl w g none)
 have HL := Aside0.mk hB.size
 clear hI
 have HW0 := Aside0.mk hB.size
 have HB := Aside0.mk hB
 clear hB
 have H : (spec_l02DrawTable.l0 k a1 0 s0_0 s0_1 s0_2 ([] : List (S30))) = some (r1, r2, r3) := h
 clear h
 have H' := Aside0.mk H
 clear H
 go_enter Try.func60, Try.ntmps60
 go_wp2_with (first | ((with_reducible refine gate_dst (N := 4) rfl ?_); refine box_event ?hg (N := 4) ?hd (cs := #[.slice none 0 0]) (t := 26) ?hr ?_; (case hd => rfl); (case hg => rfl); (case hr => first | (go_simp; done) | (go_simp; rfl)); intro gb244 hg w3 hbox hb; have BK244 := Aside0.mk hbox; have GW244 := gw_ HK hg; have GE244 := gv_ HW0 HK hg; have NB0_244 := Aside0.mk ((by rw [hg]; exact Nat.ne_of_lt (IsS112.lt (show IsS112 w0 _ g s0_0 s0_1 s0_2 from is112_)) : g ≠ gb244)); have NB244_0 := Aside0.mk ((by rw [hg]; exact Nat.ne_of_gt (IsS112.lt (show IsS112 w0 _ g s0_0 s0_1 s0_2 from is112_)) : gb244 ≠ g)); replace HB := bs112_ hb; replace HK := kt_ HK (KeepBut.of_below hb g none); replace HI0 := Aside0.mk (IsS112.below is112_ hb); clear hb hbox hg) | ((with_reducible refine gate_dst (N := 5) rfl ?_); refine box_event ?hg (N := 5) ?hd (cs := #[.slice none 0 0]) (t := 26) ?hr ?_; (case hd => rfl); (case hg => rfl); (case hr => first | (go_simp; done) | (go_simp; rfl)); intro gb245 hg w4 hbox hb; have BK245 := Aside0.mk hbox; have GW245 := gw_ HK hg; have GE245 := gv_ HW0 HK hg; have NB244_245 := nl_ BK244 hg; have NB245_244 := ng_ BK244 hg; have NB0_245 := Aside0.mk ((by rw [hg]; exact Nat.ne_of_lt (IsS112.lt (show IsS112 w0 _ g s0_0 s0_1 s0_2 from is112_)) : g ≠ gb245)); have NB245_0 := Aside0.mk ((by rw [hg]; exact Nat.ne_of_gt (IsS112.lt (show IsS112 w0 _ g s0_0 s0_1 s0_2 from is112_)) : gb245 ≠ g)); replace HB := bs112_ hb; replace HK := kt_ HK (KeepBut.of_below hb g none); replace BK244 := ab_ BK244 hb; replace HI0 := Aside0.mk (IsS112.below is112_ hb); clear hb hbox hg; have hnb5 := NB245_244.out; have hnc5 := NB244_245.out; have hnb6 := NB245_0.out; have hnc6 := NB0_245.out; have hcz7_0 := cz_ BK245 0 (.slice none 0 0); have hfz7_0 := fz_ BK245 0))
 go_loopg [6] k (fun kq v6 w' => ∃ (x6_1 : Int) (x1001_1 : Int) (x1002_1 : Int) (x246000_1 : List (S30)) (u246000 : Value), v6 = .int .i64 x6_1 ∧ Aside0 (spec_l02DrawTable.l0 kq a1 x6_1 s0_0 x1001_1 x1002_1 x246000_1 = some (r1, r2, r3)) ∧ Aside0 (kq ≤ k) ∧ Aside0 (Kd.R k30 30 w' w.heap.size (fun _ => True) u246000 x246000_1) ∧ Aside0 (w'.heap[gb244]? = some (.cells #[(.slice none 0 0)] 26 (0, 0))) ∧ Aside0 (w'.heap[gb245]? = some (.cells #[u246000] 26 (0, 0))) ∧ Aside0 (IsS112 w0 w' g s0_0 x1001_1 x1002_1) ∧ Aside0 (KeepBut w w' g none) ∧ Aside0 (Below w0.heap.size w0 w'))
 case atStart => exact ⟨(0), (s0_1), (s0_2), (([] : List (S30))), (.slice none 0 0), er_, H', ⟨Nat.le_refl _⟩, ⟨by first | exact Kd.R_nil _ _ _ _ _ | exact Kd.N_nil _ _ _ _ _ | exact Kd.V_nil _ _ _ _ _ | exact Kd.Q_nil _ _ _ _ _ | exact Kd.S_nil _ _ _ _ _⟩, ⟨bc_ BK244⟩, ⟨by refine bd_ ?_; refine blk_put (cs := #[.slice none 0 0]) ?_ 0 _ rfl; refine bd_ ?_; exact BK245.out⟩, ⟨is112_⟩, ⟨kx_ HK⟩, ⟨bw112_⟩⟩
 case round =>
  clear H'
  try clear p2
  try clear c5
  try clear c6
  try clear hcz7_0
  try clear hfz7_0
  obtain ⟨x6_1, x1001_1, x1002_1, x246000_1, u246000, rfl, HA, HK1, HO_246000, BK244, BK245, HI0, HK, HB⟩ := hrel
  cases gk with
  | zero => exact absurd HA.out (by simp [spec_l02DrawTable.l0])
  | succ k1 =>
   have H := HA.out
   clear HA
   simp only [spec_l02DrawTable.l0] at H
   by_cases c8 : x6_1 < a1
   rotate_left
   ·rw [if_neg c8] at H
    have c8b0 : decide (x6_1 < a1) = false := decide_eq_false c8
    clear c8
    have HC216 := Aside0.mk H
    clear H
    go_upto_region 15 with (fail)
    go_cut [69] (fun v69 wc => ∃ (kq : Nat) (x69_215 : Bool) (x1001_215 : Int) (x1002_215 : Int), v69 = .bool x69_215 ∧ Aside0 (spec_l02DrawTable.j2 kq x69_215 s0_0 x1001_215 x1002_215 x246000_1 = some (r1, r2, r3)) ∧ Aside0 (kq ≤ k1) ∧ Aside0 (Kd.R k30 30 wc w.heap.size (fun _ => True) u246000 x246000_1) ∧ Aside0 (wc.heap[gb244]? = some (.cells #[(.slice none 0 0)] 26 (0, 0))) ∧ Aside0 (wc.heap[gb245]? = some (.cells #[u246000] 26 (0, 0))) ∧ Aside0 (IsS112 w0 wc g s0_0 x1001_215 x1002_215) ∧ Aside0 (KeepBut w wc g none) ∧ Aside0 (Below w0.heap.size w0 wc))
    case first =>
     have H := HC216.out
     clear HC216
     replace H := Option.bind_eq_some_iff.mp H
     obtain ⟨⟨t301, t302, t303⟩, A2170, H⟩ := H
     have A217 := Aside0.mk A2170
     clear A2170
     by_cases c218 : t301 = true
     ·subst c218
      rw [if_pos rfl] at H
      have H' := Aside0.mk H
      clear H
      go_wp2_with (first | ((with_reducible refine gate_callee (f := 81) rfl ?_); refine gl_ (some 63) Try.func81 #[.pointer (some ⟨g, 0, none⟩), .int .i64 25] ?_; (with_reducible refine (spec_l01Once.calls g s0_0 x1001_1 x1002_1 25 true t302 t303 w0 _ ?side1 ?side2 A217.out).mono ?_); (case side1 => exact is112_); (case side2 => exact bw112_); rintro e w219 ⟨rfl, hi, hb, hk⟩; refine ⟨_, rfl, ?_⟩; replace HO_246000 := ak112_ HO_246000 (show IsS112 w0 _ g s0_0 x1001_1 x1002_1 from is112_) hk; replace BK244 := kb_ BK244 NB244_0 hk; replace BK245 := kb_ BK245 NB245_0 hk; replace HK := kt_ HK hk; replace HB := Aside0.mk (hb); replace HI0 := Aside0.mk (hi); (try clear hb); (try clear hb2); (try clear hk); (try clear hi); have hnb220 := NB245_244.out; have hnc220 := NB244_245.out; have hnb221 := NB245_0.out; have hnc221 := NB0_245.out; have hcz222_0 := cz_ BK245 0 (u246000); have hfz222_0 := fz_ BK245 0; obtain ⟨Ao223, co223, eo223⟩ := Kd.R_slice HO_246000.out; subst eo223))
      go_meet
      case rel => exact ⟨_, (decide ((x246000_1.length : Int) > 0)), (t302), (t303), er_, H', ⟨by have := HK1.out; first | omega | exact Nat.le_refl _⟩, ⟨hd_ HO_246000⟩, ⟨bx_ BK244⟩, ⟨bx_ BK245⟩, ⟨is112_⟩, ⟨kx_ HK⟩, ⟨bw112_⟩⟩
     replace c218 := Bool.eq_false_iff.mpr c218
     subst c218
     rw [if_neg (show ¬ (false = true) by decide)] at H
     have H' := Aside0.mk H
     clear H
     go_wp2_with (first | ((with_reducible refine gate_callee (f := 81) rfl ?_); refine gl_ (some 63) Try.func81 #[.pointer (some ⟨g, 0, none⟩), .int .i64 25] ?_; (with_reducible refine (spec_l01Once.calls g s0_0 x1001_1 x1002_1 25 false t302 t303 w0 _ ?side1 ?side2 A217.out).mono ?_); (case side1 => exact is112_); (case side2 => exact bw112_); rintro e w224 ⟨rfl, hi, hb, hk⟩; refine ⟨_, rfl, ?_⟩; replace HO_246000 := ak112_ HO_246000 (show IsS112 w0 _ g s0_0 x1001_1 x1002_1 from is112_) hk; replace BK244 := kb_ BK244 NB244_0 hk; replace BK245 := kb_ BK245 NB245_0 hk; replace HK := kt_ HK hk; replace HB := Aside0.mk (hb); replace HI0 := Aside0.mk (hi); (try clear hb); (try clear hb2); (try clear hk); (try clear hi)))
     go_meet
     case rel => exact ⟨_, (false), (t302), (t303), er_, H', ⟨by have := HK1.out; first | omega | exact Nat.le_refl _⟩, ⟨hd_ HO_246000⟩, ⟨bx_ BK244⟩, ⟨bx_ BK245⟩, ⟨is112_⟩, ⟨kx_ HK⟩, ⟨bw112_⟩⟩
    case rest =>
     clear HC216
     try clear c1
     try clear c2
     try clear p2
     try clear c4
     try clear p6
     try clear c8
     try clear c8b0
     try clear c10
     try clear c20
     try clear c21
     try clear c22
     try clear c44
     try clear p64
     try clear c81
     try clear c207
     try clear c208
     try clear c209
     try clear c210
     try clear c212
     try clear c213
     try clear c214
     try clear c218
     try clear c220
     try clear c221
     try clear hcz211_0
     try clear hcz215_0
     try clear hcz222_0
     try clear hfz211_0
     try clear hfz215_0
     try clear hfz222_0
     obtain ⟨kq, x69_215, x1001_215, x1002_215, rfl, HA, HJ215, HO_246000, BK244, BK245, HI0, HK, HB⟩ := hcut
     cases kq with
     | zero => exact absurd HA.out (by simp [spec_l02DrawTable.j2])
     | succ kj215 =>
      have H := HA.out
      clear HA
      simp only [spec_l02DrawTable.j2] at H
      by_cases c225 : x69_215 = true
      rotate_left
      ·replace c225 := Bool.eq_false_iff.mpr c225
       subst c225
       rw [if_neg (show ¬ (false = true) by decide)] at H
       simp only [Option.some.injEq, Prod.mk.injEq] at H
       obtain ⟨rfl, rfl, rfl⟩ := H
       have hnb292 := NB245_244.out
       have hnc292 := NB244_245.out
       have hnb293 := NB245_0.out
       have hnc293 := NB0_245.out
       have hcz294_0 := cz_ BK245 0 (u246000)
       have hfz294_0 := fz_ BK245 0
       obtain ⟨Ao295, co295, eo295⟩ := Kd.R_slice HO_246000.out
       subst eo295
       have hnb296 := NB244_0.out
       have hnc296 := NB0_244.out
       have hcz297_0 := cz_ BK244 0 (.slice none 0 0)
       have hfz297_0 := fz_ BK244 0
       go_wp2
       refine bodyPost_ret (results_cell_row rfl _ _ gb244 26 #[.slice Ao295 x246000_1.length co295] (0, 0) _ rfl (by refine bd_ ?_; refine blk_put (cs := #[.slice none 0 0]) ?_ 0 _ rfl; refine bd_ ?_; exact BK244.out) Try.underlying26 rfl (by kernel_rfl)) rfl ?_
       exact ⟨_, by first | rfl | (simp [errW_none, errW_some] <;> rfl) | (simp [*, errW_none, errW_some] <;> rfl), by (with_reducible repeat (first | apply Kd.R_alloc | apply Kd.R_drewN | apply Kd.R_drew)); exact Kd.R_mono (Kd.R_far (p := ⟨gb244, 0, none⟩) (Kd.R_types HO_246000.out BK244.out (by decide)) (fun _ hk => hk.2) (.slice Ao295 x246000_1.length co295)) (fun _ hk => trivial), is112_, bw112_, kx_ HK⟩
      subst c225
      rw [if_pos rfl] at H
      replace H := Option.bind_eq_some_iff.mp H
      obtain ⟨⟨t304, t305, t306⟩, A2260, H⟩ := H
      have A226 := Aside0.mk A2260
      clear A2260
      replace H := Option.bind_eq_some_iff.mp H
      obtain ⟨⟨t307, t308, t309⟩, A2270, H⟩ := H
      have A227 := Aside0.mk A2270
      clear A2270
      by_cases c228 : t307 = 0
      ·rw [if_pos c228] at H
       have c228b0 : (t307 == 0) = true := beq_iff_eq.mpr c228
       have c228b1 : (t307 != 0) = false := bne_eq_false_iff_eq.mpr c228
       clear c228
       obtain ⟨y310, hy310⟩ : ∃ y_ : List Int, y_ = (([(-1), 999, 1000] : List Int)) := ⟨_, rfl⟩
       replace H : ((spec_l01PickInt.f s0_0 t308 t309 y310).bind fun bt313 => (if 0 ≤ t304 then (if t304 < (x246000_1.length : Int) then (some ((x246000_1.set (t304 : Int).toNat (⟨(⟨(rd_T30 x246000_1 t304).f0.f0, (rd_T30 x246000_1 t304).f0.f1⟩ : S28), bt313.1⟩ : S30)), bt313.2.1, bt313.2.2)) else (none)) else (none))) = some (r1, r2, r3) := by first | (rw [hy310]; with_reducible exact H) | (have H2_ := (Option.bind_some _ _).symm.trans H; rw [hy310]; with_reducible exact H2_) | (have H2_ := (Option.bind_some _ _).symm.trans H; with_reducible exact H2_) | with_reducible exact H | (rw [hy310]; exact H) | exact H
       have Ny310 := Aside0.mk hy310
       clear hy310
       replace H := Option.bind_eq_some_iff.mp H
       obtain ⟨⟨t313, t314, t315⟩, A2290, H⟩ := H
       have A229 := Aside0.mk A2290
       clear A2290
       obtain ⟨c230b0, H⟩ := iq_ H
       obtain ⟨c231b0, H⟩ := iq_ H
       obtain ⟨y316, hy316⟩ : ∃ y_ : List (S30), y_ = (x246000_1.set (t304 : Int).toNat (⟨(⟨(rd_T30 x246000_1 t304).f0.f0, (rd_T30 x246000_1 t304).f0.f1⟩ : S28), t313⟩ : S30)) := ⟨_, rfl⟩
       replace H : (some (y316, t314, t315)) = some (r1, r2, r3) := by first | (rw [hy316]; with_reducible exact H) | (have H2_ := (Option.bind_some _ _).symm.trans H; rw [hy316]; with_reducible exact H2_) | (have H2_ := (Option.bind_some _ _).symm.trans H; with_reducible exact H2_) | with_reducible exact H | (rw [hy316]; exact H) | exact H
       have Ny316 := Aside0.mk hy316
       clear hy316
       simp only [Option.some.injEq, Prod.mk.injEq] at H
       obtain ⟨rfl, rfl, rfl⟩ := H
       have hnb233 := NB245_244.out
       have hnc233 := NB244_245.out
       have hnb234 := NB245_0.out
       have hnc234 := NB0_245.out
       have hcz235_0 := cz_ BK245 0 (u246000)
       have hfz235_0 := fz_ BK245 0
       obtain ⟨Ao236, co236, eo236⟩ := Kd.R_slice HO_246000.out
       subst eo236
       try go_wp2_with (first | ((with_reducible refine gate_callee (f := 44) rfl ?_); refine gl_ (some 74) Try.func44 #[.pointer (some ⟨g, 0, none⟩), .int .i64 (x246000_1.length : Int)] ?_; (with_reducible refine (spec_l01Below.calls g s0_0 x1001_215 x1002_215 (x246000_1.length : Int) t304 t305 t306 w0 _ ?side1 ?side2 A226.out).mono ?_); (case side1 => exact is112_); (case side2 => exact bw112_); rintro e w237 ⟨rfl, hi, hb, hk⟩; refine ⟨_, rfl, ?_⟩; replace HO_246000 := ak112_ HO_246000 (show IsS112 w0 _ g s0_0 x1001_215 x1002_215 from is112_) hk; replace BK244 := kb_ BK244 NB244_0 hk; replace BK245 := kb_ BK245 NB245_0 hk; replace HK := kt_ HK hk; replace HB := Aside0.mk (hb); replace HI0 := Aside0.mk (hi); (try clear hb); (try clear hb2); (try clear hk); (try clear hi)) | ((with_reducible refine gate_callee (f := 44) rfl ?_); refine gl_ (some 76) Try.func44 #[.pointer (some ⟨g, 0, none⟩), .int .i64 3] ?_; (with_reducible refine (spec_l01Below.calls g s0_0 t305 t306 3 t307 t308 t309 w0 _ ?side1 ?side2 A227.out).mono ?_); (case side1 => exact is112_); (case side2 => exact bw112_); rintro e w238 ⟨rfl, hi, hb, hk⟩; refine ⟨_, rfl, ?_⟩; replace HO_246000 := ak112_ HO_246000 (show IsS112 w0 _ g s0_0 t305 t306 from is112_) hk; replace BK244 := kb_ BK244 NB244_0 hk; replace BK245 := kb_ BK245 NB245_0 hk; replace HK := kt_ HK hk; replace HB := Aside0.mk (hb); replace HI0 := Aside0.mk (hi); (try clear hb); (try clear hb2); (try clear hk); (try clear hi)))
       replace HO_246000 := Aside0.mk (Kd.R_drew HO_246000.out)
       replace BK244 := ad_ BK244
       replace BK245 := ad_ BK245
       replace HI0 := Aside0.mk (IsS112.drew HI0.out)
       replace HK := Aside0.mk (keep_drew HK.out)
       replace HB := Aside0.mk (below_drew1 HB.out)
       refine start_ (n := 9) (S := fun w' => w'.cell? ⟨gb245, 0, none⟩ = some (.slice Ao236 x246000_1.length co236)) (ds := [8]) ba9_25 (by kernel_rfl) rfl rfl ((blk_cell BK245.out 0).trans rfl) (fun hHeld => ?_); refine with_tabW spec_l02DrawTable.tab19 spec_l02DrawTable.bits19 (fun HT_ HW_ => ?_)
       generalize w238.drew = w239 at HO_246000 BK244 BK245 HI0 HK HB hHeld ⊢
       refine pz_ 0 79 ba9_26 HT_ ?_
       refine pz_ 2 81 ba9_27 HT_ ?_
       refine pz_ 3 82 ba9_28 HT_ ?_
       refine take_ (i := 1) (N := some 80) (v := ?_) (a' := ?_) ba9_29 rfl rfl (take_ofW HT_.out HW_.out (by kernel_rfl)) (fun _ _ _ h => h) (Or.inl ⟨by rfl, ?_⟩) hHeld ?_ ?_
       rotate_left; · intro w' s0; go_simp; with_reducible rfl
       rotate_left; · simp only [Act.put, List.setIfInBounds_toArray, List.set_cons_zero, List.set_cons_succ, i64_w, i32_w]; rfl
       refine one_ (i := 4) (N := some 83) ba9_30 rfl rfl (one_of HT_.out (by kernel_rfl)) (by decide) (fun K hK => ?_)
       refine Kd.R_lit_step (Kd.int .i64) _ 3 ?hg (N := 83) ?hd (xs := ([(-1), 999, 1000] : List Int)) (inner := [.int .i64 (-1), .int .i64 999, .int .i64 1000]) (ok := fun _ => True) (okp := fun _ => True) ?hr ?hp (fun _ hk => hk) trivial (Below.refl _ _) (Nat.le_refl _) (by simp) ?_; (case hd => rfl); (case hg => rfl); (case hr => first | (go_simp; done) | (go_simp; rfl)); (case hp => exact (Reps.one (show Kd.M (Kd.int .i64) _ _ _ (-1) [.int .i64 (-1)] from rfl) (Reps.one (show Kd.M (Kd.int .i64) _ _ _ 999 [.int .i64 999] from rfl) (Reps.one (show Kd.M (Kd.int .i64) _ _ _ 1000 [.int .i64 1000] from rfl) (Reps.none _ _)))))
       intro v311 w240 ho241 hb hg_ hnew_
       clear hg_ hnew_
       (first | rw [← Ny310.out] at ho241 | (simp only [Int.reduceToNat] at ho241; rw [← Ny310.out] at ho241))
       have HO312 := Aside0.mk (Kd.R_lower ho241 (keep_size (w := w) (g := g) (row := none) (kx_ HK)))
       replace HO_246000 := rb_ HO_246000 hb
       replace BK244 := ab_ BK244 hb
       replace BK245 := ab_ BK245 hb
       replace HK := kt_ HK (KeepBut.of_below hb g none)
       replace HB := bs112_ hb
       replace HI0 := Aside0.mk (IsS112.below is112_ hb)
       clear hb ho241
       obtain ⟨Ao242, co242, eo242⟩ := Kd.R_slice HO312.out
       (first | subst eo242 | (injection eo242 with f1_ f2_ f3_; have f4_ := f1_.symm; have f5_ := f3_.symm; clear f1_ f2_ f3_; subst f4_; subst f5_))
       refine hK.out _ _ ((blk_cell BK245.out 0).trans rfl) (fun hHeld => ?_)
       clear hK K
       refine nz_ 83 ?_
       refine one_ (i := 5) (N := some 84) ba9_31 rfl rfl (one_of HT_.out (by kernel_rfl)) (by decide) (fun K hK => ?_)
       refine gz_ Try.func43 #[.pointer (some ⟨g, 0, none⟩), .slice Ao242 y310.length co242] ?_
       with_reducible refine (spec_l01PickInt.calls g s0_0 t308 t309 _ _ y310 t313 t314 t315 w0 _ ?side1 ?side2 ?side3 ?side4 ?side5 A229.out).mono ?_
       (case side1 => exact is112_)
       (case side2 => exact bw112_)
       (case side3 => exact rc_ HO312)
       (case side4 => exact (Kd.R_reads' HO312.out).2.1)
       (case side5 => exact far_slice (IsS112.own_ne HI0.out HO312.out (by decide)))
       rintro e w243 ⟨rfl, hi, hb, hk⟩
       refine ⟨_, rfl, ?_⟩
       replace HO_246000 := ak112_ HO_246000 (show IsS112 w0 _ g s0_0 t308 t309 from is112_) hk
       replace BK244 := kb_ BK244 NB244_0 hk
       replace BK245 := kb_ BK245 NB245_0 hk
       replace HO312 := ak112_ HO312 (show IsS112 w0 _ g s0_0 t308 t309 from is112_) hk
       replace HK := kt_ HK hk
       replace HB := Aside0.mk (hb)
       replace HI0 := Aside0.mk (hi)
       (try clear hb)
       (try clear hb2)
       (try clear hk)
       (try clear hi)
       have p232 : 0 ≤ (t304 : Int) := oa_
       have q232 : (t304 : Int) < ((x246000_1.length : Int) : Int) := oa_
       obtain ⟨go232, co232, eo232, gb232, gl232, cl232, HG232⟩ := Kd.R_form HO_246000.out (by omega)
       (first | cases eo232 | (injection eo232 with ea_ en_ ec_; (first | subst ea_ | (injection ea_ with ea_; subst ea_)); subst ec_; clear en_))
       have GB232 := Aside0.mk gb232
       have GG232 := Aside0.mk HG232
       clear gb232 gl232 HG232
       obtain ⟨ce232, hcl232, hM232, hcc232, hfr232⟩ := Kd.R_elem HO_246000.out z30 (t304 : Int) p232 q232
       obtain rfl := k30_openM hM232
       have hx232_0 : World.cell? _ ⟨go232, (t304 : Int).toNat * 3, none⟩ = some (.int .i64 ((rd_T30 x246000_1 t304).f0.f0)) := hcc232 0 _ rfl
       have hx232_1 : World.cell? _ ⟨go232, (t304 : Int).toNat * 3 + 1, none⟩ = some (.int .i64 ((rd_T30 x246000_1 t304).f0.f1)) := hcc232 1 _ rfl
       have hx232_2 : World.cell? _ ⟨go232, (t304 : Int).toNat * 3 + 2, none⟩ = some (.int .i64 ((rd_T30 x246000_1 t304).f1)) := hcc232 2 _ rfl
       have hf232_0 : World.frozen? _ ⟨go232, (t304 : Int).toNat * 3, none⟩ = false := hfr232 0
       have hf232_1 : World.frozen? _ ⟨go232, (t304 : Int).toNat * 3 + 1, none⟩ = false := hfr232 1
       have hf232_2 : World.frozen? _ ⟨go232, (t304 : Int).toNat * 3 + 2, none⟩ = false := hfr232 2
       clear hcl232 hcc232 hfr232 hM232
       replace p232 := eq_true p232
       replace q232 := eq_true q232
       have HN0_go232 := Aside0.mk (show g ≠ go232 from by have h_ := IsS112.own_ne HI0.out HO_246000.out (by decide); intro e_; exact h_ (by rw [e_]; rfl))
       obtain ⟨ce244, hcl244, hM244, hcc244, hfr244⟩ := Kd.R_elem HO_246000.out z30 (t304 : Int) oa_ (by have h_ : (t304 : Int) < ((x246000_1.length : Int) : Int) := oa_; first | exact h_ | (have e_ := (Kd.R_reads' HO_246000.out).1; omega) | simpa using h_)
       obtain rfl := k30_openM hM244
       have HP244 := (Kd.R_seg HO_246000.out (t304 : Int) oa_ (by have h_ : (t304 : Int) < ((x246000_1.length : Int) : Int) := oa_; first | exact h_ | (have e_ := (Kd.R_reads' HO_246000.out).1; omega) | simpa using h_) (seg := [.int .i64 t313]) (j := 2) hcl244 hcc244 (show 3 ≤ 3 from by decide) (x' := (⟨(⟨(rd_T30 x246000_1 t304).f0.f0, (rd_T30 x246000_1 t304).f0.f1⟩ : S28), t313⟩ : S30)) (k30_mkM _ _ _ (⟨(⟨(rd_T30 x246000_1 t304).f0.f0, (rd_T30 x246000_1 t304).f0.f1⟩ : S28), t313⟩ : S30) ) (fun _ hk => hk)).1
       rw [← Ny316.out] at HP244
       have HQ244 := Aside0.mk HP244
       clear hcl244 hcc244 hfr244 hM244 HP244
       refine hK.out _ _ ((blk_cell BK245.out 0).trans rfl) (fun hHeld => ?_)
       clear hK K
       refine nz_ 84 ?_
       refine pz_ 6 85 ba9_32 HT_ ?_
       refine pz_ 7 86 ba9_33 HT_ ?_
       refine last_ (i := 8) (N := none) ba9_34 rfl rfl (one_of HT_.out (by kernel_rfl)) (by decide) (fun K hK => ?_)
       refine skip_ (w1 := ?_) (by rfl) rfl ?_ ?_
       rotate_left; · go_simp; rfl
       refine hK.out _ _ ?_
       clear hK K
       refine done_ (done_of HT_.out (by kernel_rfl)) ?_
       have n0_ : Aside0 (Kd.R k30 30 (w243.setCell ⟨go232, (t304 : Int).toNat * 3 + 2, none⟩ (.int .i64 t313)) w.heap.size (fun _ => True) (.slice (some ⟨go232, 0, none⟩) x246000_1.length co236) y316) := ⟨by (with_reducible repeat (first | apply Kd.R_alloc | apply Kd.R_drewN | apply Kd.R_drew)); exact HQ244.out⟩
       have n1_ : Aside0 (Kd.R (Kd.int .i64) 3 (w243.setCell ⟨go232, (t304 : Int).toNat * 3 + 2, none⟩ (.int .i64 t313)) w.heap.size (fun _ => True) (.slice Ao242 y310.length co242) y310) := ⟨by (with_reducible repeat (first | apply Kd.R_alloc | apply Kd.R_drewN | apply Kd.R_drew)); exact Kd.R_mono (Kd.R_far (p := ⟨go232, (t304 : Int).toNat * 3 + 2, none⟩) (Kd.R_types HO312.out GG232.out (by decide)) (fun _ hk => hk.2) (.int .i64 t313)) (fun _ hk => trivial)⟩
       have n2_ : Aside0 ((w243.setCell ⟨go232, (t304 : Int).toNat * 3 + 2, none⟩ (.int .i64 t313)).heap[gb244]? = some (.cells #[.slice none 0 0] 26 (0, 0))) := ⟨by refine bd_ ?_; refine blk_far ?_ (by have h_ := Kd.R_ne HO_246000.out BK244.out (by decide); intro e_; exact h_ (by rw [e_]; rfl)) _; refine bd_ ?_; exact BK244.out⟩
       have n3_ : Aside0 ((w243.setCell ⟨go232, (t304 : Int).toNat * 3 + 2, none⟩ (.int .i64 t313)).heap[gb245]? = some (.cells #[.slice (some ⟨go232, 0, none⟩) x246000_1.length co236] 26 (0, 0))) := ⟨by refine bd_ ?_; refine blk_far ?_ (by have h_ := Kd.R_ne HO_246000.out BK245.out (by decide); intro e_; exact h_ (by rw [e_]; rfl)) _; refine bd_ ?_; exact BK245.out⟩
       have n4_ : Aside0 (IsS112 w0 (w243.setCell ⟨go232, (t304 : Int).toNat * 3 + 2, none⟩ (.int .i64 t313)) g s0_0 t314 t315) := ⟨by repeat (first | (with_reducible first | exact HI0.out | apply IsS112.alloc | apply IsS112.drewN | apply IsS112.drew | apply IsS112.set_1 | apply IsS112.set_2 | refine IsS112.far ?_ HN0_go232.out _ | refine IsS112.far ?_ NB0_244.out _ | refine IsS112.far ?_ NB0_245.out _) | exact HI0.out)⟩
       have n5_ : Aside0 (KeepBut w (w243.setCell ⟨go232, (t304 : Int).toNat * 3 + 2, none⟩ (.int .i64 t313)) g none) := ⟨by repeat (first | (with_reducible first | exact HK.out | apply KeepBut.set_ | apply keep_drewN | apply keep_drew | apply keep_alloc | refine keep_far ?_ GB232.out _ | refine keep_far ?_ GW244.out _ | refine keep_far ?_ GW245.out _) | exact HK.out)⟩
       have n6_ : Aside0 (Below w0.heap.size w0 (w243.setCell ⟨go232, (t304 : Int).toNat * 3 + 2, none⟩ (.int .i64 t313))) := ⟨by repeat (first | (with_reducible first | exact HB.out | apply below_alloc | apply pw_below_drewN | apply below_drew1 | refine below_set ?_ (Nat.le_trans HL.out GB232.out) | refine below_set ?_ (IsS112.ge HI0.out) | refine below_set ?_ GE244.out | refine below_set ?_ GE245.out) | exact HB.out)⟩
       (try clear HO_246000)
       (try clear HO312)
       (try clear BK244)
       (try clear BK245)
       (try clear HI0)
       (try clear HK)
       (try clear HB)
       generalize (w243.setCell ⟨go232, (t304 : Int).toNat * 3 + 2, none⟩ (.int .i64 t313)) = w245 at n0_ n1_ n2_ n3_ n4_ n5_ n6_ ⊢
       have HO_246000 := n0_
       have HO312 := n1_
       have BK244 := n2_
       have BK245 := n3_
       have HI0 := n4_
       have HK := n5_
       have HB := n6_
       clear n0_ n1_ n2_ n3_ n4_ n5_ n6_
       have hcz246_0 := cz_ BK245 0 (.slice (some ⟨go232, 0, none⟩) x246000_1.length co236)
       have hfz246_0 := fz_ BK245 0
       have hnb247 := NB244_0.out
       have hnc247 := NB0_244.out
       have hcz248_0 := cz_ BK244 0 (.slice none 0 0)
       have hfz248_0 := fz_ BK244 0
       try go_wp2
       refine bodyPost_ret (results_cell_row rfl _ _ gb244 26 #[.slice (some ⟨go232, 0, none⟩) x246000_1.length co236] (0, 0) _ rfl (by refine bd_ ?_; refine blk_put (cs := #[.slice none 0 0]) ?_ 0 _ rfl; refine bd_ ?_; exact BK244.out) Try.underlying26 rfl (by kernel_rfl)) rfl ?_
       exact ⟨_, by first | rfl | (simp [errW_none, errW_some] <;> rfl) | (simp [*, errW_none, errW_some] <;> rfl), by (with_reducible repeat (first | apply Kd.R_alloc | apply Kd.R_drewN | apply Kd.R_drew)); exact Kd.R_mono (Kd.R_far (p := ⟨gb244, 0, none⟩) (Kd.R_types HO_246000.out BK244.out (by decide)) (fun _ hk => hk.2) (.slice (some ⟨go232, 0, none⟩) x246000_1.length co236)) (fun _ hk => trivial), is112_, bw112_, kx_ HK⟩
      rw [if_neg c228] at H
      have c228b0 : (t307 == 0) = false := beq_eq_false_iff_ne.mpr c228
      have c228b1 : (t307 != 0) = true := bne_iff_ne.mpr c228
      by_cases c249 : t307 = 1
      ·rw [if_pos c249] at H
       have c249b0 : (t307 == 1) = true := beq_iff_eq.mpr c249
       have c249b1 : (t307 != 1) = false := bne_eq_false_iff_eq.mpr c249
       clear c249
       replace H := Option.bind_eq_some_iff.mp H
       obtain ⟨⟨t317, t318, t319, t320⟩, A2500, H⟩ := H
       have A250 := Aside0.mk A2500
       clear A2500
       obtain ⟨c251b0, H⟩ := iq_ H
       obtain ⟨c252b0, H⟩ := iq_ H
       obtain ⟨y321, hy321⟩ : ∃ y_ : List (S30), y_ = (x246000_1.set (t304 : Int).toNat (⟨(⟨t317, t318⟩ : S28), (rd_T30 x246000_1 t304).f1⟩ : S30)) := ⟨_, rfl⟩
       replace H : (some (y321, t319, t320)) = some (r1, r2, r3) := by first | (rw [hy321]; with_reducible exact H) | (have H2_ := (Option.bind_some _ _).symm.trans H; rw [hy321]; with_reducible exact H2_) | (have H2_ := (Option.bind_some _ _).symm.trans H; with_reducible exact H2_) | with_reducible exact H | (rw [hy321]; exact H) | exact H
       have Ny321 := Aside0.mk hy321
       clear hy321
       simp only [Option.some.injEq, Prod.mk.injEq] at H
       obtain ⟨rfl, rfl, rfl⟩ := H
       have hnb254 := NB245_244.out
       have hnc254 := NB244_245.out
       have hnb255 := NB245_0.out
       have hnc255 := NB0_245.out
       have hcz256_0 := cz_ BK245 0 (u246000)
       have hfz256_0 := fz_ BK245 0
       obtain ⟨Ao257, co257, eo257⟩ := Kd.R_slice HO_246000.out
       subst eo257
       try go_wp2_with (first | ((with_reducible refine gate_callee (f := 44) rfl ?_); refine gl_ (some 74) Try.func44 #[.pointer (some ⟨g, 0, none⟩), .int .i64 (x246000_1.length : Int)] ?_; (with_reducible refine (spec_l01Below.calls g s0_0 x1001_215 x1002_215 (x246000_1.length : Int) t304 t305 t306 w0 _ ?side1 ?side2 A226.out).mono ?_); (case side1 => exact is112_); (case side2 => exact bw112_); rintro e w258 ⟨rfl, hi, hb, hk⟩; refine ⟨_, rfl, ?_⟩; replace HO_246000 := ak112_ HO_246000 (show IsS112 w0 _ g s0_0 x1001_215 x1002_215 from is112_) hk; replace BK244 := kb_ BK244 NB244_0 hk; replace BK245 := kb_ BK245 NB245_0 hk; replace HK := kt_ HK hk; replace HB := Aside0.mk (hb); replace HI0 := Aside0.mk (hi); (try clear hb); (try clear hb2); (try clear hk); (try clear hi)) | ((with_reducible refine gate_callee (f := 44) rfl ?_); refine gl_ (some 76) Try.func44 #[.pointer (some ⟨g, 0, none⟩), .int .i64 3] ?_; (with_reducible refine (spec_l01Below.calls g s0_0 t305 t306 3 t307 t308 t309 w0 _ ?side1 ?side2 A227.out).mono ?_); (case side1 => exact is112_); (case side2 => exact bw112_); rintro e w259 ⟨rfl, hi, hb, hk⟩; refine ⟨_, rfl, ?_⟩; replace HO_246000 := ak112_ HO_246000 (show IsS112 w0 _ g s0_0 t305 t306 from is112_) hk; replace BK244 := kb_ BK244 NB244_0 hk; replace BK245 := kb_ BK245 NB245_0 hk; replace HK := kt_ HK hk; replace HB := Aside0.mk (hb); replace HI0 := Aside0.mk (hi); (try clear hb); (try clear hb2); (try clear hk); (try clear hi)))
       replace HO_246000 := Aside0.mk (Kd.R_drew HO_246000.out)
       replace BK244 := ad_ BK244
       replace BK245 := ad_ BK245
       replace HI0 := Aside0.mk (IsS112.drew HI0.out)
       replace HK := Aside0.mk (keep_drew HK.out)
       replace HB := Aside0.mk (below_drew1 HB.out)
       refine start_ (n := 8) (S := fun w' => w'.cell? ⟨gb245, 0, none⟩ = some (.slice Ao257 x246000_1.length co257)) (ds := [7]) ba9_35 (by kernel_rfl) rfl rfl ((blk_cell BK245.out 0).trans rfl) (fun hHeld => ?_); refine with_tabW spec_l02DrawTable.tab21 spec_l02DrawTable.bits21 (fun HT_ HW_ => ?_)
       generalize w259.drew = w260 at HO_246000 BK244 BK245 HI0 HK HB hHeld ⊢
       refine pz_ 0 89 ba9_36 HT_ ?_
       refine pz_ 2 91 ba9_37 HT_ ?_
       refine pz_ 3 92 ba9_38 HT_ ?_
       refine take_ (i := 1) (N := some 90) (v := ?_) (a' := ?_) ba9_39 rfl rfl (take_ofW HT_.out HW_.out (by kernel_rfl)) (fun _ _ _ h => h) (Or.inl ⟨by rfl, ?_⟩) hHeld ?_ ?_
       rotate_left; · intro w' s0; go_simp; with_reducible rfl
       rotate_left; · simp only [Act.put, List.setIfInBounds_toArray, List.set_cons_zero, List.set_cons_succ, i64_w, i32_w]; rfl
       refine one_ (i := 4) (N := some 93) ba9_40 rfl rfl (one_of HT_.out (by kernel_rfl)) (by decide) (fun K hK => ?_)
       refine gz_ Try.func86 #[.pointer (some ⟨g, 0, none⟩)] ?_
       with_reducible refine (spec_l01DrawPrefix.calls g s0_0 t308 t309 t317 t318 t319 t320 w0 _ ?side1 ?side2 A250.out).mono ?_
       (case side1 => exact is112_)
       (case side2 => exact bw112_)
       rintro e w261 ⟨rfl, hi, hb, hk⟩
       refine ⟨_, rfl, ?_⟩
       replace HO_246000 := ak112_ HO_246000 (show IsS112 w0 _ g s0_0 t308 t309 from is112_) hk
       replace BK244 := kb_ BK244 NB244_0 hk
       replace BK245 := kb_ BK245 NB245_0 hk
       replace HK := kt_ HK hk
       replace HB := Aside0.mk (hb)
       replace HI0 := Aside0.mk (hi)
       (try clear hb)
       (try clear hb2)
       (try clear hk)
       (try clear hi)
       have p253 : 0 ≤ (t304 : Int) := oa_
       have q253 : (t304 : Int) < ((x246000_1.length : Int) : Int) := oa_
       obtain ⟨go253, co253, eo253, gb253, gl253, cl253, HG253⟩ := Kd.R_form HO_246000.out (by omega)
       (first | cases eo253 | (injection eo253 with ea_ en_ ec_; (first | subst ea_ | (injection ea_ with ea_; subst ea_)); subst ec_; clear en_))
       have GB253 := Aside0.mk gb253
       have GG253 := Aside0.mk HG253
       clear gb253 gl253 HG253
       obtain ⟨ce253, hcl253, hM253, hcc253, hfr253⟩ := Kd.R_elem HO_246000.out z30 (t304 : Int) p253 q253
       obtain rfl := k30_openM hM253
       have hx253_0 : World.cell? _ ⟨go253, (t304 : Int).toNat * 3, none⟩ = some (.int .i64 ((rd_T30 x246000_1 t304).f0.f0)) := hcc253 0 _ rfl
       have hx253_1 : World.cell? _ ⟨go253, (t304 : Int).toNat * 3 + 1, none⟩ = some (.int .i64 ((rd_T30 x246000_1 t304).f0.f1)) := hcc253 1 _ rfl
       have hx253_2 : World.cell? _ ⟨go253, (t304 : Int).toNat * 3 + 2, none⟩ = some (.int .i64 ((rd_T30 x246000_1 t304).f1)) := hcc253 2 _ rfl
       have hf253_0 : World.frozen? _ ⟨go253, (t304 : Int).toNat * 3, none⟩ = false := hfr253 0
       have hf253_1 : World.frozen? _ ⟨go253, (t304 : Int).toNat * 3 + 1, none⟩ = false := hfr253 1
       have hf253_2 : World.frozen? _ ⟨go253, (t304 : Int).toNat * 3 + 2, none⟩ = false := hfr253 2
       clear hcl253 hcc253 hfr253 hM253
       replace p253 := eq_true p253
       replace q253 := eq_true q253
       have HN0_go253 := Aside0.mk (show g ≠ go253 from by have h_ := IsS112.own_ne HI0.out HO_246000.out (by decide); intro e_; exact h_ (by rw [e_]; rfl))
       obtain ⟨ce262, hcl262, hM262, hcc262, hfr262⟩ := Kd.R_elem HO_246000.out z30 (t304 : Int) oa_ (by have h_ : (t304 : Int) < ((x246000_1.length : Int) : Int) := oa_; first | exact h_ | (have e_ := (Kd.R_reads' HO_246000.out).1; omega) | simpa using h_)
       obtain rfl := k30_openM hM262
       have HP262 := (Kd.R_seg HO_246000.out (t304 : Int) oa_ (by have h_ : (t304 : Int) < ((x246000_1.length : Int) : Int) := oa_; first | exact h_ | (have e_ := (Kd.R_reads' HO_246000.out).1; omega) | simpa using h_) (seg := [.int .i64 t317, .int .i64 t318]) (j := 0) hcl262 hcc262 (show 2 ≤ 3 from by decide) (x' := (⟨(⟨t317, t318⟩ : S28), (rd_T30 x246000_1 t304).f1⟩ : S30)) (k30_mkM _ _ _ (⟨(⟨t317, t318⟩ : S28), (rd_T30 x246000_1 t304).f1⟩ : S30) ) (fun _ hk => hk)).1
       rw [← Ny321.out] at HP262
       have HQ262 := Aside0.mk HP262
       clear hcl262 hcc262 hfr262 hM262 HP262
       refine hK.out _ _ ((blk_cell BK245.out 0).trans rfl) (fun hHeld => ?_)
       clear hK K
       refine nz_ 93 ?_
       refine pz_ 5 94 ba9_41 HT_ ?_
       refine pz_ 6 95 ba9_42 HT_ ?_
       refine last_ (i := 7) (N := none) ba9_43 rfl rfl (one_of HT_.out (by kernel_rfl)) (by decide) (fun K hK => ?_)
       refine skip_ (w1 := ?_) (by rfl) rfl ?_ ?_
       rotate_left; · go_simp; rfl
       refine hK.out _ _ ?_
       clear hK K
       refine done_ (done_of HT_.out (by kernel_rfl)) ?_
       have n0_ : Aside0 (Kd.R k30 30 ((w261.setCell ⟨go253, (t304 : Int).toNat * 3, none⟩ (.int .i64 t317)).setCell ⟨go253, (t304 : Int).toNat * 3 + 1, none⟩ (.int .i64 t318)) w.heap.size (fun _ => True) (.slice (some ⟨go253, 0, none⟩) x246000_1.length co257) y321) := ⟨by (with_reducible repeat (first | apply Kd.R_alloc | apply Kd.R_drewN | apply Kd.R_drew)); exact HQ262.out⟩
       have n1_ : Aside0 (((w261.setCell ⟨go253, (t304 : Int).toNat * 3, none⟩ (.int .i64 t317)).setCell ⟨go253, (t304 : Int).toNat * 3 + 1, none⟩ (.int .i64 t318)).heap[gb244]? = some (.cells #[.slice none 0 0] 26 (0, 0))) := ⟨by refine bd_ ?_; refine blk_far ?_ (by have h_ := Kd.R_ne HO_246000.out BK244.out (by decide); intro e_; exact h_ (by rw [e_]; rfl)) _; refine bd_ ?_; refine blk_far ?_ (by have h_ := Kd.R_ne HO_246000.out BK244.out (by decide); intro e_; exact h_ (by rw [e_]; rfl)) _; refine bd_ ?_; exact BK244.out⟩
       have n2_ : Aside0 (((w261.setCell ⟨go253, (t304 : Int).toNat * 3, none⟩ (.int .i64 t317)).setCell ⟨go253, (t304 : Int).toNat * 3 + 1, none⟩ (.int .i64 t318)).heap[gb245]? = some (.cells #[.slice (some ⟨go253, 0, none⟩) x246000_1.length co257] 26 (0, 0))) := ⟨by refine bd_ ?_; refine blk_far ?_ (by have h_ := Kd.R_ne HO_246000.out BK245.out (by decide); intro e_; exact h_ (by rw [e_]; rfl)) _; refine bd_ ?_; refine blk_far ?_ (by have h_ := Kd.R_ne HO_246000.out BK245.out (by decide); intro e_; exact h_ (by rw [e_]; rfl)) _; refine bd_ ?_; exact BK245.out⟩
       have n3_ : Aside0 (IsS112 w0 ((w261.setCell ⟨go253, (t304 : Int).toNat * 3, none⟩ (.int .i64 t317)).setCell ⟨go253, (t304 : Int).toNat * 3 + 1, none⟩ (.int .i64 t318)) g s0_0 t319 t320) := ⟨by repeat (first | (with_reducible first | exact HI0.out | apply IsS112.alloc | apply IsS112.drewN | apply IsS112.drew | apply IsS112.set_1 | apply IsS112.set_2 | refine IsS112.far ?_ HN0_go253.out _ | refine IsS112.far ?_ HN0_go253.out _ | refine IsS112.far ?_ NB0_244.out _ | refine IsS112.far ?_ NB0_245.out _) | exact HI0.out)⟩
       have n4_ : Aside0 (KeepBut w ((w261.setCell ⟨go253, (t304 : Int).toNat * 3, none⟩ (.int .i64 t317)).setCell ⟨go253, (t304 : Int).toNat * 3 + 1, none⟩ (.int .i64 t318)) g none) := ⟨by repeat (first | (with_reducible first | exact HK.out | apply KeepBut.set_ | apply keep_drewN | apply keep_drew | apply keep_alloc | refine keep_far ?_ GB253.out _ | refine keep_far ?_ GB253.out _ | refine keep_far ?_ GW244.out _ | refine keep_far ?_ GW245.out _) | exact HK.out)⟩
       have n5_ : Aside0 (Below w0.heap.size w0 ((w261.setCell ⟨go253, (t304 : Int).toNat * 3, none⟩ (.int .i64 t317)).setCell ⟨go253, (t304 : Int).toNat * 3 + 1, none⟩ (.int .i64 t318))) := ⟨by repeat (first | (with_reducible first | exact HB.out | apply below_alloc | apply pw_below_drewN | apply below_drew1 | refine below_set ?_ (Nat.le_trans HL.out GB253.out) | refine below_set ?_ (Nat.le_trans HL.out GB253.out) | refine below_set ?_ (IsS112.ge HI0.out) | refine below_set ?_ GE244.out | refine below_set ?_ GE245.out) | exact HB.out)⟩
       (try clear HO_246000)
       (try clear BK244)
       (try clear BK245)
       (try clear HI0)
       (try clear HK)
       (try clear HB)
       generalize ((w261.setCell ⟨go253, (t304 : Int).toNat * 3, none⟩ (.int .i64 t317)).setCell ⟨go253, (t304 : Int).toNat * 3 + 1, none⟩ (.int .i64 t318)) = w263 at n0_ n1_ n2_ n3_ n4_ n5_ ⊢
       have HO_246000 := n0_
       have BK244 := n1_
       have BK245 := n2_
       have HI0 := n3_
       have HK := n4_
       have HB := n5_
       clear n0_ n1_ n2_ n3_ n4_ n5_
       have hcz264_0 := cz_ BK245 0 (.slice (some ⟨go253, 0, none⟩) x246000_1.length co257)
       have hfz264_0 := fz_ BK245 0
       have hnb265 := NB244_0.out
       have hnc265 := NB0_244.out
       have hcz266_0 := cz_ BK244 0 (.slice none 0 0)
       have hfz266_0 := fz_ BK244 0
       try go_wp2
       refine bodyPost_ret (results_cell_row rfl _ _ gb244 26 #[.slice (some ⟨go253, 0, none⟩) x246000_1.length co257] (0, 0) _ rfl (by refine bd_ ?_; refine blk_put (cs := #[.slice none 0 0]) ?_ 0 _ rfl; refine bd_ ?_; exact BK244.out) Try.underlying26 rfl (by kernel_rfl)) rfl ?_
       exact ⟨_, by first | rfl | (simp [errW_none, errW_some] <;> rfl) | (simp [*, errW_none, errW_some] <;> rfl), by (with_reducible repeat (first | apply Kd.R_alloc | apply Kd.R_drewN | apply Kd.R_drew)); exact Kd.R_mono (Kd.R_far (p := ⟨gb244, 0, none⟩) (Kd.R_types HO_246000.out BK244.out (by decide)) (fun _ hk => hk.2) (.slice (some ⟨go253, 0, none⟩) x246000_1.length co257)) (fun _ hk => trivial), is112_, bw112_, kx_ HK⟩
      rw [if_neg c249] at H
      have c249b0 : (t307 == 1) = false := beq_eq_false_iff_ne.mpr c249
      have c249b1 : (t307 != 1) = true := bne_iff_ne.mpr c249
      by_cases c267 : t307 = 2
      rotate_left
      ·rw [if_neg c267] at H
       have c267b0 : (t307 == 2) = false := beq_eq_false_iff_ne.mpr c267
       have c267b1 : (t307 != 2) = true := bne_iff_ne.mpr c267
       simp only [Option.some.injEq, Prod.mk.injEq] at H
       obtain ⟨rfl, rfl, rfl⟩ := H
       have hnb283 := NB245_244.out
       have hnc283 := NB244_245.out
       have hnb284 := NB245_0.out
       have hnc284 := NB0_245.out
       have hcz285_0 := cz_ BK245 0 (u246000)
       have hfz285_0 := fz_ BK245 0
       obtain ⟨Ao286, co286, eo286⟩ := Kd.R_slice HO_246000.out
       subst eo286
       go_wp2_with (first | ((with_reducible refine gate_callee (f := 44) rfl ?_); refine gl_ (some 74) Try.func44 #[.pointer (some ⟨g, 0, none⟩), .int .i64 (x246000_1.length : Int)] ?_; (with_reducible refine (spec_l01Below.calls g s0_0 x1001_215 x1002_215 (x246000_1.length : Int) t304 t305 t306 w0 _ ?side1 ?side2 A226.out).mono ?_); (case side1 => exact is112_); (case side2 => exact bw112_); rintro e w287 ⟨rfl, hi, hb, hk⟩; refine ⟨_, rfl, ?_⟩; replace HO_246000 := ak112_ HO_246000 (show IsS112 w0 _ g s0_0 x1001_215 x1002_215 from is112_) hk; replace BK244 := kb_ BK244 NB244_0 hk; replace BK245 := kb_ BK245 NB245_0 hk; replace HK := kt_ HK hk; replace HB := Aside0.mk (hb); replace HI0 := Aside0.mk (hi); (try clear hb); (try clear hb2); (try clear hk); (try clear hi)) | ((with_reducible refine gate_callee (f := 44) rfl ?_); refine gl_ (some 76) Try.func44 #[.pointer (some ⟨g, 0, none⟩), .int .i64 3] ?_; (with_reducible refine (spec_l01Below.calls g s0_0 t305 t306 3 t307 t308 t309 w0 _ ?side1 ?side2 A227.out).mono ?_); (case side1 => exact is112_); (case side2 => exact bw112_); rintro e w288 ⟨rfl, hi, hb, hk⟩; refine ⟨_, rfl, ?_⟩; replace HO_246000 := ak112_ HO_246000 (show IsS112 w0 _ g s0_0 t305 t306 from is112_) hk; replace BK244 := kb_ BK244 NB244_0 hk; replace BK245 := kb_ BK245 NB245_0 hk; replace HK := kt_ HK hk; replace HB := Aside0.mk (hb); replace HI0 := Aside0.mk (hi); (try clear hb); (try clear hb2); (try clear hk); (try clear hi); have hcz289_0 := cz_ BK245 0 (.slice Ao286 x246000_1.length co286); have hfz289_0 := fz_ BK245 0; have hnb290 := NB244_0.out; have hnc290 := NB0_244.out; have hcz291_0 := cz_ BK244 0 (.slice none 0 0); have hfz291_0 := fz_ BK244 0))
       refine bodyPost_ret (results_cell_row rfl _ _ gb244 26 #[.slice Ao286 x246000_1.length co286] (0, 0) _ rfl (by refine bd_ ?_; refine blk_put (cs := #[.slice none 0 0]) ?_ 0 _ rfl; refine bd_ ?_; exact BK244.out) Try.underlying26 rfl (by kernel_rfl)) rfl ?_
       exact ⟨_, by first | rfl | (simp [errW_none, errW_some] <;> rfl) | (simp [*, errW_none, errW_some] <;> rfl), by (with_reducible repeat (first | apply Kd.R_alloc | apply Kd.R_drewN | apply Kd.R_drew)); exact Kd.R_mono (Kd.R_far (p := ⟨gb244, 0, none⟩) (Kd.R_types HO_246000.out BK244.out (by decide)) (fun _ hk => hk.2) (.slice Ao286 x246000_1.length co286)) (fun _ hk => trivial), is112_, bw112_, kx_ HK⟩
      rw [if_pos c267] at H
      have c267b0 : (t307 == 2) = true := beq_iff_eq.mpr c267
      have c267b1 : (t307 != 2) = false := bne_eq_false_iff_eq.mpr c267
      clear c267
      by_cases c268 : 0 < (x246000_1.length : Int)
      rotate_left
      ·rw [if_neg c268] at H
       exact absurd H (by simp)
      rw [if_pos c268] at H
      have c268b0 : decide (0 < (x246000_1.length : Int)) = true := decide_eq_true c268
      have c268b1 : decide (0 < x246000_1.length) = true := decide_eq_true (by omega)
      clear c268
      by_cases c269 : x246000_1.length < 5864062014805
      rotate_left
      ·rw [if_neg c269] at H
       exact absurd H (by simp)
      rw [if_pos c269] at H
      have LMc269 := Aside0.mk c269
      clear c269
      obtain ⟨y323, hy323⟩ : ∃ y_ : List (S30), y_ = (x246000_1 ++ [(⟨(⟨(rd_T30 x246000_1 0).f0.f0, (rd_T30 x246000_1 0).f0.f1⟩ : S28), (rd_T30 x246000_1 0).f1⟩ : S30)]) := ⟨_, rfl⟩
      replace H : (some (y323, t308, t309)) = some (r1, r2, r3) := by first | (rw [hy323]; with_reducible exact H) | (have H2_ := (Option.bind_some _ _).symm.trans H; rw [hy323]; with_reducible exact H2_) | (have H2_ := (Option.bind_some _ _).symm.trans H; with_reducible exact H2_) | with_reducible exact H | (rw [hy323]; exact H) | exact H
      have Ny323 := Aside0.mk hy323
      clear hy323
      simp only [Option.some.injEq, Prod.mk.injEq] at H
      obtain ⟨rfl, rfl, rfl⟩ := H
      have hnb270 := NB245_244.out
      have hnc270 := NB244_245.out
      have hnb271 := NB245_0.out
      have hnc271 := NB0_245.out
      have hcz272_0 := cz_ BK245 0 (u246000)
      have hfz272_0 := fz_ BK245 0
      obtain ⟨Ao273, co273, eo273⟩ := Kd.R_slice HO_246000.out
      subst eo273
      try go_wp2_with (first | ((with_reducible refine gate_callee (f := 44) rfl ?_); refine gl_ (some 74) Try.func44 #[.pointer (some ⟨g, 0, none⟩), .int .i64 (x246000_1.length : Int)] ?_; (with_reducible refine (spec_l01Below.calls g s0_0 x1001_215 x1002_215 (x246000_1.length : Int) t304 t305 t306 w0 _ ?side1 ?side2 A226.out).mono ?_); (case side1 => exact is112_); (case side2 => exact bw112_); rintro e w274 ⟨rfl, hi, hb, hk⟩; refine ⟨_, rfl, ?_⟩; replace HO_246000 := ak112_ HO_246000 (show IsS112 w0 _ g s0_0 x1001_215 x1002_215 from is112_) hk; replace BK244 := kb_ BK244 NB244_0 hk; replace BK245 := kb_ BK245 NB245_0 hk; replace HK := kt_ HK hk; replace HB := Aside0.mk (hb); replace HI0 := Aside0.mk (hi); (try clear hb); (try clear hb2); (try clear hk); (try clear hi)) | ((with_reducible refine gate_callee (f := 44) rfl ?_); refine gl_ (some 76) Try.func44 #[.pointer (some ⟨g, 0, none⟩), .int .i64 3] ?_; (with_reducible refine (spec_l01Below.calls g s0_0 t305 t306 3 t307 t308 t309 w0 _ ?side1 ?side2 A227.out).mono ?_); (case side1 => exact is112_); (case side2 => exact bw112_); rintro e w275 ⟨rfl, hi, hb, hk⟩; refine ⟨_, rfl, ?_⟩; replace HO_246000 := ak112_ HO_246000 (show IsS112 w0 _ g s0_0 t305 t306 from is112_) hk; replace BK244 := kb_ BK244 NB244_0 hk; replace BK245 := kb_ BK245 NB245_0 hk; replace HK := kt_ HK hk; replace HB := Aside0.mk (hb); replace HI0 := Aside0.mk (hi); (try clear hb); (try clear hb2); (try clear hk); (try clear hi)))
      replace HO_246000 := Aside0.mk (Kd.R_drew HO_246000.out)
      replace BK244 := ad_ BK244
      replace BK245 := ad_ BK245
      replace HI0 := Aside0.mk (IsS112.drew HI0.out)
      replace HK := Aside0.mk (keep_drew HK.out)
      replace HB := Aside0.mk (below_drew1 HB.out)
      have p322 : 0 ≤ (0 : Int) := (by omega)
      have q322 : 0 < (x246000_1.length : Int) := oa_
      obtain ⟨ad322, e322, hx322_0, hx322_1, hx322_2⟩ := at_T30 (Kd.R_reads' HO_246000.out).2.2 0 p322 q322
      cases e322
      have qi322 : (0 < x246000_1.length) = True := eq_true (by omega)
      (try rw [show ((0 : Int)).toNat = 0 from rfl] at hx322_0)
      (try rw [show 0 * 3 = 0 from rfl] at hx322_0)
      (try rw [Addr.add_zero'] at hx322_0)
      (try rw [show ((0 : Int)).toNat = 0 from rfl] at hx322_1)
      (try rw [show 0 * 3 = 0 from rfl] at hx322_1)
      (try rw [Addr.add_zero'] at hx322_1)
      (try rw [show ((0 : Int)).toNat = 0 from rfl] at hx322_2)
      (try rw [show 0 * 3 = 0 from rfl] at hx322_2)
      (try rw [Addr.add_zero'] at hx322_2)
      replace p322 := eq_true p322
      replace q322 := eq_true q322
      refine start_ (n := 10) (S := fun w' => w'.cell? ⟨gb245, 0, none⟩ = some (.slice (some ad322) x246000_1.length co273) ∧ w'.cell? ad322 = some (.int .i64 ((rd_T30 x246000_1 0).f0.f0)) ∧ w'.cell? ⟨ad322.block, ad322.off + 1, none⟩ = some (.int .i64 ((rd_T30 x246000_1 0).f0.f1)) ∧ w'.cell? ⟨ad322.block, ad322.off + 2, none⟩ = some (.int .i64 ((rd_T30 x246000_1 0).f1))) (ds := [7, 9]) ba9_44 (by kernel_rfl) rfl rfl ⟨(blk_cell BK245.out 0).trans rfl, hx322_0, hx322_1, hx322_2⟩ (fun hHeld => ?_); refine with_tabW spec_l02DrawTable.tab23 spec_l02DrawTable.bits23 (fun HT_ HW_ => ?_)
      generalize w275.drew = w276 at HO_246000 BK244 BK245 HI0 HK HB hx322_0 hx322_1 hx322_2 hHeld ⊢
      refine pz_ 0 98 ba9_45 HT_ ?_
      refine pz_ 2 100 ba9_46 HT_ ?_
      refine pt_ 1 99 ba9_47 HT_ HW_ hHeld ?_
      refine pt_ 3 101 ba9_48 HT_ HW_ hHeld ?_
      refine pz_ 4 102 ba9_49 HT_ ?_
      refine pt_ 5 103 ba9_50 HT_ HW_ hHeld ?_
      refine one_ (i := 6) (N := some 104) ba9_51 rfl rfl (one_of HT_.out (by kernel_rfl)) (by decide) (fun K hK => ?_)
      refine value_ (w1 := ?_) (v := ?_) (by rfl) rfl ?_ ?_
      rotate_left 2
      ·go_simp
       constructor
       ·rfl
       ·rfl
      refine hK.out _ _ ⟨(blk_cell (blk_alloc BK245.out _) 0).trans rfl, (World.cell?_alloc_lt _ _ _ (World.block_lt_of_cell? _ _ (hHeld.2.1))).trans (hHeld.2.1), (World.cell?_alloc_lt _ _ _ (World.block_lt_of_cell? _ _ (hHeld.2.2.1))).trans (hHeld.2.2.1), (World.cell?_alloc_lt _ _ _ (World.block_lt_of_cell? _ _ (hHeld.2.2.2))).trans (hHeld.2.2.2)⟩ (fun hHeld => ?_)
      clear hK K
      refine nz_ 104 ?_
      refine last_ (i := 7) (N := some 105) ba9_52 rfl rfl (one_of HT_.out (by kernel_rfl)) (by decide) (fun K hK => ?_)
      refine Kd.R_append_step k30 w.heap.size (by rfl) (.tmp 99) (.tmp 104) 24 30 (.agg #[(.int .i64 0), (.int .i64 0), (.int .i64 0)]) 24 rfl Try.underlying24 info30 rfl (by decide) (by omega) (.slice (some ad322) x246000_1.length co273) x246000_1 (⟨(⟨(rd_T30 x246000_1 0).f0.f0, (rd_T30 x246000_1 0).f0.f1⟩ : S28), (rd_T30 x246000_1 0).f1⟩ : S30) [.int .i64 ((rd_T30 x246000_1 0).f0.f0), .int .i64 ((rd_T30 x246000_1 0).f0.f1), .int .i64 ((rd_T30 x246000_1 0).f1)] (fun _ => True) (fun _ => False) rfl rfl ?aP (fun _ hk => hk.elim) ?aF ?aO (Below.refl _ _) ?aS ?aL ?_
      (case aP => exact k30_mkM _ _ _ (⟨(⟨(rd_T30 x246000_1 0).f0.f0, (rd_T30 x246000_1 0).f0.f1⟩ : S28), (rd_T30 x246000_1 0).f1⟩ : S30))
      (case aF => exact (fun _ _ => trivial))
      (case aO => exact (hd_ HO_246000))
      (case aS => exact (keep_size (w := w) (g := g) (row := none) (kx_ HK)))
      (case aL => have := LMc269.out; omega)
      intro v324 w277 ho hb hg hat
      rw [← Ny323.out] at ho
      have HO325 := Aside0.mk ho
      replace BK244 := Aside0.mk (blk_grown (g := gb244) (o := .cells #[.slice none 0 0] 26 (0, 0)) (bx_ BK244) hg (Kd.R_ne HO_246000.out BK244.out (by decide)))
      replace BK245 := Aside0.mk (blk_grown (g := gb245) (o := .cells #[.slice (some ad322) x246000_1.length co273] 26 (0, 0)) (bx_ BK245) hg (Kd.R_ne HO_246000.out BK245.out (by decide)))
      replace HB := Aside0.mk (below_weaken (bw112_) HL.out hb)
      replace HI0 := Aside0.mk (IsS112.grown (is112_) hg (IsS112.own_ne HI0.out HO_246000.out (by decide)))
      replace HK := Aside0.mk (KeepBut.trans (kx_ HK) (KeepBut.of_grown hg g) (Kd.R_base2 HO_246000.out))
      clear HO_246000
      clear ho hb hg hat
      obtain ⟨Ao278, co278, eo278⟩ := Kd.R_slice HO325.out
      (first | subst eo278 | (injection eo278 with f1_ f2_ f3_; have f4_ := f1_.symm; have f5_ := f3_.symm; clear f1_ f2_ f3_; subst f4_; subst f5_))
      refine hK.out _ _ ?_
      clear hK K
      refine nz_ 105 ?_
      refine pz_ 8 106 ba9_53 HT_ ?_
      refine last_ (i := 9) (N := none) ba9_54 rfl rfl (one_of HT_.out (by kernel_rfl)) (by decide) (fun K hK => ?_)
      have hs279 : w277.cell? ⟨gb245, 0, none⟩ = some (.slice (some ad322) x246000_1.length co273) := (blk_cell BK245.out 0).trans rfl
      have hfs279 := fz_ BK245 0
      have hns279_0 := NB244_245.out
      have hms279_0 := NB245_244.out
      refine skip_ (w1 := ?_) (by rfl) rfl ?_ ?_
      rotate_left; · go_simp; rfl
      refine hK.out _ _ ?_
      clear hK K
      refine done_ (done_of HT_.out (by kernel_rfl)) ?_
      have hcz280_0 := cz_ BK245 0 (.slice (some ad322) x246000_1.length co273)
      have hfz280_0 := fz_ BK245 0
      have hnb281 := NB244_0.out
      have hnc281 := NB0_244.out
      have hcz282_0 := cz_ BK244 0 (.slice none 0 0)
      have hfz282_0 := fz_ BK244 0
      try go_wp2
      refine bodyPost_ret (results_cell_row rfl _ _ gb244 26 #[.slice Ao278 y323.length co278] (0, 0) _ rfl (by refine bd_ ?_; refine blk_put (cs := #[.slice none 0 0]) ?_ 0 _ rfl; refine bd_ ?_; refine blk_far ?_ NB244_245.out _; refine bd_ ?_; exact BK244.out) Try.underlying26 rfl (by kernel_rfl)) rfl ?_
      exact ⟨_, by first | rfl | (simp [errW_none, errW_some] <;> rfl) | (simp [*, errW_none, errW_some] <;> rfl), by (with_reducible repeat (first | apply Kd.R_alloc | apply Kd.R_drewN | apply Kd.R_drew)); exact Kd.R_mono (Kd.R_far (p := ⟨gb244, 0, none⟩) (Kd.R_far (p := ⟨gb245, 0, none⟩) (Kd.R_types (Kd.R_types HO325.out BK245.out (by decide)) BK244.out (by decide)) (fun _ hk => hk.1.2) (.slice Ao278 y323.length co278)) (fun _ hk => hk.2) (.slice Ao278 y323.length co278)) (fun _ hk => trivial), is112_, bw112_, kx_ HK⟩
   rw [if_pos c8] at H
   have c8b0 : decide (x6_1 < a1) = true := decide_eq_true c8
   clear c8
   replace H := Option.bind_eq_some_iff.mp H
   obtain ⟨⟨t246, t247, t248, t249⟩, A90, H⟩ := H
   have A9 := Aside0.mk A90
   clear A90
   have HC10 := Aside0.mk H
   clear H
   go_upto_region 6 with (first | ((with_reducible refine gate_callee (f := 86) rfl ?_); refine gl_ (some 22) Try.func86 #[.pointer (some ⟨g, 0, none⟩)] ?_; (with_reducible refine (spec_l01DrawPrefix.calls g s0_0 x1001_1 x1002_1 t246 t247 t248 t249 w0 _ ?side1 ?side2 A9.out).mono ?_); (case side1 => exact is112_); (case side2 => exact bw112_); rintro e w11 ⟨rfl, hi, hb, hk⟩; refine ⟨_, rfl, ?_⟩; replace HO_246000 := ak112_ HO_246000 (show IsS112 w0 _ g s0_0 x1001_1 x1002_1 from is112_) hk; replace BK244 := kb_ BK244 NB244_0 hk; replace BK245 := kb_ BK245 NB245_0 hk; replace HK := kt_ HK hk; replace HB := Aside0.mk (hb); replace HI0 := Aside0.mk (hi); (try clear hb); (try clear hb2); (try clear hk); (try clear hi)) | ((with_reducible refine gate_dst (N := 7) rfl ?_); refine box_event ?hg (N := 7) ?hd (cs := #[.int .i64 0, .int .i64 0]) (t := 28) ?hr ?_; (case hd => rfl); (case hg => rfl); (case hr => first | (go_simp; done) | (go_simp; rfl)); intro gb250 hg w12 hbox hb; have BK250 := Aside0.mk hbox; have GW250 := gw_ HK hg; have GE250 := gv_ HW0 HK hg; have NB244_250 := nl_ BK244 hg; have NB250_244 := ng_ BK244 hg; have NB245_250 := nl_ BK245 hg; have NB250_245 := ng_ BK245 hg; have NB0_250 := Aside0.mk ((by rw [hg]; exact Nat.ne_of_lt (IsS112.lt (show IsS112 w0 _ g s0_0 t248 t249 from is112_)) : g ≠ gb250)); have NB250_0 := Aside0.mk ((by rw [hg]; exact Nat.ne_of_gt (IsS112.lt (show IsS112 w0 _ g s0_0 t248 t249 from is112_)) : gb250 ≠ g)); replace HO_246000 := rb_ HO_246000 hb; replace HB := bs112_ hb; replace HK := kt_ HK (KeepBut.of_below hb g none); replace BK244 := ab_ BK244 hb; replace BK245 := ab_ BK245 hb; replace HI0 := Aside0.mk (IsS112.below is112_ hb); clear hb hbox hg; have hnb13 := NB250_244.out; have hnc13 := NB244_250.out; have hnb14 := NB250_245.out; have hnc14 := NB245_250.out; have hnb15 := NB250_0.out; have hnc15 := NB0_250.out; have hcz16_0 := cz_ BK250 0 (.int .i64 0); have hcz16_1 := cz_ BK250 1 (.int .i64 0); have hfz16_0 := fz_ BK250 0; have hfz16_1 := fz_ BK250 1))
   (try simp only [Act.put, List.setIfInBounds_toArray, List.set_cons_zero, List.set_cons_succ])
   go_cut [30] (fun v30 wc => ∃ (kq : Nat) (x30_9 : Bool) (x1001_9 : Int) (x1002_9 : Int), v30 = .bool x30_9 ∧ Aside0 (spec_l02DrawTable.j1 kq a1 x6_1 x30_9 s0_0 x1001_9 x1002_9 x246000_1 t246 t247 = some (r1, r2, r3)) ∧ Aside0 (kq ≤ k1) ∧ Aside0 (Kd.R k30 30 wc w.heap.size (fun _ => True) u246000 x246000_1) ∧ Aside0 (wc.heap[gb244]? = some (.cells #[(.slice none 0 0)] 26 (0, 0))) ∧ Aside0 (wc.heap[gb245]? = some (.cells #[u246000] 26 (0, 0))) ∧ Aside0 (wc.heap[gb250]? = some (.cells #[.int .i64 t246, .int .i64 t247] 28 (0, 0))) ∧ Aside0 (IsS112 w0 wc g s0_0 x1001_9 x1002_9) ∧ Aside0 (KeepBut w wc g none) ∧ Aside0 (Below w0.heap.size w0 wc))
   case first =>
    have H := HC10.out
    clear HC10
    by_cases c17 : (x246000_1.length : Int) > 0
    rotate_left
    ·rw [if_neg c17] at H
     have c17b0 : decide (0 < (x246000_1.length : Int)) = false := decide_eq_false c17
     have c17b1 : decide (0 < x246000_1.length) = false := decide_eq_false (by omega)
     clear c17
     (first | rw [c17b0] | (simp only [i64_w, i32_w]; rw [c17b0]) | skip)
     have H' := Aside0.mk H
     clear H
     have hnb25 := NB245_244.out
     have hnc25 := NB244_245.out
     have hnb26 := NB245_250.out
     have hnc26 := NB250_245.out
     have hnb27 := NB245_0.out
     have hnc27 := NB0_245.out
     have hcz28_0 := cz_ BK245 0 (u246000)
     have hfz28_0 := fz_ BK245 0
     obtain ⟨Ao29, co29, eo29⟩ := Kd.R_slice HO_246000.out
     subst eo29
     go_wp2
     go_meet
     case rel => exact ⟨_, (false), (t248), (t249), er_, H', ⟨by have := HK1.out; first | omega | exact Nat.le_refl _⟩, ⟨by (with_reducible repeat (first | apply Kd.R_alloc | apply Kd.R_drewN | apply Kd.R_drew)); exact Kd.R_mono (Kd.R_far (p := ⟨gb250, 1, none⟩) (Kd.R_far (p := ⟨gb250, 0, none⟩) (Kd.R_types HO_246000.out BK250.out (by decide)) (fun _ hk => hk.2) (.int .i64 t246)) (fun _ hk => hk.2) (.int .i64 t247)) (fun _ hk => trivial)⟩, ⟨bc_ BK244⟩, ⟨bc_ BK245⟩, ⟨by refine bd_ ?_; refine blk_put (cs := #[.int .i64 t246, .int .i64 0]) ?_ 1 _ rfl; refine bd_ ?_; refine blk_put (cs := #[.int .i64 0, .int .i64 0]) ?_ 0 _ rfl; refine bd_ ?_; exact BK250.out⟩, ⟨is112_⟩, ⟨kx_ HK⟩, ⟨bw112_⟩⟩
    rw [if_pos c17] at H
    have c17b0 : decide (0 < (x246000_1.length : Int)) = true := decide_eq_true c17
    have c17b1 : decide (0 < x246000_1.length) = true := decide_eq_true (by omega)
    clear c17
    (first | rw [c17b0] | (simp only [i64_w, i32_w]; rw [c17b0]) | skip)
    replace H := Option.bind_eq_some_iff.mp H
    obtain ⟨⟨t251, t252, t253⟩, A180, H⟩ := H
    have A18 := Aside0.mk A180
    clear A180
    have H' := Aside0.mk H
    clear H
    have hnb19 := NB245_244.out
    have hnc19 := NB244_245.out
    have hnb20 := NB245_250.out
    have hnc20 := NB250_245.out
    have hnb21 := NB245_0.out
    have hnc21 := NB0_245.out
    have hcz22_0 := cz_ BK245 0 (u246000)
    have hfz22_0 := fz_ BK245 0
    obtain ⟨Ao23, co23, eo23⟩ := Kd.R_slice HO_246000.out
    subst eo23
    go_wp2_with (first | (go_at_call 81; (with_reducible refine (spec_l01Once.calls g s0_0 t248 t249 2 t251 t252 t253 w0 _ ?side1 ?side2 A18.out).mono ?_); (case side1 => exact is112_); (case side2 => exact bw112_); rintro e w24 ⟨rfl, hi, hb, hk⟩; replace HO_246000 := Aside0.mk (Kd.R_mono (Kd.R_keep (IsS112.apart (show IsS112 w0 _ g s0_0 t248 t249 from is112_) (hs_ HO_246000 BK250) (by decide)) hk (fun _ h => h.2)) (fun _ h => h.1)); replace BK244 := kc_ BK244 NB244_0 hk; replace BK245 := kc_ BK245 NB245_0 hk; replace BK250 := Aside0.mk (KeepBut.blk hk (g' := gb250) (o := .cells #[.int .i64 t246, .int .i64 t247] 28 (0, 0)) (by refine bd_ ?_; refine blk_put (cs := #[.int .i64 t246, .int .i64 0]) ?_ 1 _ rfl; refine bd_ ?_; refine blk_put (cs := #[.int .i64 0, .int .i64 0]) ?_ 0 _ rfl; refine bd_ ?_; exact BK250.out) NB250_0.out (by simp)); replace HK := kt_ HK hk; replace HB := Aside0.mk (hb); replace HI0 := Aside0.mk (hi); (try clear hb); (try clear hb2); (try clear hk); (try clear hi)))
    go_meet
    case rel => exact ⟨_, (t251), (t252), (t253), er_, H', ⟨by have := HK1.out; first | omega | exact Nat.le_refl _⟩, ⟨hd_ HO_246000⟩, ⟨bx_ BK244⟩, ⟨bx_ BK245⟩, ⟨bx_ BK250⟩, ⟨is112_⟩, ⟨kx_ HK⟩, ⟨bw112_⟩⟩
   case rest =>
    clear HC10
    try clear c1
    try clear c2
    try clear p2
    try clear c5
    try clear c6
    try clear c8
    try clear c8b0
    try clear c13
    try clear c14
    try clear c15
    try clear c17
    try clear c17b0
    try clear c17b1
    try clear c19
    try clear c20
    try clear c21
    try clear c25
    try clear c26
    try clear c27
    try clear hcz16_0
    try clear hcz16_1
    try clear hcz22_0
    try clear hcz28_0
    try clear hcz7_0
    try clear hfz16_0
    try clear hfz16_1
    try clear hfz22_0
    try clear hfz28_0
    try clear hfz7_0
    try clear p2
    obtain ⟨kq, x30_9, x1001_9, x1002_9, rfl, HA, HJ9, HO_246000, BK244, BK245, BK250, HI0, HK, HB⟩ := hcut
    cases kq with
    | zero => exact absurd HA.out (by simp [spec_l02DrawTable.j1])
    | succ kj9 =>
     have H := HA.out
     clear HA
     simp only [spec_l02DrawTable.j1] at H
     by_cases c30 : x30_9 = true
     rotate_left
     ·replace c30 := Bool.eq_false_iff.mpr c30
      subst c30
      rw [if_neg (show ¬ (false = true) by decide)] at H
      replace H := Option.bind_eq_some_iff.mp H
      obtain ⟨⟨t293, t294, t295⟩, A1970, H⟩ := H
      have A197 := Aside0.mk A1970
      clear A1970
      replace H := Option.bind_eq_some_iff.mp H
      obtain ⟨⟨t296, t299⟩, A1980, H⟩ := H
      have A198 := Aside0.mk A1980
      clear A1980
      have H' := Aside0.mk H
      clear H
      obtain ⟨Ao199, co199, eo199⟩ := Kd.R_slice HO_246000.out
      subst eo199
      try go_wp2
      replace HO_246000 := Aside0.mk (Kd.R_drew HO_246000.out)
      replace BK244 := ad_ BK244
      replace BK245 := ad_ BK245
      replace BK250 := ad_ BK250
      replace HI0 := Aside0.mk (IsS112.drew HI0.out)
      replace HK := Aside0.mk (keep_drew HK.out)
      replace HB := Aside0.mk (below_drew1 HB.out)
      refine start_ (n := 12) (S := fun w' => w'.cell? ⟨gb245, 0, none⟩ = some (.slice Ao199 x246000_1.length co199) ∧ w'.cell? ⟨gb250, 0, none⟩ = some (.int .i64 t246) ∧ w'.cell? ⟨gb250, 1, none⟩ = some (.int .i64 t247)) (ds := []) ba9_0 (by kernel_rfl) rfl rfl ⟨(blk_cell BK245.out 0).trans rfl, (blk_cell BK250.out 0).trans rfl, (blk_cell BK250.out 1).trans rfl⟩ (fun hHeld => ?_); refine with_tabW spec_l02DrawTable.tab13 spec_l02DrawTable.bits13 (fun HT_ HW_ => ?_)
      generalize wc.drew = w200 at HO_246000 BK244 BK245 BK250 HI0 HK HB hHeld ⊢
      refine pz_ 2 55 ba9_17 HT_ ?_
      refine pt_ 0 53 ba9_2 HT_ HW_ hHeld ?_
      refine pt_ 1 54 ba9_18 HT_ HW_ hHeld ?_
      refine join_ (σ := Value × Nat) 2 ba9_12 (fun s_ => [(56, .int .i64 t293), (58, .tuple #[.agg #[s_.1], .bool t299]), (12, .pointer (some ⟨s_.2, 0, none⟩)), (57, .agg #[.int .i64 t246, .int .i64 t247, .int .i64 t293]), (52, .tuple #[.agg #[s_.1], .bool t299]), (59, .agg #[s_.1]), (60, .bool t299)]) (fun s_ w' => (w'.cell? ⟨gb245, 0, none⟩ = some (.slice Ao199 x246000_1.length co199) ∧ w'.cell? ⟨gb250, 0, none⟩ = some (.int .i64 t246) ∧ w'.cell? ⟨gb250, 1, none⟩ = some (.int .i64 t247)) ∧ (Kd.R k30 30 w' w.heap.size (fun k_ => some k_ ≠ (.slice Ao199 x246000_1.length co199 : Value).ownBlock) s_.1 t296) ∧ (Kd.R k30 30 w' w.heap.size (fun k_ => some k_ ≠ (s_.1 : Value).ownBlock) (.slice Ao199 x246000_1.length co199) x246000_1) ∧ (w'.heap[gb244]? = some (.cells #[.slice none 0 0] 26 (0, 0))) ∧ (w'.heap[gb245]? = some (.cells #[.slice Ao199 x246000_1.length co199] 26 (0, 0))) ∧ (w'.heap[gb250]? = some (.cells #[.int .i64 t246, .int .i64 t247] 28 (0, 0))) ∧ (w'.heap[s_.2]? = some (.cells #[.slice none 0 0] 26 (0, 0))) ∧ (w.heap.size ≤ s_.2) ∧ (w0.heap.size ≤ s_.2) ∧ (g ≠ s_.2) ∧ (s_.2 ≠ g) ∧ (gb244 ≠ s_.2) ∧ (s_.2 ≠ gb244) ∧ (gb245 ≠ s_.2) ∧ (s_.2 ≠ gb245) ∧ (gb250 ≠ s_.2) ∧ (s_.2 ≠ gb250) ∧ (IsS112 w0 w' g s0_0 t294 t295) ∧ (KeepBut w w' g none) ∧ (Below w0.heap.size w0 w')) ?_ ?_
      rotate_left
      ·intro hCont
       refine two_ (i := 3) (j := 9) (Ni := some 56) (Nj := some 12) ba9_4 ba9_19 rfl rfl rfl rfl (two_of HT_.out (by kernel_rfl)) (by decide) (by decide) (fun K hK => ?_) (fun K hK => ?_)
       ·skip
        refine gz_ Try.func44 #[.pointer (some ⟨g, 0, none⟩), .int .i64 4] ?_
        with_reducible refine (spec_l01Below.calls g s0_0 x1001_9 x1002_9 4 t293 t294 t295 w0 _ ?side1 ?side2 A197.out).mono ?_
        (case side1 => exact is112_)
        (case side2 => exact bw112_)
        rintro e w201 ⟨rfl, hi, hb, hk⟩
        refine ⟨_, rfl, ?_⟩
        replace HO_246000 := ak112_ HO_246000 (show IsS112 w0 _ g s0_0 x1001_9 x1002_9 from is112_) hk
        replace BK244 := kb_ BK244 NB244_0 hk
        replace BK245 := kb_ BK245 NB245_0 hk
        replace BK250 := kb_ BK250 NB250_0 hk
        replace HK := kt_ HK hk
        replace HB := Aside0.mk (hb)
        replace HI0 := Aside0.mk (hi)
        (try clear hb)
        (try clear hb2)
        (try clear hk)
        (try clear hi)
        refine hK.out _ _ ⟨(blk_cell BK245.out 0).trans rfl, (blk_cell BK250.out 0).trans rfl, (blk_cell BK250.out 1).trans rfl⟩ (fun hHeld => ?_)
        clear hK K
        refine nz_ 56 ?_
        refine pz_ 4 57 ba9_5 HT_ ?_
        refine two_ (i := 5) (j := 9) (Ni := some 58) (Nj := some 12) ba9_6 ba9_20 rfl rfl rfl rfl (two_of HT_.out (by kernel_rfl)) (by decide) (by decide) (fun K hK => ?_) (fun K hK => ?_)
        ·skip
         refine gz_ Try.func10 #[.agg #[.slice Ao199 x246000_1.length co199], .agg #[.int .i64 t246, .int .i64 t247, .int .i64 t293]] ?_
         with_reducible refine (spec_PutRoute.calls kj9 _ _ x246000_1 t246 t247 t293 t296 t299 _ ?side1 ?side2 A198.out).mono ?_
         (case side1 => exact rc_ HO_246000)
         (case side2 => exact (Kd.R_reads' HO_246000.out).2.1)
         rintro e w202 ⟨v297, rfl, ho0, hb⟩
         refine ⟨_, rfl, ?_⟩
         have HO298 := Aside0.mk (Kd.R_lower (Kd.R_new' ho0 (Kd.R_lt (hd_ HO_246000))) (keep_size (w := w) (g := g) (row := none) (kx_ HK)))
         replace HO_246000 := Aside0.mk (Kd.R_elder' (hd_ HO_246000) (Kd.R_base ho0) hb)
         replace BK244 := ab_ BK244 hb
         replace BK245 := ab_ BK245 hb
         replace BK250 := ab_ BK250 hb
         replace HK := kt_ HK (KeepBut.of_below hb g none)
         replace HB := bs112_ hb
         replace HI0 := Aside0.mk (IsS112.below is112_ hb)
         (try clear hb)
         (try clear hb2)
         (try clear hk)
         (try clear hi)
         (try clear ho0)
         refine hK.out _ _ ⟨(blk_cell BK245.out 0).trans rfl, (blk_cell BK250.out 0).trans rfl, (blk_cell BK250.out 1).trans rfl⟩ (fun hHeld => ?_)
         clear hK K
         refine nz_ 58 ?_
         refine pz_ 6 52 ba9_8 HT_ ?_
         refine pz_ 7 59 ba9_10 HT_ ?_
         refine pz_ 8 60 ba9_11 HT_ ?_
         refine one_ (i := 9) (N := some 12) ba9_12 rfl rfl (one_of HT_.out (by kernel_rfl)) (by decide) (fun K hK => ?_)
         refine box_step ?hg (N := 12) ?hd (cs := #[.slice none 0 0]) (t := 26) ?hr ?_; (case hd => rfl); (case hg => rfl); (case hr => first | (go_simp; done) | (go_simp; rfl))
         intro gb300 hg w203 hbox hb
         have BK300 := Aside0.mk hbox
         have GW300 := gw_ HK hg
         have GE300 := gv_ HW0 HK hg
         have NB244_300 := nl_ BK244 hg
         have NB300_244 := ng_ BK244 hg
         have NB245_300 := nl_ BK245 hg
         have NB300_245 := ng_ BK245 hg
         have NB250_300 := nl_ BK250 hg
         have NB300_250 := ng_ BK250 hg
         have NB0_300 := Aside0.mk ((by rw [hg]; exact Nat.ne_of_lt (IsS112.lt (show IsS112 w0 _ g s0_0 t294 t295 from is112_)) : g ≠ gb300))
         have NB300_0 := Aside0.mk ((by rw [hg]; exact Nat.ne_of_gt (IsS112.lt (show IsS112 w0 _ g s0_0 t294 t295 from is112_)) : gb300 ≠ g))
         replace HO_246000 := rb_ HO_246000 hb
         replace HO298 := rb_ HO298 hb
         replace HB := bs112_ hb
         replace HK := kt_ HK (KeepBut.of_below hb g none)
         replace BK244 := ab_ BK244 hb
         replace BK245 := ab_ BK245 hb
         replace BK250 := ab_ BK250 hb
         replace HI0 := Aside0.mk (IsS112.below is112_ hb)
         clear hb hbox hg
         refine hK.out _ _ ⟨(blk_cell BK245.out 0).trans rfl, (blk_cell BK250.out 0).trans rfl, (blk_cell BK250.out 1).trans rfl⟩ (fun hHeld => ?_)
         clear hK K
         refine nz_ 12 ?_
         exact norm_ (by simp only [putAll, Act.put, List.setIfInBounds_toArray, List.set_cons_zero, List.set_cons_succ]) (hCont (v297, gb300) _ ⟨hHeld, (by (with_reducible repeat (first | apply Kd.R_alloc | apply Kd.R_drewN | apply Kd.R_drew)); exact Kd.R_mono HO298.out (fun _ hk => hk.2)), (by (with_reducible repeat (first | apply Kd.R_alloc | apply Kd.R_drewN | apply Kd.R_drew)); exact Kd.R_mono HO_246000.out (fun _ hk => hk.2)), (bx_ BK244), (bx_ BK245), (bx_ BK250), (bx_ BK300), GW300.out, GE300.out, NB0_300.out, NB300_0.out, NB244_300.out, NB300_244.out, NB245_300.out, NB300_245.out, NB250_300.out, NB300_250.out, (is112_), (kx_ HK), (bw112_)⟩)
        ·skip
         refine box_step ?hg (N := 12) ?hd (cs := #[.slice none 0 0]) (t := 26) ?hr ?_; (case hd => rfl); (case hg => rfl); (case hr => first | (go_simp; done) | (go_simp; rfl))
         intro gb300 hg w202 hbox hb
         have BK300 := Aside0.mk hbox
         have GW300 := gw_ HK hg
         have GE300 := gv_ HW0 HK hg
         have NB244_300 := nl_ BK244 hg
         have NB300_244 := ng_ BK244 hg
         have NB245_300 := nl_ BK245 hg
         have NB300_245 := ng_ BK245 hg
         have NB250_300 := nl_ BK250 hg
         have NB300_250 := ng_ BK250 hg
         have NB0_300 := Aside0.mk ((by rw [hg]; exact Nat.ne_of_lt (IsS112.lt (show IsS112 w0 _ g s0_0 t294 t295 from is112_)) : g ≠ gb300))
         have NB300_0 := Aside0.mk ((by rw [hg]; exact Nat.ne_of_gt (IsS112.lt (show IsS112 w0 _ g s0_0 t294 t295 from is112_)) : gb300 ≠ g))
         replace HO_246000 := rb_ HO_246000 hb
         replace HB := bs112_ hb
         replace HK := kt_ HK (KeepBut.of_below hb g none)
         replace BK244 := ab_ BK244 hb
         replace BK245 := ab_ BK245 hb
         replace BK250 := ab_ BK250 hb
         replace HI0 := Aside0.mk (IsS112.below is112_ hb)
         clear hb hbox hg
         refine hK.out _ _ ⟨(blk_cell BK245.out 0).trans rfl, (blk_cell BK250.out 0).trans rfl, (blk_cell BK250.out 1).trans rfl⟩ (fun hHeld => ?_)
         clear hK K
         refine nz_ 12 ?_
         refine one_ (i := 5) (N := some 58) ba9_21 rfl rfl (one_of HT_.out (by kernel_rfl)) (by decide) (fun K hK => ?_)
         refine gz_ Try.func10 #[.agg #[.slice Ao199 x246000_1.length co199], .agg #[.int .i64 t246, .int .i64 t247, .int .i64 t293]] ?_
         with_reducible refine (spec_PutRoute.calls kj9 _ _ x246000_1 t246 t247 t293 t296 t299 _ ?side1 ?side2 A198.out).mono ?_
         (case side1 => exact rc_ HO_246000)
         (case side2 => exact (Kd.R_reads' HO_246000.out).2.1)
         rintro e w203 ⟨v297, rfl, ho0, hb⟩
         refine ⟨_, rfl, ?_⟩
         have HO298 := Aside0.mk (Kd.R_lower (Kd.R_new' ho0 (Kd.R_lt (hd_ HO_246000))) (keep_size (w := w) (g := g) (row := none) (kx_ HK)))
         replace HO_246000 := Aside0.mk (Kd.R_elder' (hd_ HO_246000) (Kd.R_base ho0) hb)
         replace BK244 := ab_ BK244 hb
         replace BK245 := ab_ BK245 hb
         replace BK250 := ab_ BK250 hb
         replace BK300 := ab_ BK300 hb
         replace HK := kt_ HK (KeepBut.of_below hb g none)
         replace HB := bs112_ hb
         replace HI0 := Aside0.mk (IsS112.below is112_ hb)
         (try clear hb)
         (try clear hb2)
         (try clear hk)
         (try clear hi)
         (try clear ho0)
         refine hK.out _ _ ⟨(blk_cell BK245.out 0).trans rfl, (blk_cell BK250.out 0).trans rfl, (blk_cell BK250.out 1).trans rfl⟩ (fun hHeld => ?_)
         clear hK K
         refine nz_ 58 ?_
         refine pz_ 6 52 ba9_22 HT_ ?_
         refine pz_ 7 59 ba9_23 HT_ ?_
         refine pz_ 8 60 ba9_12 HT_ ?_
         exact norm_ (by simp only [putAll, Act.put, List.setIfInBounds_toArray, List.set_cons_zero, List.set_cons_succ]) (hCont (v297, gb300) _ ⟨hHeld, (by (with_reducible repeat (first | apply Kd.R_alloc | apply Kd.R_drewN | apply Kd.R_drew)); exact Kd.R_mono HO298.out (fun _ hk => hk.2)), (by (with_reducible repeat (first | apply Kd.R_alloc | apply Kd.R_drewN | apply Kd.R_drew)); exact Kd.R_mono HO_246000.out (fun _ hk => hk.2)), (bx_ BK244), (bx_ BK245), (bx_ BK250), (bx_ BK300), GW300.out, GE300.out, NB0_300.out, NB300_0.out, NB244_300.out, NB300_244.out, NB245_300.out, NB300_245.out, NB250_300.out, NB300_250.out, (is112_), (kx_ HK), (bw112_)⟩)
       ·skip
        refine box_step ?hg (N := 12) ?hd (cs := #[.slice none 0 0]) (t := 26) ?hr ?_; (case hd => rfl); (case hg => rfl); (case hr => first | (go_simp; done) | (go_simp; rfl))
        intro gb300 hg w201 hbox hb
        have BK300 := Aside0.mk hbox
        have GW300 := gw_ HK hg
        have GE300 := gv_ HW0 HK hg
        have NB244_300 := nl_ BK244 hg
        have NB300_244 := ng_ BK244 hg
        have NB245_300 := nl_ BK245 hg
        have NB300_245 := ng_ BK245 hg
        have NB250_300 := nl_ BK250 hg
        have NB300_250 := ng_ BK250 hg
        have NB0_300 := Aside0.mk ((by rw [hg]; exact Nat.ne_of_lt (IsS112.lt (show IsS112 w0 _ g s0_0 x1001_9 x1002_9 from is112_)) : g ≠ gb300))
        have NB300_0 := Aside0.mk ((by rw [hg]; exact Nat.ne_of_gt (IsS112.lt (show IsS112 w0 _ g s0_0 x1001_9 x1002_9 from is112_)) : gb300 ≠ g))
        replace HO_246000 := rb_ HO_246000 hb
        replace HB := bs112_ hb
        replace HK := kt_ HK (KeepBut.of_below hb g none)
        replace BK244 := ab_ BK244 hb
        replace BK245 := ab_ BK245 hb
        replace BK250 := ab_ BK250 hb
        replace HI0 := Aside0.mk (IsS112.below is112_ hb)
        clear hb hbox hg
        refine hK.out _ _ ⟨(blk_cell BK245.out 0).trans rfl, (blk_cell BK250.out 0).trans rfl, (blk_cell BK250.out 1).trans rfl⟩ (fun hHeld => ?_)
        clear hK K
        refine nz_ 12 ?_
        refine one_ (i := 3) (N := some 56) ba9_24 rfl rfl (one_of HT_.out (by kernel_rfl)) (by decide) (fun K hK => ?_)
        refine gz_ Try.func44 #[.pointer (some ⟨g, 0, none⟩), .int .i64 4] ?_
        with_reducible refine (spec_l01Below.calls g s0_0 x1001_9 x1002_9 4 t293 t294 t295 w0 _ ?side1 ?side2 A197.out).mono ?_
        (case side1 => exact is112_)
        (case side2 => exact bw112_)
        rintro e w202 ⟨rfl, hi, hb, hk⟩
        refine ⟨_, rfl, ?_⟩
        replace HO_246000 := ak112_ HO_246000 (show IsS112 w0 _ g s0_0 x1001_9 x1002_9 from is112_) hk
        replace BK244 := kb_ BK244 NB244_0 hk
        replace BK245 := kb_ BK245 NB245_0 hk
        replace BK250 := kb_ BK250 NB250_0 hk
        replace BK300 := kb_ BK300 NB300_0 hk
        replace HK := kt_ HK hk
        replace HB := Aside0.mk (hb)
        replace HI0 := Aside0.mk (hi)
        (try clear hb)
        (try clear hb2)
        (try clear hk)
        (try clear hi)
        refine hK.out _ _ ⟨(blk_cell BK245.out 0).trans rfl, (blk_cell BK250.out 0).trans rfl, (blk_cell BK250.out 1).trans rfl⟩ (fun hHeld => ?_)
        clear hK K
        refine nz_ 56 ?_
        refine pz_ 4 57 ba9_20 HT_ ?_
        refine one_ (i := 5) (N := some 58) ba9_21 rfl rfl (one_of HT_.out (by kernel_rfl)) (by decide) (fun K hK => ?_)
        refine gz_ Try.func10 #[.agg #[.slice Ao199 x246000_1.length co199], .agg #[.int .i64 t246, .int .i64 t247, .int .i64 t293]] ?_
        with_reducible refine (spec_PutRoute.calls kj9 _ _ x246000_1 t246 t247 t293 t296 t299 _ ?side1 ?side2 A198.out).mono ?_
        (case side1 => exact rc_ HO_246000)
        (case side2 => exact (Kd.R_reads' HO_246000.out).2.1)
        rintro e w203 ⟨v297, rfl, ho0, hb⟩
        refine ⟨_, rfl, ?_⟩
        have HO298 := Aside0.mk (Kd.R_lower (Kd.R_new' ho0 (Kd.R_lt (hd_ HO_246000))) (keep_size (w := w) (g := g) (row := none) (kx_ HK)))
        replace HO_246000 := Aside0.mk (Kd.R_elder' (hd_ HO_246000) (Kd.R_base ho0) hb)
        replace BK244 := ab_ BK244 hb
        replace BK245 := ab_ BK245 hb
        replace BK250 := ab_ BK250 hb
        replace BK300 := ab_ BK300 hb
        replace HK := kt_ HK (KeepBut.of_below hb g none)
        replace HB := bs112_ hb
        replace HI0 := Aside0.mk (IsS112.below is112_ hb)
        (try clear hb)
        (try clear hb2)
        (try clear hk)
        (try clear hi)
        (try clear ho0)
        refine hK.out _ _ ⟨(blk_cell BK245.out 0).trans rfl, (blk_cell BK250.out 0).trans rfl, (blk_cell BK250.out 1).trans rfl⟩ (fun hHeld => ?_)
        clear hK K
        refine nz_ 58 ?_
        refine pz_ 6 52 ba9_22 HT_ ?_
        refine pz_ 7 59 ba9_23 HT_ ?_
        refine pz_ 8 60 ba9_12 HT_ ?_
        exact norm_ (by simp only [putAll, Act.put, List.setIfInBounds_toArray, List.set_cons_zero, List.set_cons_succ]) (hCont (v297, gb300) _ ⟨hHeld, (by (with_reducible repeat (first | apply Kd.R_alloc | apply Kd.R_drewN | apply Kd.R_drew)); exact Kd.R_mono HO298.out (fun _ hk => hk.2)), (by (with_reducible repeat (first | apply Kd.R_alloc | apply Kd.R_drewN | apply Kd.R_drew)); exact Kd.R_mono HO_246000.out (fun _ hk => hk.2)), (bx_ BK244), (bx_ BK245), (bx_ BK250), (bx_ BK300), GW300.out, GE300.out, NB0_300.out, NB300_0.out, NB244_300.out, NB300_244.out, NB245_300.out, NB300_245.out, NB250_300.out, NB300_250.out, (is112_), (kx_ HK), (bw112_)⟩)
      rintro ⟨v297, gb300⟩ w204 ⟨hS_, h0_, h1_, h2_, h3_, h4_, h5_, h6_, h7_, h8_, h9_, h10_, h11_, h12_, h13_, h14_, h15_, h16_, h17_, h18_⟩
      have HO298 : Aside0 (Kd.R k30 30 w204 w.heap.size (fun k_ => some k_ ≠ (.slice Ao199 x246000_1.length co199 : Value).ownBlock) v297 t296) := ⟨h0_⟩
      have BK300 : Aside0 (w204.heap[gb300]? = some (.cells #[.slice none 0 0] 26 (0, 0))) := ⟨h5_⟩
      have GW300 : Aside0 (w.heap.size ≤ gb300) := ⟨h6_⟩
      have GE300 : Aside0 (w0.heap.size ≤ gb300) := ⟨h7_⟩
      have NB0_300 : Aside0 (g ≠ gb300) := ⟨h8_⟩
      have NB300_0 : Aside0 (gb300 ≠ g) := ⟨h9_⟩
      have NB244_300 : Aside0 (gb244 ≠ gb300) := ⟨h10_⟩
      have NB300_244 : Aside0 (gb300 ≠ gb244) := ⟨h11_⟩
      have NB245_300 : Aside0 (gb245 ≠ gb300) := ⟨h12_⟩
      have NB300_245 : Aside0 (gb300 ≠ gb245) := ⟨h13_⟩
      have NB250_300 : Aside0 (gb250 ≠ gb300) := ⟨h14_⟩
      have NB300_250 : Aside0 (gb300 ≠ gb250) := ⟨h15_⟩
      replace HO_246000 : Aside0 (Kd.R k30 30 w204 w.heap.size (fun k_ => some k_ ≠ (v297 : Value).ownBlock) (.slice Ao199 x246000_1.length co199) x246000_1) := ⟨h1_⟩
      replace BK244 : Aside0 (w204.heap[gb244]? = some (.cells #[.slice none 0 0] 26 (0, 0))) := ⟨h2_⟩
      replace BK245 : Aside0 (w204.heap[gb245]? = some (.cells #[.slice Ao199 x246000_1.length co199] 26 (0, 0))) := ⟨h3_⟩
      replace BK250 : Aside0 (w204.heap[gb250]? = some (.cells #[.int .i64 t246, .int .i64 t247] 28 (0, 0))) := ⟨h4_⟩
      replace HI0 : Aside0 (IsS112 w0 w204 g s0_0 t294 t295) := ⟨h16_⟩
      replace HK : Aside0 (KeepBut w w204 g none) := ⟨h17_⟩
      replace HB : Aside0 (Below w0.heap.size w0 w204) := ⟨h18_⟩
      clear h0_ h1_ h2_ h3_ h4_ h5_ h6_ h7_ h8_ h9_ h10_ h11_ h12_ h13_ h14_ h15_ h16_ h17_ h18_
      have hHeld : w204.cell? ⟨gb245, 0, none⟩ = some (.slice Ao199 x246000_1.length co199) ∧ w204.cell? ⟨gb250, 0, none⟩ = some (.int .i64 t246) ∧ w204.cell? ⟨gb250, 1, none⟩ = some (.int .i64 t247) := hS_
      obtain ⟨Ao205, co205, eo205⟩ := Kd.R_slice HO298.out
      (first | subst eo205 | (injection eo205 with f1_ f2_ f3_; have f4_ := f1_.symm; have f5_ := f3_.symm; clear f1_ f2_ f3_; subst f4_; subst f5_))
      refine norm_ (a' := ?_) ?_ ?_
      rotate_left; · simp only [putAll, Act.put, List.setIfInBounds_toArray, List.set_cons_zero, List.set_cons_succ]; rfl
      refine one_ (i := 10) (N := none) ba9_7 rfl rfl (one_of HT_.out (by kernel_rfl)) (by decide) (fun K hK => ?_)
      have hs206 : w204.cell? ⟨gb300, 0, none⟩ = some (.slice none 0 0) := (blk_cell BK300.out 0).trans rfl
      have hfs206 := fz_ BK300 0
      have hns206_0 := NB244_300.out
      have hns206_1 := NB245_300.out
      have hns206_2 := NB250_300.out
      have hms206_0 := NB300_244.out
      have hms206_1 := NB300_245.out
      have hms206_2 := NB300_250.out
      refine skip_ (w1 := ?_) (by rfl) rfl ?_ ?_
      rotate_left; · go_simp; rfl
      refine hK.out _ _ ⟨((cell_far (p := ⟨gb300, _, none⟩) NB245_300.out _).trans (hHeld.1)), ((cell_far (p := ⟨gb300, _, none⟩) NB250_300.out _).trans (hHeld.2.1)), ((cell_far (p := ⟨gb300, _, none⟩) NB250_300.out _).trans (hHeld.2.2))⟩ (fun hHeld => ?_)
      clear hK K
      refine pz_ 11 13 ba9_16 HT_ ?_
      refine done_ (done_of HT_.out (by kernel_rfl)) ?_
      have hnb207 := NB300_244.out
      have hnc207 := NB244_300.out
      have hnb208 := NB300_245.out
      have hnc208 := NB245_300.out
      have hnb209 := NB300_250.out
      have hnc209 := NB250_300.out
      have hnb210 := NB300_0.out
      have hnc210 := NB0_300.out
      have hcz211_0 := cz_ BK300 0 (.slice none 0 0)
      have hfz211_0 := fz_ BK300 0
      have hnb212 := NB245_244.out
      have hnc212 := NB244_245.out
      have hnb213 := NB245_250.out
      have hnc213 := NB250_245.out
      have hnb214 := NB245_0.out
      have hnc214 := NB0_245.out
      have hcz215_0 := cz_ BK245 0 (.slice Ao199 x246000_1.length co199)
      have hfz215_0 := fz_ BK245 0
      try go_wp2
      go_roundg kj9
      case measure => have := HK1.out; have := HJ9.out; omega
      case rel => exact ⟨(wrap64 (x6_1 + 1)), (t294), (t295), (t296), (.slice Ao205 t296.length co205), er_, H', ⟨by have := HK1.out; have := HJ9.out; omega⟩, ⟨by (with_reducible repeat (first | apply Kd.R_alloc | apply Kd.R_drewN | apply Kd.R_drew)); exact Kd.R_mono (Kd.R_far (p := ⟨gb245, 0, none⟩) (Kd.R_far (p := ⟨gb300, 0, none⟩) (Kd.R_types (Kd.R_types HO298.out BK300.out (by decide)) BK245.out (by decide)) (fun _ hk => hk.1.2) (.slice Ao205 t296.length co205)) (fun _ hk => hk.2) (.slice Ao205 t296.length co205)) (fun _ hk => trivial)⟩, ⟨bc_ BK244⟩, ⟨by refine bd_ ?_; refine blk_put (cs := #[.slice Ao199 x246000_1.length co199]) ?_ 0 _ rfl; refine bd_ ?_; refine blk_far ?_ NB245_300.out _; refine bd_ ?_; exact BK245.out⟩, ⟨is112_⟩, ⟨kx_ HK⟩, ⟨bw112_⟩⟩
     subst c30
     rw [if_pos rfl] at H
     replace H := Option.bind_eq_some_iff.mp H
     obtain ⟨⟨t254, t255, t256⟩, A310, H⟩ := H
     have A31 := Aside0.mk A310
     clear A310
     obtain ⟨c32b0, H⟩ := iq_ H
     obtain ⟨c33b0, H⟩ := iq_ H
     replace H := Option.bind_eq_some_iff.mp H
     obtain ⟨⟨t259, t260, t261, t262, t263⟩, A340, H⟩ := H
     have A34 := Aside0.mk A340
     clear A340
     have Hh_ := Aside0.mk H
     clear H
     try go_wp2
     replace HO_246000 := Aside0.mk (Kd.R_drew HO_246000.out)
     replace BK244 := ad_ BK244
     replace BK245 := ad_ BK245
     replace BK250 := ad_ BK250
     replace HI0 := Aside0.mk (IsS112.drew HI0.out)
     replace HK := Aside0.mk (keep_drew HK.out)
     replace HB := Aside0.mk (below_drew1 HB.out)
     obtain ⟨Ao41, co41, eo41⟩ := Kd.R_slice HO_246000.out
     (first | subst eo41 | (injection eo41 with f1_ f2_ f3_; have f4_ := f1_.symm; have f5_ := f3_.symm; clear f1_ f2_ f3_; subst f4_; subst f5_))
     have p257 : 0 ≤ (t254 : Int) := oa_
     have q257 : t254 < (x246000_1.length : Int) := oa_
     obtain ⟨ad257, e257, hx257_0, hx257_1, hx257_2⟩ := at_T30 (Kd.R_reads' HO_246000.out).2.2 t254 p257 q257
     cases e257
     replace p257 := eq_true p257
     replace q257 := eq_true q257
     refine start_ (n := 12) (S := fun w' => w'.cell? ⟨gb245, 0, none⟩ = some (.slice (some ad257) x246000_1.length co41) ∧ w'.cell? (ad257.add ((t254).toNat * 3)) = some (.int .i64 ((rd_T30 x246000_1 t254).f0.f0)) ∧ w'.cell? ⟨(ad257.add ((t254).toNat * 3)).block, (ad257.add ((t254).toNat * 3)).off + 1, none⟩ = some (.int .i64 ((rd_T30 x246000_1 t254).f0.f1)) ∧ w'.cell? ⟨(ad257.add ((t254).toNat * 3)).block, (ad257.add ((t254).toNat * 3)).off + 2, none⟩ = some (.int .i64 ((rd_T30 x246000_1 t254).f1))) (ds := []) ba9_0 (by kernel_rfl) rfl rfl ⟨(blk_cell BK245.out 0).trans rfl, hx257_0, hx257_1, hx257_2⟩ (fun hHeld => ?_); refine with_tabW spec_l02DrawTable.tab7 spec_l02DrawTable.bits7 (fun HT_ HW_ => ?_)
     generalize wc.drew = w40 at HO_246000 BK244 BK245 BK250 HI0 HK HB hx257_0 hx257_1 hx257_2 hHeld ⊢
     refine pz_ 0 31 ba9_1 HT_ ?_
     refine pz_ 2 33 ba9_2 HT_ ?_
     refine pz_ 3 34 ba9_3 HT_ ?_
     refine pt_ 1 32 ba9_4 HT_ HW_ hHeld ?_
     refine pt_ 4 35 ba9_5 HT_ HW_ hHeld ?_
     refine pz_ 5 36 ba9_6 HT_ ?_
     refine join_ (σ := Nat) 1 ba9_7 (fun s_ => [(37, .int .i64 t254), (8, .pointer (some ⟨s_, 0, none⟩)), (38, .pointer (some (ad257.add ((t254).toNat * 3)))), (39, .pointer (some (ad257.add ((t254).toNat * 3)))), (40, .agg #[.int .i64 ((rd_T30 x246000_1 t254).f0.f0), .int .i64 ((rd_T30 x246000_1 t254).f0.f1)])]) (fun s_ w' => (w'.cell? ⟨gb245, 0, none⟩ = some (.slice (some ad257) x246000_1.length co41) ∧ w'.cell? (ad257.add ((t254).toNat * 3)) = some (.int .i64 ((rd_T30 x246000_1 t254).f0.f0)) ∧ w'.cell? ⟨(ad257.add ((t254).toNat * 3)).block, (ad257.add ((t254).toNat * 3)).off + 1, none⟩ = some (.int .i64 ((rd_T30 x246000_1 t254).f0.f1)) ∧ w'.cell? ⟨(ad257.add ((t254).toNat * 3)).block, (ad257.add ((t254).toNat * 3)).off + 2, none⟩ = some (.int .i64 ((rd_T30 x246000_1 t254).f1))) ∧ (Kd.R k30 30 w' w.heap.size (fun _ => True) (.slice (some ad257) x246000_1.length co41) x246000_1) ∧ (w'.heap[gb244]? = some (.cells #[.slice none 0 0] 26 (0, 0))) ∧ (w'.heap[gb245]? = some (.cells #[.slice (some ad257) x246000_1.length co41] 26 (0, 0))) ∧ (w'.heap[gb250]? = some (.cells #[.int .i64 t246, .int .i64 t247] 28 (0, 0))) ∧ (w'.heap[s_]? = some (.cells #[.int .i64 0, .int .i64 0] 28 (0, 0))) ∧ (w.heap.size ≤ s_) ∧ (w0.heap.size ≤ s_) ∧ (g ≠ s_) ∧ (s_ ≠ g) ∧ (gb244 ≠ s_) ∧ (s_ ≠ gb244) ∧ (gb245 ≠ s_) ∧ (s_ ≠ gb245) ∧ (gb250 ≠ s_) ∧ (s_ ≠ gb250) ∧ (IsS112 w0 w' g s0_0 t255 t256) ∧ (KeepBut w w' g none) ∧ (Below w0.heap.size w0 w')) ?_ ?_
     rotate_left
     ·intro hCont
      refine two_ (i := 6) (j := 10) (Ni := some 37) (Nj := some 8) ba9_8 ba9_9 rfl rfl rfl rfl (two_of HT_.out (by kernel_rfl)) (by decide) (by decide) (fun K hK => ?_) (fun K hK => ?_)
      ·skip
       refine gz_ Try.func44 #[.pointer (some ⟨g, 0, none⟩), .int .i64 (x246000_1.length : Int)] ?_
       with_reducible refine (spec_l01Below.calls g s0_0 x1001_9 x1002_9 (x246000_1.length : Int) t254 t255 t256 w0 _ ?side1 ?side2 A31.out).mono ?_
       (case side1 => exact is112_)
       (case side2 => exact bw112_)
       rintro e w42 ⟨rfl, hi, hb, hk⟩
       have HS1_ := keep_cell hk (hHeld.2.1) (by first | (rw [add_block]; exact Kd.own_blk (IsS112.own_ne HI0.out HO_246000.out (by decide))) | (show (Addr.add _ _).block ≠ _; rw [add_block]; exact Kd.own_blk (IsS112.own_ne HI0.out HO_246000.out (by decide))) | exact Kd.own_blk (IsS112.own_ne HI0.out HO_246000.out (by decide)))
       have HS2_ := keep_cell hk (hHeld.2.2.1) (by first | (rw [add_block]; exact Kd.own_blk (IsS112.own_ne HI0.out HO_246000.out (by decide))) | (show (Addr.add _ _).block ≠ _; rw [add_block]; exact Kd.own_blk (IsS112.own_ne HI0.out HO_246000.out (by decide))) | exact Kd.own_blk (IsS112.own_ne HI0.out HO_246000.out (by decide)))
       have HS3_ := keep_cell hk (hHeld.2.2.2) (by first | (rw [add_block]; exact Kd.own_blk (IsS112.own_ne HI0.out HO_246000.out (by decide))) | (show (Addr.add _ _).block ≠ _; rw [add_block]; exact Kd.own_blk (IsS112.own_ne HI0.out HO_246000.out (by decide))) | exact Kd.own_blk (IsS112.own_ne HI0.out HO_246000.out (by decide)))
       refine ⟨_, rfl, ?_⟩
       replace HO_246000 := ak112_ HO_246000 (show IsS112 w0 _ g s0_0 x1001_9 x1002_9 from is112_) hk
       replace BK244 := kb_ BK244 NB244_0 hk
       replace BK245 := kb_ BK245 NB245_0 hk
       replace BK250 := kb_ BK250 NB250_0 hk
       replace HK := kt_ HK hk
       replace HB := Aside0.mk (hb)
       replace HI0 := Aside0.mk (hi)
       (try clear hb)
       (try clear hb2)
       (try clear hk)
       (try clear hi)
       refine hK.out _ _ ⟨(blk_cell BK245.out 0).trans rfl, HS1_, HS2_, HS3_⟩ (fun hHeld => ?_)
       clear hK K
       refine nz_ 37 ?_
       refine pz_ 7 38 ba9_10 HT_ ?_
       refine pz_ 8 39 ba9_11 HT_ ?_
       refine pt_ 9 40 ba9_12 HT_ HW_ hHeld ?_
       refine one_ (i := 10) (N := some 8) ba9_7 rfl rfl (one_of HT_.out (by kernel_rfl)) (by decide) (fun K hK => ?_)
       refine box_step ?hg (N := 8) ?hd (cs := #[.int .i64 0, .int .i64 0]) (t := 28) ?hr ?_; (case hd => rfl); (case hg => rfl); (case hr => first | (go_simp; done) | (go_simp; rfl))
       intro gb258 hg w43 hbox hb
       have HS1_ := (hb.cell (World.block_lt_of_cell? _ _ (hHeld.2.1))).trans (hHeld.2.1)
       have HS2_ := (hb.cell (World.block_lt_of_cell? _ _ (hHeld.2.2.1))).trans (hHeld.2.2.1)
       have HS3_ := (hb.cell (World.block_lt_of_cell? _ _ (hHeld.2.2.2))).trans (hHeld.2.2.2)
       have BK258 := Aside0.mk hbox
       have GW258 := gw_ HK hg
       have GE258 := gv_ HW0 HK hg
       have NB244_258 := nl_ BK244 hg
       have NB258_244 := ng_ BK244 hg
       have NB245_258 := nl_ BK245 hg
       have NB258_245 := ng_ BK245 hg
       have NB250_258 := nl_ BK250 hg
       have NB258_250 := ng_ BK250 hg
       have NB0_258 := Aside0.mk ((by rw [hg]; exact Nat.ne_of_lt (IsS112.lt (show IsS112 w0 _ g s0_0 t255 t256 from is112_)) : g ≠ gb258))
       have NB258_0 := Aside0.mk ((by rw [hg]; exact Nat.ne_of_gt (IsS112.lt (show IsS112 w0 _ g s0_0 t255 t256 from is112_)) : gb258 ≠ g))
       replace HO_246000 := rb_ HO_246000 hb
       replace HB := bs112_ hb
       replace HK := kt_ HK (KeepBut.of_below hb g none)
       replace BK244 := ab_ BK244 hb
       replace BK245 := ab_ BK245 hb
       replace BK250 := ab_ BK250 hb
       replace HI0 := Aside0.mk (IsS112.below is112_ hb)
       clear hb hbox hg
       refine hK.out _ _ ⟨(blk_cell BK245.out 0).trans rfl, HS1_, HS2_, HS3_⟩ (fun hHeld => ?_)
       clear hK K
       refine nz_ 8 ?_
       exact norm_ (by simp only [putAll, Act.put, List.setIfInBounds_toArray, List.set_cons_zero, List.set_cons_succ]) (hCont (gb258) _ ⟨hHeld, (hd_ HO_246000), (bx_ BK244), (bx_ BK245), (bx_ BK250), (bx_ BK258), GW258.out, GE258.out, NB0_258.out, NB258_0.out, NB244_258.out, NB258_244.out, NB245_258.out, NB258_245.out, NB250_258.out, NB258_250.out, (is112_), (kx_ HK), (bw112_)⟩)
      ·skip
       refine box_step ?hg (N := 8) ?hd (cs := #[.int .i64 0, .int .i64 0]) (t := 28) ?hr ?_; (case hd => rfl); (case hg => rfl); (case hr => first | (go_simp; done) | (go_simp; rfl))
       intro gb258 hg w42 hbox hb
       have HS1_ := (hb.cell (World.block_lt_of_cell? _ _ (hHeld.2.1))).trans (hHeld.2.1)
       have HS2_ := (hb.cell (World.block_lt_of_cell? _ _ (hHeld.2.2.1))).trans (hHeld.2.2.1)
       have HS3_ := (hb.cell (World.block_lt_of_cell? _ _ (hHeld.2.2.2))).trans (hHeld.2.2.2)
       have BK258 := Aside0.mk hbox
       have GW258 := gw_ HK hg
       have GE258 := gv_ HW0 HK hg
       have NB244_258 := nl_ BK244 hg
       have NB258_244 := ng_ BK244 hg
       have NB245_258 := nl_ BK245 hg
       have NB258_245 := ng_ BK245 hg
       have NB250_258 := nl_ BK250 hg
       have NB258_250 := ng_ BK250 hg
       have NB0_258 := Aside0.mk ((by rw [hg]; exact Nat.ne_of_lt (IsS112.lt (show IsS112 w0 _ g s0_0 x1001_9 x1002_9 from is112_)) : g ≠ gb258))
       have NB258_0 := Aside0.mk ((by rw [hg]; exact Nat.ne_of_gt (IsS112.lt (show IsS112 w0 _ g s0_0 x1001_9 x1002_9 from is112_)) : gb258 ≠ g))
       replace HO_246000 := rb_ HO_246000 hb
       replace HB := bs112_ hb
       replace HK := kt_ HK (KeepBut.of_below hb g none)
       replace BK244 := ab_ BK244 hb
       replace BK245 := ab_ BK245 hb
       replace BK250 := ab_ BK250 hb
       replace HI0 := Aside0.mk (IsS112.below is112_ hb)
       clear hb hbox hg
       refine hK.out _ _ ⟨(blk_cell BK245.out 0).trans rfl, HS1_, HS2_, HS3_⟩ (fun hHeld => ?_)
       clear hK K
       refine nz_ 8 ?_
       refine one_ (i := 6) (N := some 37) ba9_13 rfl rfl (one_of HT_.out (by kernel_rfl)) (by decide) (fun K hK => ?_)
       refine gz_ Try.func44 #[.pointer (some ⟨g, 0, none⟩), .int .i64 (x246000_1.length : Int)] ?_
       with_reducible refine (spec_l01Below.calls g s0_0 x1001_9 x1002_9 (x246000_1.length : Int) t254 t255 t256 w0 _ ?side1 ?side2 A31.out).mono ?_
       (case side1 => exact is112_)
       (case side2 => exact bw112_)
       rintro e w43 ⟨rfl, hi, hb, hk⟩
       have HS1_ := keep_cell hk (hHeld.2.1) (by first | (rw [add_block]; exact Kd.own_blk (IsS112.own_ne HI0.out HO_246000.out (by decide))) | (show (Addr.add _ _).block ≠ _; rw [add_block]; exact Kd.own_blk (IsS112.own_ne HI0.out HO_246000.out (by decide))) | exact Kd.own_blk (IsS112.own_ne HI0.out HO_246000.out (by decide)))
       have HS2_ := keep_cell hk (hHeld.2.2.1) (by first | (rw [add_block]; exact Kd.own_blk (IsS112.own_ne HI0.out HO_246000.out (by decide))) | (show (Addr.add _ _).block ≠ _; rw [add_block]; exact Kd.own_blk (IsS112.own_ne HI0.out HO_246000.out (by decide))) | exact Kd.own_blk (IsS112.own_ne HI0.out HO_246000.out (by decide)))
       have HS3_ := keep_cell hk (hHeld.2.2.2) (by first | (rw [add_block]; exact Kd.own_blk (IsS112.own_ne HI0.out HO_246000.out (by decide))) | (show (Addr.add _ _).block ≠ _; rw [add_block]; exact Kd.own_blk (IsS112.own_ne HI0.out HO_246000.out (by decide))) | exact Kd.own_blk (IsS112.own_ne HI0.out HO_246000.out (by decide)))
       refine ⟨_, rfl, ?_⟩
       replace HO_246000 := ak112_ HO_246000 (show IsS112 w0 _ g s0_0 x1001_9 x1002_9 from is112_) hk
       replace BK244 := kb_ BK244 NB244_0 hk
       replace BK245 := kb_ BK245 NB245_0 hk
       replace BK250 := kb_ BK250 NB250_0 hk
       replace BK258 := kb_ BK258 NB258_0 hk
       replace HK := kt_ HK hk
       replace HB := Aside0.mk (hb)
       replace HI0 := Aside0.mk (hi)
       (try clear hb)
       (try clear hb2)
       (try clear hk)
       (try clear hi)
       refine hK.out _ _ ⟨(blk_cell BK245.out 0).trans rfl, HS1_, HS2_, HS3_⟩ (fun hHeld => ?_)
       clear hK K
       refine nz_ 37 ?_
       refine pz_ 7 38 ba9_14 HT_ ?_
       refine pz_ 8 39 ba9_15 HT_ ?_
       refine pt_ 9 40 ba9_7 HT_ HW_ hHeld ?_
       exact norm_ (by simp only [putAll, Act.put, List.setIfInBounds_toArray, List.set_cons_zero, List.set_cons_succ]) (hCont (gb258) _ ⟨hHeld, (hd_ HO_246000), (bx_ BK244), (bx_ BK245), (bx_ BK250), (bx_ BK258), GW258.out, GE258.out, NB0_258.out, NB258_0.out, NB244_258.out, NB258_244.out, NB245_258.out, NB258_245.out, NB250_258.out, NB258_250.out, (is112_), (kx_ HK), (bw112_)⟩)
     rintro gb258 w44 ⟨hS_, h0_, h1_, h2_, h3_, h4_, h5_, h6_, h7_, h8_, h9_, h10_, h11_, h12_, h13_, h14_, h15_, h16_, h17_⟩
     have BK258 : Aside0 (w44.heap[gb258]? = some (.cells #[.int .i64 0, .int .i64 0] 28 (0, 0))) := ⟨h4_⟩
     have GW258 : Aside0 (w.heap.size ≤ gb258) := ⟨h5_⟩
     have GE258 : Aside0 (w0.heap.size ≤ gb258) := ⟨h6_⟩
     have NB0_258 : Aside0 (g ≠ gb258) := ⟨h7_⟩
     have NB258_0 : Aside0 (gb258 ≠ g) := ⟨h8_⟩
     have NB244_258 : Aside0 (gb244 ≠ gb258) := ⟨h9_⟩
     have NB258_244 : Aside0 (gb258 ≠ gb244) := ⟨h10_⟩
     have NB245_258 : Aside0 (gb245 ≠ gb258) := ⟨h11_⟩
     have NB258_245 : Aside0 (gb258 ≠ gb245) := ⟨h12_⟩
     have NB250_258 : Aside0 (gb250 ≠ gb258) := ⟨h13_⟩
     have NB258_250 : Aside0 (gb258 ≠ gb250) := ⟨h14_⟩
     replace HO_246000 : Aside0 (Kd.R k30 30 w44 w.heap.size (fun _ => True) (.slice (some ad257) x246000_1.length co41) x246000_1) := ⟨h0_⟩
     replace BK244 : Aside0 (w44.heap[gb244]? = some (.cells #[.slice none 0 0] 26 (0, 0))) := ⟨h1_⟩
     replace BK245 : Aside0 (w44.heap[gb245]? = some (.cells #[.slice (some ad257) x246000_1.length co41] 26 (0, 0))) := ⟨h2_⟩
     replace BK250 : Aside0 (w44.heap[gb250]? = some (.cells #[.int .i64 t246, .int .i64 t247] 28 (0, 0))) := ⟨h3_⟩
     replace HI0 : Aside0 (IsS112 w0 w44 g s0_0 t255 t256) := ⟨h15_⟩
     replace HK : Aside0 (KeepBut w w44 g none) := ⟨h16_⟩
     replace HB : Aside0 (Below w0.heap.size w0 w44) := ⟨h17_⟩
     clear h0_ h1_ h2_ h3_ h4_ h5_ h6_ h7_ h8_ h9_ h10_ h11_ h12_ h13_ h14_ h15_ h16_ h17_
     have hHeld : w44.cell? ⟨gb245, 0, none⟩ = some (.slice (some ad257) x246000_1.length co41) ∧ w44.cell? (ad257.add ((t254).toNat * 3)) = some (.int .i64 ((rd_T30 x246000_1 t254).f0.f0)) ∧ w44.cell? ⟨(ad257.add ((t254).toNat * 3)).block, (ad257.add ((t254).toNat * 3)).off + 1, none⟩ = some (.int .i64 ((rd_T30 x246000_1 t254).f0.f1)) ∧ w44.cell? ⟨(ad257.add ((t254).toNat * 3)).block, (ad257.add ((t254).toNat * 3)).off + 2, none⟩ = some (.int .i64 ((rd_T30 x246000_1 t254).f1)) := hS_
     refine norm_ (a' := ?_) ?_ ?_
     rotate_left; · simp only [putAll, Act.put, List.setIfInBounds_toArray, List.set_cons_zero, List.set_cons_succ]; rfl
     refine one_ (i := 11) (N := none) ba9_16 rfl rfl (one_of HT_.out (by kernel_rfl)) (by decide) (fun K hK => ?_)
     have hs45 : w44.cell? ⟨gb258, 0, none⟩ = some (.int .i64 0) := (blk_cell BK258.out 0).trans rfl
     have hfs45 := fz_ BK258 0
     have hns45_0 := NB244_258.out
     have hns45_1 := NB245_258.out
     have hns45_2 := NB250_258.out
     have hms45_0 := NB258_244.out
     have hms45_1 := NB258_245.out
     have hms45_2 := NB258_250.out
     have hs46 : w44.cell? ⟨gb258, 1, none⟩ = some (.int .i64 0) := (blk_cell BK258.out 1).trans rfl
     have hfs46 := fz_ BK258 1
     have hns46_0 := NB244_258.out
     have hns46_1 := NB245_258.out
     have hns46_2 := NB250_258.out
     have hms46_0 := NB258_244.out
     have hms46_1 := NB258_245.out
     have hms46_2 := NB258_250.out
     have H := Hh_.out
     clear Hh_
     by_cases c35 : t263 = true
     rotate_left
     ·replace c35 := Bool.eq_false_iff.mpr c35
      subst c35
      rw [if_neg (show ¬ (false = true) by decide)] at H
      replace H := Option.bind_eq_some_iff.mp H
      obtain ⟨⟨t285, t286, t287⟩, A1470, H⟩ := H
      have A147 := Aside0.mk A1470
      clear A1470
      replace H := Option.bind_eq_some_iff.mp H
      obtain ⟨⟨t288, t291⟩, A1480, H⟩ := H
      have A148 := Aside0.mk A1480
      clear A1480
      have H' := Aside0.mk H
      clear H
      refine skip_ (w1 := ?_) (by rfl) rfl ?_ ?_
      rotate_left; · go_simp; rfl
      refine hK.out _ _ ⟨((cell_far (p := ⟨gb258, _, none⟩) NB245_258.out _).trans (((cell_far (p := ⟨gb258, _, none⟩) NB245_258.out _).trans (hHeld.1)))), ((cell_far (p := ⟨gb258, _, none⟩) (by first | exact Kd.own_blk (Kd.R_ne HO_246000.out BK258.out (by decide)) | (rw [add_block]; exact Kd.own_blk (Kd.R_ne HO_246000.out BK258.out (by decide))) | (show (Addr.add _ _).block ≠ _; rw [add_block]; exact Kd.own_blk (Kd.R_ne HO_246000.out BK258.out (by decide))) | (dsimp only; exact Kd.own_blk (Kd.R_ne HO_246000.out BK258.out (by decide)))) _).trans (((cell_far (p := ⟨gb258, _, none⟩) (by first | exact Kd.own_blk (Kd.R_ne HO_246000.out BK258.out (by decide)) | (rw [add_block]; exact Kd.own_blk (Kd.R_ne HO_246000.out BK258.out (by decide))) | (show (Addr.add _ _).block ≠ _; rw [add_block]; exact Kd.own_blk (Kd.R_ne HO_246000.out BK258.out (by decide))) | (dsimp only; exact Kd.own_blk (Kd.R_ne HO_246000.out BK258.out (by decide)))) _).trans (hHeld.2.1)))), ((cell_far (p := ⟨gb258, _, none⟩) (by first | exact Kd.own_blk (Kd.R_ne HO_246000.out BK258.out (by decide)) | (rw [add_block]; exact Kd.own_blk (Kd.R_ne HO_246000.out BK258.out (by decide))) | (show (Addr.add _ _).block ≠ _; rw [add_block]; exact Kd.own_blk (Kd.R_ne HO_246000.out BK258.out (by decide))) | (dsimp only; exact Kd.own_blk (Kd.R_ne HO_246000.out BK258.out (by decide)))) _).trans (((cell_far (p := ⟨gb258, _, none⟩) (by first | exact Kd.own_blk (Kd.R_ne HO_246000.out BK258.out (by decide)) | (rw [add_block]; exact Kd.own_blk (Kd.R_ne HO_246000.out BK258.out (by decide))) | (show (Addr.add _ _).block ≠ _; rw [add_block]; exact Kd.own_blk (Kd.R_ne HO_246000.out BK258.out (by decide))) | (dsimp only; exact Kd.own_blk (Kd.R_ne HO_246000.out BK258.out (by decide)))) _).trans (hHeld.2.2.1)))), ((cell_far (p := ⟨gb258, _, none⟩) (by first | exact Kd.own_blk (Kd.R_ne HO_246000.out BK258.out (by decide)) | (rw [add_block]; exact Kd.own_blk (Kd.R_ne HO_246000.out BK258.out (by decide))) | (show (Addr.add _ _).block ≠ _; rw [add_block]; exact Kd.own_blk (Kd.R_ne HO_246000.out BK258.out (by decide))) | (dsimp only; exact Kd.own_blk (Kd.R_ne HO_246000.out BK258.out (by decide)))) _).trans (((cell_far (p := ⟨gb258, _, none⟩) (by first | exact Kd.own_blk (Kd.R_ne HO_246000.out BK258.out (by decide)) | (rw [add_block]; exact Kd.own_blk (Kd.R_ne HO_246000.out BK258.out (by decide))) | (show (Addr.add _ _).block ≠ _; rw [add_block]; exact Kd.own_blk (Kd.R_ne HO_246000.out BK258.out (by decide))) | (dsimp only; exact Kd.own_blk (Kd.R_ne HO_246000.out BK258.out (by decide)))) _).trans (hHeld.2.2.2))))⟩ (fun hHeld => ?_)
      clear hK K
      refine done_ (done_of HT_.out (by kernel_rfl)) ?_
      have hnb156 := NB258_244.out
      have hnc156 := NB244_258.out
      have hnb157 := NB258_245.out
      have hnc157 := NB245_258.out
      have hnb158 := NB258_250.out
      have hnc158 := NB250_258.out
      have hnb159 := NB258_0.out
      have hnc159 := NB0_258.out
      have hcz160_0 := cz_ BK258 0 (.int .i64 0)
      have hcz160_1 := cz_ BK258 1 (.int .i64 0)
      have hfz160_0 := fz_ BK258 0
      have hfz160_1 := fz_ BK258 1
      try go_wp2_with (first | ((with_reducible refine gate_callee (f := 95) rfl ?_); refine gl_ (some 43) Try.func95 #[.agg #[.int .i64 ((rd_T30 x246000_1 t254).f0.f0), .int .i64 ((rd_T30 x246000_1 t254).f0.f1)]] ?_; (with_reducible refine (spec_Halves.calls ((rd_T30 x246000_1 t254).f0.f0) ((rd_T30 x246000_1 t254).f0.f1) t259 t260 t261 t262 false _ A34.out).mono ?_); rintro e w161 ⟨rfl, hb⟩; refine ⟨_, rfl, ?_⟩; replace HO_246000 := rs_ HO_246000 BK258 hb; replace BK244 := bf_ BK244 NB244_258 hb; replace BK245 := bf_ BK245 NB245_258 hb; replace BK250 := bf_ BK250 NB250_258 hb; replace BK258 := Aside0.mk (blk_below (g := gb258) (o := .cells #[.int .i64 ((rd_T30 x246000_1 t254).f0.f0), .int .i64 ((rd_T30 x246000_1 t254).f0.f1)] 28 (0, 0)) (by refine bd_ ?_; refine blk_put (cs := #[.int .i64 ((rd_T30 x246000_1 t254).f0.f0), .int .i64 0]) ?_ 1 _ rfl; refine bd_ ?_; refine blk_put (cs := #[.int .i64 0, .int .i64 0]) ?_ 0 _ rfl; refine bd_ ?_; exact BK258.out) hb); replace HK := kt_ HK (KeepBut.of_below hb g none); replace HB := bs112_ hb; replace HI0 := Aside0.mk (IsS112.below (show IsS112 w0 ((w44.setCell ⟨gb258, 0, none⟩ (.int .i64 ((rd_T30 x246000_1 t254).f0.f0))).setCell ⟨gb258, 1, none⟩ (.int .i64 ((rd_T30 x246000_1 t254).f0.f1))) g s0_0 t255 t256 from is112_) hb); (try clear hb); (try clear hb2); (try clear hk); (try clear hi)) | ((with_reducible refine gate_dst (N := 9) rfl ?_); refine box_event ?hg (N := 9) ?hd (cs := #[.int .i64 0, .int .i64 0]) (t := 28) ?hr ?_; (case hd => rfl); (case hg => rfl); (case hr => first | (go_simp; done) | (go_simp; rfl)); intro gb264 hg w162 hbox hb; have BK264 := Aside0.mk hbox; have GW264 := gw_ HK hg; have GE264 := gv_ HW0 HK hg; have NB244_264 := nl_ BK244 hg; have NB264_244 := ng_ BK244 hg; have NB245_264 := nl_ BK245 hg; have NB264_245 := ng_ BK245 hg; have NB250_264 := nl_ BK250 hg; have NB264_250 := ng_ BK250 hg; have NB258_264 := nl_ BK258 hg; have NB264_258 := ng_ BK258 hg; have NB0_264 := Aside0.mk ((by rw [hg]; exact Nat.ne_of_lt (IsS112.lt (show IsS112 w0 _ g s0_0 t255 t256 from is112_)) : g ≠ gb264)); have NB264_0 := Aside0.mk ((by rw [hg]; exact Nat.ne_of_gt (IsS112.lt (show IsS112 w0 _ g s0_0 t255 t256 from is112_)) : gb264 ≠ g)); replace HO_246000 := rb_ HO_246000 hb; replace HB := bs112_ hb; replace HK := kt_ HK (KeepBut.of_below hb g none); replace BK244 := ab_ BK244 hb; replace BK245 := ab_ BK245 hb; replace BK250 := ab_ BK250 hb; replace BK258 := ab_ BK258 hb; replace HI0 := Aside0.mk (IsS112.below is112_ hb); clear hb hbox hg) | ((with_reducible refine gate_dst (N := 10) rfl ?_); refine box_event ?hg (N := 10) ?hd (cs := #[.int .i64 0, .int .i64 0]) (t := 28) ?hr ?_; (case hd => rfl); (case hg => rfl); (case hr => first | (go_simp; done) | (go_simp; rfl)); intro gb265 hg w163 hbox hb; have BK265 := Aside0.mk hbox; have GW265 := gw_ HK hg; have GE265 := gv_ HW0 HK hg; have NB244_265 := nl_ BK244 hg; have NB265_244 := ng_ BK244 hg; have NB245_265 := nl_ BK245 hg; have NB265_245 := ng_ BK245 hg; have NB250_265 := nl_ BK250 hg; have NB265_250 := ng_ BK250 hg; have NB258_265 := nl_ BK258 hg; have NB265_258 := ng_ BK258 hg; have NB264_265 := nl_ BK264 hg; have NB265_264 := ng_ BK264 hg; have NB0_265 := Aside0.mk ((by rw [hg]; exact Nat.ne_of_lt (IsS112.lt (show IsS112 w0 _ g s0_0 t255 t256 from is112_)) : g ≠ gb265)); have NB265_0 := Aside0.mk ((by rw [hg]; exact Nat.ne_of_gt (IsS112.lt (show IsS112 w0 _ g s0_0 t255 t256 from is112_)) : gb265 ≠ g)); replace HO_246000 := rb_ HO_246000 hb; replace HB := bs112_ hb; replace HK := kt_ HK (KeepBut.of_below hb g none); replace BK244 := ab_ BK244 hb; replace BK245 := ab_ BK245 hb; replace BK250 := ab_ BK250 hb; replace BK258 := ab_ BK258 hb; replace BK264 := ab_ BK264 hb; replace HI0 := Aside0.mk (IsS112.below is112_ hb); clear hb hbox hg; have hnb164 := NB264_244.out; have hnc164 := NB244_264.out; have hnb165 := NB264_245.out; have hnc165 := NB245_264.out; have hnb166 := NB264_250.out; have hnc166 := NB250_264.out; have hnb167 := NB264_258.out; have hnc167 := NB258_264.out; have hnb168 := NB264_265.out; have hnc168 := NB265_264.out; have hnb169 := NB264_0.out; have hnc169 := NB0_264.out; have hcz170_0 := cz_ BK264 0 (.int .i64 0); have hcz170_1 := cz_ BK264 1 (.int .i64 0); have hfz170_0 := fz_ BK264 0; have hfz170_1 := fz_ BK264 1; have hnb171 := NB265_244.out; have hnc171 := NB244_265.out; have hnb172 := NB265_245.out; have hnc172 := NB245_265.out; have hnb173 := NB265_250.out; have hnc173 := NB250_265.out; have hnb174 := NB265_258.out; have hnc174 := NB258_265.out; have hnb175 := NB265_0.out; have hnc175 := NB0_265.out; have hcz176_0 := cz_ BK265 0 (.int .i64 0); have hcz176_1 := cz_ BK265 1 (.int .i64 0); have hfz176_0 := fz_ BK265 0; have hfz176_1 := fz_ BK265 1))
      have n0_ : Aside0 (Kd.R k30 30 ((((w163.setCell ⟨gb264, 0, none⟩ (.int .i64 t259)).setCell ⟨gb264, 1, none⟩ (.int .i64 t260)).setCell ⟨gb265, 0, none⟩ (.int .i64 t261)).setCell ⟨gb265, 1, none⟩ (.int .i64 t262)) w.heap.size (fun _ => True) (.slice (some ad257) x246000_1.length co41) x246000_1) := ⟨by (with_reducible repeat (first | apply Kd.R_alloc | apply Kd.R_drewN | apply Kd.R_drew)); exact Kd.R_mono (Kd.R_far (p := ⟨gb265, 1, none⟩) (Kd.R_far (p := ⟨gb265, 0, none⟩) (Kd.R_far (p := ⟨gb264, 1, none⟩) (Kd.R_far (p := ⟨gb264, 0, none⟩) (Kd.R_types (Kd.R_types HO_246000.out BK264.out (by decide)) BK265.out (by decide)) (fun _ hk => hk.1.2) (.int .i64 t259)) (fun _ hk => hk.1.2) (.int .i64 t260)) (fun _ hk => hk.2) (.int .i64 t261)) (fun _ hk => hk.2) (.int .i64 t262)) (fun _ hk => trivial)⟩
      have n1_ : Aside0 (((((w163.setCell ⟨gb264, 0, none⟩ (.int .i64 t259)).setCell ⟨gb264, 1, none⟩ (.int .i64 t260)).setCell ⟨gb265, 0, none⟩ (.int .i64 t261)).setCell ⟨gb265, 1, none⟩ (.int .i64 t262)).heap[gb244]? = some (.cells #[.slice none 0 0] 26 (0, 0))) := ⟨bc_ BK244⟩
      have n2_ : Aside0 (((((w163.setCell ⟨gb264, 0, none⟩ (.int .i64 t259)).setCell ⟨gb264, 1, none⟩ (.int .i64 t260)).setCell ⟨gb265, 0, none⟩ (.int .i64 t261)).setCell ⟨gb265, 1, none⟩ (.int .i64 t262)).heap[gb245]? = some (.cells #[.slice (some ad257) x246000_1.length co41] 26 (0, 0))) := ⟨bc_ BK245⟩
      have n3_ : Aside0 (((((w163.setCell ⟨gb264, 0, none⟩ (.int .i64 t259)).setCell ⟨gb264, 1, none⟩ (.int .i64 t260)).setCell ⟨gb265, 0, none⟩ (.int .i64 t261)).setCell ⟨gb265, 1, none⟩ (.int .i64 t262)).heap[gb250]? = some (.cells #[.int .i64 t246, .int .i64 t247] 28 (0, 0))) := ⟨bc_ BK250⟩
      have n4_ : Aside0 (((((w163.setCell ⟨gb264, 0, none⟩ (.int .i64 t259)).setCell ⟨gb264, 1, none⟩ (.int .i64 t260)).setCell ⟨gb265, 0, none⟩ (.int .i64 t261)).setCell ⟨gb265, 1, none⟩ (.int .i64 t262)).heap[gb258]? = some (.cells #[.int .i64 ((rd_T30 x246000_1 t254).f0.f0), .int .i64 ((rd_T30 x246000_1 t254).f0.f1)] 28 (0, 0))) := ⟨bc_ BK258⟩
      have n5_ : Aside0 (((((w163.setCell ⟨gb264, 0, none⟩ (.int .i64 t259)).setCell ⟨gb264, 1, none⟩ (.int .i64 t260)).setCell ⟨gb265, 0, none⟩ (.int .i64 t261)).setCell ⟨gb265, 1, none⟩ (.int .i64 t262)).heap[gb264]? = some (.cells #[.int .i64 t259, .int .i64 t260] 28 (0, 0))) := ⟨by refine bd_ ?_; refine blk_far ?_ NB264_265.out _; refine bd_ ?_; refine blk_far ?_ NB264_265.out _; refine bd_ ?_; refine blk_put (cs := #[.int .i64 t259, .int .i64 0]) ?_ 1 _ rfl; refine bd_ ?_; refine blk_put (cs := #[.int .i64 0, .int .i64 0]) ?_ 0 _ rfl; refine bd_ ?_; exact BK264.out⟩
      have n6_ : Aside0 (((((w163.setCell ⟨gb264, 0, none⟩ (.int .i64 t259)).setCell ⟨gb264, 1, none⟩ (.int .i64 t260)).setCell ⟨gb265, 0, none⟩ (.int .i64 t261)).setCell ⟨gb265, 1, none⟩ (.int .i64 t262)).heap[gb265]? = some (.cells #[.int .i64 t261, .int .i64 t262] 28 (0, 0))) := ⟨by refine bd_ ?_; refine blk_put (cs := #[.int .i64 t261, .int .i64 0]) ?_ 1 _ rfl; refine bd_ ?_; refine blk_put (cs := #[.int .i64 0, .int .i64 0]) ?_ 0 _ rfl; refine bd_ ?_; refine blk_far ?_ NB265_264.out _; refine bd_ ?_; refine blk_far ?_ NB265_264.out _; refine bd_ ?_; exact BK265.out⟩
      have n7_ : Aside0 (IsS112 w0 ((((w163.setCell ⟨gb264, 0, none⟩ (.int .i64 t259)).setCell ⟨gb264, 1, none⟩ (.int .i64 t260)).setCell ⟨gb265, 0, none⟩ (.int .i64 t261)).setCell ⟨gb265, 1, none⟩ (.int .i64 t262)) g s0_0 t255 t256) := ⟨is112_⟩
      have n8_ : Aside0 (KeepBut w ((((w163.setCell ⟨gb264, 0, none⟩ (.int .i64 t259)).setCell ⟨gb264, 1, none⟩ (.int .i64 t260)).setCell ⟨gb265, 0, none⟩ (.int .i64 t261)).setCell ⟨gb265, 1, none⟩ (.int .i64 t262)) g none) := ⟨kx_ HK⟩
      have n9_ : Aside0 (Below w0.heap.size w0 ((((w163.setCell ⟨gb264, 0, none⟩ (.int .i64 t259)).setCell ⟨gb264, 1, none⟩ (.int .i64 t260)).setCell ⟨gb265, 0, none⟩ (.int .i64 t261)).setCell ⟨gb265, 1, none⟩ (.int .i64 t262))) := ⟨bw112_⟩
      (try clear HO_246000)
      (try clear BK244)
      (try clear BK245)
      (try clear BK250)
      (try clear BK258)
      (try clear BK264)
      (try clear BK265)
      (try clear HI0)
      (try clear HK)
      (try clear HB)
      generalize ((((w163.setCell ⟨gb264, 0, none⟩ (.int .i64 t259)).setCell ⟨gb264, 1, none⟩ (.int .i64 t260)).setCell ⟨gb265, 0, none⟩ (.int .i64 t261)).setCell ⟨gb265, 1, none⟩ (.int .i64 t262)) = w177 at n0_ n1_ n2_ n3_ n4_ n5_ n6_ n7_ n8_ n9_ ⊢
      have HO_246000 := n0_
      have BK244 := n1_
      have BK245 := n2_
      have BK250 := n3_
      have BK258 := n4_
      have BK264 := n5_
      have BK265 := n6_
      have HI0 := n7_
      have HK := n8_
      have HB := n9_
      clear n0_ n1_ n2_ n3_ n4_ n5_ n6_ n7_ n8_ n9_
      replace HO_246000 := Aside0.mk (Kd.R_drew HO_246000.out)
      replace BK244 := ad_ BK244
      replace BK245 := ad_ BK245
      replace BK250 := ad_ BK250
      replace BK258 := ad_ BK258
      replace BK264 := ad_ BK264
      replace BK265 := ad_ BK265
      replace HI0 := Aside0.mk (IsS112.drew HI0.out)
      replace HK := Aside0.mk (keep_drew HK.out)
      replace HB := Aside0.mk (below_drew1 HB.out)
      refine start_ (n := 12) (S := fun w' => w'.cell? ⟨gb245, 0, none⟩ = some (.slice (some ad257) x246000_1.length co41) ∧ w'.cell? ⟨gb250, 0, none⟩ = some (.int .i64 t246) ∧ w'.cell? ⟨gb250, 1, none⟩ = some (.int .i64 t247)) (ds := []) ba9_0 (by kernel_rfl) rfl rfl ⟨(blk_cell BK245.out 0).trans rfl, (blk_cell BK250.out 0).trans rfl, (blk_cell BK250.out 1).trans rfl⟩ (fun hHeld => ?_); refine with_tabW spec_l02DrawTable.tab13 spec_l02DrawTable.bits13 (fun HT_ HW_ => ?_)
      generalize w177.drew = w178 at HO_246000 BK244 BK245 BK250 BK258 BK264 BK265 HI0 HK HB hHeld ⊢
      refine pz_ 2 55 ba9_17 HT_ ?_
      refine pt_ 0 53 ba9_2 HT_ HW_ hHeld ?_
      refine pt_ 1 54 ba9_18 HT_ HW_ hHeld ?_
      refine join_ (σ := Value × Nat) 2 ba9_12 (fun s_ => [(56, .int .i64 t285), (58, .tuple #[.agg #[s_.1], .bool t291]), (12, .pointer (some ⟨s_.2, 0, none⟩)), (57, .agg #[.int .i64 t246, .int .i64 t247, .int .i64 t285]), (52, .tuple #[.agg #[s_.1], .bool t291]), (59, .agg #[s_.1]), (60, .bool t291)]) (fun s_ w' => (w'.cell? ⟨gb245, 0, none⟩ = some (.slice (some ad257) x246000_1.length co41) ∧ w'.cell? ⟨gb250, 0, none⟩ = some (.int .i64 t246) ∧ w'.cell? ⟨gb250, 1, none⟩ = some (.int .i64 t247)) ∧ (Kd.R k30 30 w' w.heap.size (fun k_ => some k_ ≠ (.slice (some ad257) x246000_1.length co41 : Value).ownBlock) s_.1 t288) ∧ (Kd.R k30 30 w' w.heap.size (fun k_ => some k_ ≠ (s_.1 : Value).ownBlock) (.slice (some ad257) x246000_1.length co41) x246000_1) ∧ (w'.heap[gb244]? = some (.cells #[.slice none 0 0] 26 (0, 0))) ∧ (w'.heap[gb245]? = some (.cells #[.slice (some ad257) x246000_1.length co41] 26 (0, 0))) ∧ (w'.heap[gb250]? = some (.cells #[.int .i64 t246, .int .i64 t247] 28 (0, 0))) ∧ (w'.heap[gb258]? = some (.cells #[.int .i64 ((rd_T30 x246000_1 t254).f0.f0), .int .i64 ((rd_T30 x246000_1 t254).f0.f1)] 28 (0, 0))) ∧ (w'.heap[gb264]? = some (.cells #[.int .i64 t259, .int .i64 t260] 28 (0, 0))) ∧ (w'.heap[gb265]? = some (.cells #[.int .i64 t261, .int .i64 t262] 28 (0, 0))) ∧ (w'.heap[s_.2]? = some (.cells #[.slice none 0 0] 26 (0, 0))) ∧ (w.heap.size ≤ s_.2) ∧ (w0.heap.size ≤ s_.2) ∧ (g ≠ s_.2) ∧ (s_.2 ≠ g) ∧ (gb244 ≠ s_.2) ∧ (s_.2 ≠ gb244) ∧ (gb245 ≠ s_.2) ∧ (s_.2 ≠ gb245) ∧ (gb250 ≠ s_.2) ∧ (s_.2 ≠ gb250) ∧ (gb258 ≠ s_.2) ∧ (s_.2 ≠ gb258) ∧ (gb264 ≠ s_.2) ∧ (s_.2 ≠ gb264) ∧ (gb265 ≠ s_.2) ∧ (s_.2 ≠ gb265) ∧ (IsS112 w0 w' g s0_0 t286 t287) ∧ (KeepBut w w' g none) ∧ (Below w0.heap.size w0 w')) ?_ ?_
      rotate_left
      ·intro hCont
       refine two_ (i := 3) (j := 9) (Ni := some 56) (Nj := some 12) ba9_4 ba9_19 rfl rfl rfl rfl (two_of HT_.out (by kernel_rfl)) (by decide) (by decide) (fun K hK => ?_) (fun K hK => ?_)
       ·skip
        refine gz_ Try.func44 #[.pointer (some ⟨g, 0, none⟩), .int .i64 4] ?_
        with_reducible refine (spec_l01Below.calls g s0_0 t255 t256 4 t285 t286 t287 w0 _ ?side1 ?side2 A147.out).mono ?_
        (case side1 => exact is112_)
        (case side2 => exact bw112_)
        rintro e w179 ⟨rfl, hi, hb, hk⟩
        refine ⟨_, rfl, ?_⟩
        replace HO_246000 := ak112_ HO_246000 (show IsS112 w0 _ g s0_0 t255 t256 from is112_) hk
        replace BK244 := kb_ BK244 NB244_0 hk
        replace BK245 := kb_ BK245 NB245_0 hk
        replace BK250 := kb_ BK250 NB250_0 hk
        replace BK258 := kb_ BK258 NB258_0 hk
        replace BK264 := kb_ BK264 NB264_0 hk
        replace BK265 := kb_ BK265 NB265_0 hk
        replace HK := kt_ HK hk
        replace HB := Aside0.mk (hb)
        replace HI0 := Aside0.mk (hi)
        (try clear hb)
        (try clear hb2)
        (try clear hk)
        (try clear hi)
        refine hK.out _ _ ⟨(blk_cell BK245.out 0).trans rfl, (blk_cell BK250.out 0).trans rfl, (blk_cell BK250.out 1).trans rfl⟩ (fun hHeld => ?_)
        clear hK K
        refine nz_ 56 ?_
        refine pz_ 4 57 ba9_5 HT_ ?_
        refine two_ (i := 5) (j := 9) (Ni := some 58) (Nj := some 12) ba9_6 ba9_20 rfl rfl rfl rfl (two_of HT_.out (by kernel_rfl)) (by decide) (by decide) (fun K hK => ?_) (fun K hK => ?_)
        ·skip
         refine gz_ Try.func10 #[.agg #[.slice (some ad257) x246000_1.length co41], .agg #[.int .i64 t246, .int .i64 t247, .int .i64 t285]] ?_
         with_reducible refine (spec_PutRoute.calls kj9 _ _ x246000_1 t246 t247 t285 t288 t291 _ ?side1 ?side2 A148.out).mono ?_
         (case side1 => exact rc_ HO_246000)
         (case side2 => exact (Kd.R_reads' HO_246000.out).2.1)
         rintro e w180 ⟨v289, rfl, ho0, hb⟩
         refine ⟨_, rfl, ?_⟩
         have HO290 := Aside0.mk (Kd.R_lower (Kd.R_new' ho0 (Kd.R_lt (hd_ HO_246000))) (keep_size (w := w) (g := g) (row := none) (kx_ HK)))
         replace HO_246000 := Aside0.mk (Kd.R_elder' (hd_ HO_246000) (Kd.R_base ho0) hb)
         replace BK244 := ab_ BK244 hb
         replace BK245 := ab_ BK245 hb
         replace BK250 := ab_ BK250 hb
         replace BK258 := ab_ BK258 hb
         replace BK264 := ab_ BK264 hb
         replace BK265 := ab_ BK265 hb
         replace HK := kt_ HK (KeepBut.of_below hb g none)
         replace HB := bs112_ hb
         replace HI0 := Aside0.mk (IsS112.below is112_ hb)
         (try clear hb)
         (try clear hb2)
         (try clear hk)
         (try clear hi)
         (try clear ho0)
         refine hK.out _ _ ⟨(blk_cell BK245.out 0).trans rfl, (blk_cell BK250.out 0).trans rfl, (blk_cell BK250.out 1).trans rfl⟩ (fun hHeld => ?_)
         clear hK K
         refine nz_ 58 ?_
         refine pz_ 6 52 ba9_8 HT_ ?_
         refine pz_ 7 59 ba9_10 HT_ ?_
         refine pz_ 8 60 ba9_11 HT_ ?_
         refine one_ (i := 9) (N := some 12) ba9_12 rfl rfl (one_of HT_.out (by kernel_rfl)) (by decide) (fun K hK => ?_)
         refine box_step ?hg (N := 12) ?hd (cs := #[.slice none 0 0]) (t := 26) ?hr ?_; (case hd => rfl); (case hg => rfl); (case hr => first | (go_simp; done) | (go_simp; rfl))
         intro gb292 hg w181 hbox hb
         have BK292 := Aside0.mk hbox
         have GW292 := gw_ HK hg
         have GE292 := gv_ HW0 HK hg
         have NB244_292 := nl_ BK244 hg
         have NB292_244 := ng_ BK244 hg
         have NB245_292 := nl_ BK245 hg
         have NB292_245 := ng_ BK245 hg
         have NB250_292 := nl_ BK250 hg
         have NB292_250 := ng_ BK250 hg
         have NB258_292 := nl_ BK258 hg
         have NB292_258 := ng_ BK258 hg
         have NB264_292 := nl_ BK264 hg
         have NB292_264 := ng_ BK264 hg
         have NB265_292 := nl_ BK265 hg
         have NB292_265 := ng_ BK265 hg
         have NB0_292 := Aside0.mk ((by rw [hg]; exact Nat.ne_of_lt (IsS112.lt (show IsS112 w0 _ g s0_0 t286 t287 from is112_)) : g ≠ gb292))
         have NB292_0 := Aside0.mk ((by rw [hg]; exact Nat.ne_of_gt (IsS112.lt (show IsS112 w0 _ g s0_0 t286 t287 from is112_)) : gb292 ≠ g))
         replace HO_246000 := rb_ HO_246000 hb
         replace HO290 := rb_ HO290 hb
         replace HB := bs112_ hb
         replace HK := kt_ HK (KeepBut.of_below hb g none)
         replace BK244 := ab_ BK244 hb
         replace BK245 := ab_ BK245 hb
         replace BK250 := ab_ BK250 hb
         replace BK258 := ab_ BK258 hb
         replace BK264 := ab_ BK264 hb
         replace BK265 := ab_ BK265 hb
         replace HI0 := Aside0.mk (IsS112.below is112_ hb)
         clear hb hbox hg
         refine hK.out _ _ ⟨(blk_cell BK245.out 0).trans rfl, (blk_cell BK250.out 0).trans rfl, (blk_cell BK250.out 1).trans rfl⟩ (fun hHeld => ?_)
         clear hK K
         refine nz_ 12 ?_
         exact norm_ (by simp only [putAll, Act.put, List.setIfInBounds_toArray, List.set_cons_zero, List.set_cons_succ]) (hCont (v289, gb292) _ ⟨hHeld, (by (with_reducible repeat (first | apply Kd.R_alloc | apply Kd.R_drewN | apply Kd.R_drew)); exact Kd.R_mono HO290.out (fun _ hk => hk.2)), (by (with_reducible repeat (first | apply Kd.R_alloc | apply Kd.R_drewN | apply Kd.R_drew)); exact Kd.R_mono HO_246000.out (fun _ hk => hk.2)), (bx_ BK244), (bx_ BK245), (bx_ BK250), (bx_ BK258), (bx_ BK264), (bx_ BK265), (bx_ BK292), GW292.out, GE292.out, NB0_292.out, NB292_0.out, NB244_292.out, NB292_244.out, NB245_292.out, NB292_245.out, NB250_292.out, NB292_250.out, NB258_292.out, NB292_258.out, NB264_292.out, NB292_264.out, NB265_292.out, NB292_265.out, (is112_), (kx_ HK), (bw112_)⟩)
        ·skip
         refine box_step ?hg (N := 12) ?hd (cs := #[.slice none 0 0]) (t := 26) ?hr ?_; (case hd => rfl); (case hg => rfl); (case hr => first | (go_simp; done) | (go_simp; rfl))
         intro gb292 hg w180 hbox hb
         have BK292 := Aside0.mk hbox
         have GW292 := gw_ HK hg
         have GE292 := gv_ HW0 HK hg
         have NB244_292 := nl_ BK244 hg
         have NB292_244 := ng_ BK244 hg
         have NB245_292 := nl_ BK245 hg
         have NB292_245 := ng_ BK245 hg
         have NB250_292 := nl_ BK250 hg
         have NB292_250 := ng_ BK250 hg
         have NB258_292 := nl_ BK258 hg
         have NB292_258 := ng_ BK258 hg
         have NB264_292 := nl_ BK264 hg
         have NB292_264 := ng_ BK264 hg
         have NB265_292 := nl_ BK265 hg
         have NB292_265 := ng_ BK265 hg
         have NB0_292 := Aside0.mk ((by rw [hg]; exact Nat.ne_of_lt (IsS112.lt (show IsS112 w0 _ g s0_0 t286 t287 from is112_)) : g ≠ gb292))
         have NB292_0 := Aside0.mk ((by rw [hg]; exact Nat.ne_of_gt (IsS112.lt (show IsS112 w0 _ g s0_0 t286 t287 from is112_)) : gb292 ≠ g))
         replace HO_246000 := rb_ HO_246000 hb
         replace HB := bs112_ hb
         replace HK := kt_ HK (KeepBut.of_below hb g none)
         replace BK244 := ab_ BK244 hb
         replace BK245 := ab_ BK245 hb
         replace BK250 := ab_ BK250 hb
         replace BK258 := ab_ BK258 hb
         replace BK264 := ab_ BK264 hb
         replace BK265 := ab_ BK265 hb
         replace HI0 := Aside0.mk (IsS112.below is112_ hb)
         clear hb hbox hg
         refine hK.out _ _ ⟨(blk_cell BK245.out 0).trans rfl, (blk_cell BK250.out 0).trans rfl, (blk_cell BK250.out 1).trans rfl⟩ (fun hHeld => ?_)
         clear hK K
         refine nz_ 12 ?_
         refine one_ (i := 5) (N := some 58) ba9_21 rfl rfl (one_of HT_.out (by kernel_rfl)) (by decide) (fun K hK => ?_)
         refine gz_ Try.func10 #[.agg #[.slice (some ad257) x246000_1.length co41], .agg #[.int .i64 t246, .int .i64 t247, .int .i64 t285]] ?_
         with_reducible refine (spec_PutRoute.calls kj9 _ _ x246000_1 t246 t247 t285 t288 t291 _ ?side1 ?side2 A148.out).mono ?_
         (case side1 => exact rc_ HO_246000)
         (case side2 => exact (Kd.R_reads' HO_246000.out).2.1)
         rintro e w181 ⟨v289, rfl, ho0, hb⟩
         refine ⟨_, rfl, ?_⟩
         have HO290 := Aside0.mk (Kd.R_lower (Kd.R_new' ho0 (Kd.R_lt (hd_ HO_246000))) (keep_size (w := w) (g := g) (row := none) (kx_ HK)))
         replace HO_246000 := Aside0.mk (Kd.R_elder' (hd_ HO_246000) (Kd.R_base ho0) hb)
         replace BK244 := ab_ BK244 hb
         replace BK245 := ab_ BK245 hb
         replace BK250 := ab_ BK250 hb
         replace BK258 := ab_ BK258 hb
         replace BK264 := ab_ BK264 hb
         replace BK265 := ab_ BK265 hb
         replace BK292 := ab_ BK292 hb
         replace HK := kt_ HK (KeepBut.of_below hb g none)
         replace HB := bs112_ hb
         replace HI0 := Aside0.mk (IsS112.below is112_ hb)
         (try clear hb)
         (try clear hb2)
         (try clear hk)
         (try clear hi)
         (try clear ho0)
         refine hK.out _ _ ⟨(blk_cell BK245.out 0).trans rfl, (blk_cell BK250.out 0).trans rfl, (blk_cell BK250.out 1).trans rfl⟩ (fun hHeld => ?_)
         clear hK K
         refine nz_ 58 ?_
         refine pz_ 6 52 ba9_22 HT_ ?_
         refine pz_ 7 59 ba9_23 HT_ ?_
         refine pz_ 8 60 ba9_12 HT_ ?_
         exact norm_ (by simp only [putAll, Act.put, List.setIfInBounds_toArray, List.set_cons_zero, List.set_cons_succ]) (hCont (v289, gb292) _ ⟨hHeld, (by (with_reducible repeat (first | apply Kd.R_alloc | apply Kd.R_drewN | apply Kd.R_drew)); exact Kd.R_mono HO290.out (fun _ hk => hk.2)), (by (with_reducible repeat (first | apply Kd.R_alloc | apply Kd.R_drewN | apply Kd.R_drew)); exact Kd.R_mono HO_246000.out (fun _ hk => hk.2)), (bx_ BK244), (bx_ BK245), (bx_ BK250), (bx_ BK258), (bx_ BK264), (bx_ BK265), (bx_ BK292), GW292.out, GE292.out, NB0_292.out, NB292_0.out, NB244_292.out, NB292_244.out, NB245_292.out, NB292_245.out, NB250_292.out, NB292_250.out, NB258_292.out, NB292_258.out, NB264_292.out, NB292_264.out, NB265_292.out, NB292_265.out, (is112_), (kx_ HK), (bw112_)⟩)
       ·skip
        refine box_step ?hg (N := 12) ?hd (cs := #[.slice none 0 0]) (t := 26) ?hr ?_; (case hd => rfl); (case hg => rfl); (case hr => first | (go_simp; done) | (go_simp; rfl))
        intro gb292 hg w179 hbox hb
        have BK292 := Aside0.mk hbox
        have GW292 := gw_ HK hg
        have GE292 := gv_ HW0 HK hg
        have NB244_292 := nl_ BK244 hg
        have NB292_244 := ng_ BK244 hg
        have NB245_292 := nl_ BK245 hg
        have NB292_245 := ng_ BK245 hg
        have NB250_292 := nl_ BK250 hg
        have NB292_250 := ng_ BK250 hg
        have NB258_292 := nl_ BK258 hg
        have NB292_258 := ng_ BK258 hg
        have NB264_292 := nl_ BK264 hg
        have NB292_264 := ng_ BK264 hg
        have NB265_292 := nl_ BK265 hg
        have NB292_265 := ng_ BK265 hg
        have NB0_292 := Aside0.mk ((by rw [hg]; exact Nat.ne_of_lt (IsS112.lt (show IsS112 w0 _ g s0_0 t255 t256 from is112_)) : g ≠ gb292))
        have NB292_0 := Aside0.mk ((by rw [hg]; exact Nat.ne_of_gt (IsS112.lt (show IsS112 w0 _ g s0_0 t255 t256 from is112_)) : gb292 ≠ g))
        replace HO_246000 := rb_ HO_246000 hb
        replace HB := bs112_ hb
        replace HK := kt_ HK (KeepBut.of_below hb g none)
        replace BK244 := ab_ BK244 hb
        replace BK245 := ab_ BK245 hb
        replace BK250 := ab_ BK250 hb
        replace BK258 := ab_ BK258 hb
        replace BK264 := ab_ BK264 hb
        replace BK265 := ab_ BK265 hb
        replace HI0 := Aside0.mk (IsS112.below is112_ hb)
        clear hb hbox hg
        refine hK.out _ _ ⟨(blk_cell BK245.out 0).trans rfl, (blk_cell BK250.out 0).trans rfl, (blk_cell BK250.out 1).trans rfl⟩ (fun hHeld => ?_)
        clear hK K
        refine nz_ 12 ?_
        refine one_ (i := 3) (N := some 56) ba9_24 rfl rfl (one_of HT_.out (by kernel_rfl)) (by decide) (fun K hK => ?_)
        refine gz_ Try.func44 #[.pointer (some ⟨g, 0, none⟩), .int .i64 4] ?_
        with_reducible refine (spec_l01Below.calls g s0_0 t255 t256 4 t285 t286 t287 w0 _ ?side1 ?side2 A147.out).mono ?_
        (case side1 => exact is112_)
        (case side2 => exact bw112_)
        rintro e w180 ⟨rfl, hi, hb, hk⟩
        refine ⟨_, rfl, ?_⟩
        replace HO_246000 := ak112_ HO_246000 (show IsS112 w0 _ g s0_0 t255 t256 from is112_) hk
        replace BK244 := kb_ BK244 NB244_0 hk
        replace BK245 := kb_ BK245 NB245_0 hk
        replace BK250 := kb_ BK250 NB250_0 hk
        replace BK258 := kb_ BK258 NB258_0 hk
        replace BK264 := kb_ BK264 NB264_0 hk
        replace BK265 := kb_ BK265 NB265_0 hk
        replace BK292 := kb_ BK292 NB292_0 hk
        replace HK := kt_ HK hk
        replace HB := Aside0.mk (hb)
        replace HI0 := Aside0.mk (hi)
        (try clear hb)
        (try clear hb2)
        (try clear hk)
        (try clear hi)
        refine hK.out _ _ ⟨(blk_cell BK245.out 0).trans rfl, (blk_cell BK250.out 0).trans rfl, (blk_cell BK250.out 1).trans rfl⟩ (fun hHeld => ?_)
        clear hK K
        refine nz_ 56 ?_
        refine pz_ 4 57 ba9_20 HT_ ?_
        refine one_ (i := 5) (N := some 58) ba9_21 rfl rfl (one_of HT_.out (by kernel_rfl)) (by decide) (fun K hK => ?_)
        refine gz_ Try.func10 #[.agg #[.slice (some ad257) x246000_1.length co41], .agg #[.int .i64 t246, .int .i64 t247, .int .i64 t285]] ?_
        with_reducible refine (spec_PutRoute.calls kj9 _ _ x246000_1 t246 t247 t285 t288 t291 _ ?side1 ?side2 A148.out).mono ?_
        (case side1 => exact rc_ HO_246000)
        (case side2 => exact (Kd.R_reads' HO_246000.out).2.1)
        rintro e w181 ⟨v289, rfl, ho0, hb⟩
        refine ⟨_, rfl, ?_⟩
        have HO290 := Aside0.mk (Kd.R_lower (Kd.R_new' ho0 (Kd.R_lt (hd_ HO_246000))) (keep_size (w := w) (g := g) (row := none) (kx_ HK)))
        replace HO_246000 := Aside0.mk (Kd.R_elder' (hd_ HO_246000) (Kd.R_base ho0) hb)
        replace BK244 := ab_ BK244 hb
        replace BK245 := ab_ BK245 hb
        replace BK250 := ab_ BK250 hb
        replace BK258 := ab_ BK258 hb
        replace BK264 := ab_ BK264 hb
        replace BK265 := ab_ BK265 hb
        replace BK292 := ab_ BK292 hb
        replace HK := kt_ HK (KeepBut.of_below hb g none)
        replace HB := bs112_ hb
        replace HI0 := Aside0.mk (IsS112.below is112_ hb)
        (try clear hb)
        (try clear hb2)
        (try clear hk)
        (try clear hi)
        (try clear ho0)
        refine hK.out _ _ ⟨(blk_cell BK245.out 0).trans rfl, (blk_cell BK250.out 0).trans rfl, (blk_cell BK250.out 1).trans rfl⟩ (fun hHeld => ?_)
        clear hK K
        refine nz_ 58 ?_
        refine pz_ 6 52 ba9_22 HT_ ?_
        refine pz_ 7 59 ba9_23 HT_ ?_
        refine pz_ 8 60 ba9_12 HT_ ?_
        exact norm_ (by simp only [putAll, Act.put, List.setIfInBounds_toArray, List.set_cons_zero, List.set_cons_succ]) (hCont (v289, gb292) _ ⟨hHeld, (by (with_reducible repeat (first | apply Kd.R_alloc | apply Kd.R_drewN | apply Kd.R_drew)); exact Kd.R_mono HO290.out (fun _ hk => hk.2)), (by (with_reducible repeat (first | apply Kd.R_alloc | apply Kd.R_drewN | apply Kd.R_drew)); exact Kd.R_mono HO_246000.out (fun _ hk => hk.2)), (bx_ BK244), (bx_ BK245), (bx_ BK250), (bx_ BK258), (bx_ BK264), (bx_ BK265), (bx_ BK292), GW292.out, GE292.out, NB0_292.out, NB292_0.out, NB244_292.out, NB292_244.out, NB245_292.out, NB292_245.out, NB250_292.out, NB292_250.out, NB258_292.out, NB292_258.out, NB264_292.out, NB292_264.out, NB265_292.out, NB292_265.out, (is112_), (kx_ HK), (bw112_)⟩)
      rintro ⟨v289, gb292⟩ w182 ⟨hS_, h0_, h1_, h2_, h3_, h4_, h5_, h6_, h7_, h8_, h9_, h10_, h11_, h12_, h13_, h14_, h15_, h16_, h17_, h18_, h19_, h20_, h21_, h22_, h23_, h24_, h25_, h26_, h27_⟩
      have HO290 : Aside0 (Kd.R k30 30 w182 w.heap.size (fun k_ => some k_ ≠ (.slice (some ad257) x246000_1.length co41 : Value).ownBlock) v289 t288) := ⟨h0_⟩
      have BK292 : Aside0 (w182.heap[gb292]? = some (.cells #[.slice none 0 0] 26 (0, 0))) := ⟨h8_⟩
      have GW292 : Aside0 (w.heap.size ≤ gb292) := ⟨h9_⟩
      have GE292 : Aside0 (w0.heap.size ≤ gb292) := ⟨h10_⟩
      have NB0_292 : Aside0 (g ≠ gb292) := ⟨h11_⟩
      have NB292_0 : Aside0 (gb292 ≠ g) := ⟨h12_⟩
      have NB244_292 : Aside0 (gb244 ≠ gb292) := ⟨h13_⟩
      have NB292_244 : Aside0 (gb292 ≠ gb244) := ⟨h14_⟩
      have NB245_292 : Aside0 (gb245 ≠ gb292) := ⟨h15_⟩
      have NB292_245 : Aside0 (gb292 ≠ gb245) := ⟨h16_⟩
      have NB250_292 : Aside0 (gb250 ≠ gb292) := ⟨h17_⟩
      have NB292_250 : Aside0 (gb292 ≠ gb250) := ⟨h18_⟩
      have NB258_292 : Aside0 (gb258 ≠ gb292) := ⟨h19_⟩
      have NB292_258 : Aside0 (gb292 ≠ gb258) := ⟨h20_⟩
      have NB264_292 : Aside0 (gb264 ≠ gb292) := ⟨h21_⟩
      have NB292_264 : Aside0 (gb292 ≠ gb264) := ⟨h22_⟩
      have NB265_292 : Aside0 (gb265 ≠ gb292) := ⟨h23_⟩
      have NB292_265 : Aside0 (gb292 ≠ gb265) := ⟨h24_⟩
      replace HO_246000 : Aside0 (Kd.R k30 30 w182 w.heap.size (fun k_ => some k_ ≠ (v289 : Value).ownBlock) (.slice (some ad257) x246000_1.length co41) x246000_1) := ⟨h1_⟩
      replace BK244 : Aside0 (w182.heap[gb244]? = some (.cells #[.slice none 0 0] 26 (0, 0))) := ⟨h2_⟩
      replace BK245 : Aside0 (w182.heap[gb245]? = some (.cells #[.slice (some ad257) x246000_1.length co41] 26 (0, 0))) := ⟨h3_⟩
      replace BK250 : Aside0 (w182.heap[gb250]? = some (.cells #[.int .i64 t246, .int .i64 t247] 28 (0, 0))) := ⟨h4_⟩
      replace BK258 : Aside0 (w182.heap[gb258]? = some (.cells #[.int .i64 ((rd_T30 x246000_1 t254).f0.f0), .int .i64 ((rd_T30 x246000_1 t254).f0.f1)] 28 (0, 0))) := ⟨h5_⟩
      replace BK264 : Aside0 (w182.heap[gb264]? = some (.cells #[.int .i64 t259, .int .i64 t260] 28 (0, 0))) := ⟨h6_⟩
      replace BK265 : Aside0 (w182.heap[gb265]? = some (.cells #[.int .i64 t261, .int .i64 t262] 28 (0, 0))) := ⟨h7_⟩
      replace HI0 : Aside0 (IsS112 w0 w182 g s0_0 t286 t287) := ⟨h25_⟩
      replace HK : Aside0 (KeepBut w w182 g none) := ⟨h26_⟩
      replace HB : Aside0 (Below w0.heap.size w0 w182) := ⟨h27_⟩
      clear h0_ h1_ h2_ h3_ h4_ h5_ h6_ h7_ h8_ h9_ h10_ h11_ h12_ h13_ h14_ h15_ h16_ h17_ h18_ h19_ h20_ h21_ h22_ h23_ h24_ h25_ h26_ h27_
      have hHeld : w182.cell? ⟨gb245, 0, none⟩ = some (.slice (some ad257) x246000_1.length co41) ∧ w182.cell? ⟨gb250, 0, none⟩ = some (.int .i64 t246) ∧ w182.cell? ⟨gb250, 1, none⟩ = some (.int .i64 t247) := hS_
      obtain ⟨Ao183, co183, eo183⟩ := Kd.R_slice HO290.out
      (first | subst eo183 | (injection eo183 with f1_ f2_ f3_; have f4_ := f1_.symm; have f5_ := f3_.symm; clear f1_ f2_ f3_; subst f4_; subst f5_))
      refine norm_ (a' := ?_) ?_ ?_
      rotate_left; · simp only [putAll, Act.put, List.setIfInBounds_toArray, List.set_cons_zero, List.set_cons_succ]; rfl
      refine one_ (i := 10) (N := none) ba9_7 rfl rfl (one_of HT_.out (by kernel_rfl)) (by decide) (fun K hK => ?_)
      have hs184 : w182.cell? ⟨gb292, 0, none⟩ = some (.slice none 0 0) := (blk_cell BK292.out 0).trans rfl
      have hfs184 := fz_ BK292 0
      have hns184_0 := NB244_292.out
      have hns184_1 := NB245_292.out
      have hns184_2 := NB250_292.out
      have hns184_3 := NB258_292.out
      have hns184_4 := NB264_292.out
      have hns184_5 := NB265_292.out
      have hms184_0 := NB292_244.out
      have hms184_1 := NB292_245.out
      have hms184_2 := NB292_250.out
      have hms184_3 := NB292_258.out
      have hms184_4 := NB292_264.out
      have hms184_5 := NB292_265.out
      refine skip_ (w1 := ?_) (by rfl) rfl ?_ ?_
      rotate_left; · go_simp; rfl
      refine hK.out _ _ ⟨((cell_far (p := ⟨gb292, _, none⟩) NB245_292.out _).trans (hHeld.1)), ((cell_far (p := ⟨gb292, _, none⟩) NB250_292.out _).trans (hHeld.2.1)), ((cell_far (p := ⟨gb292, _, none⟩) NB250_292.out _).trans (hHeld.2.2))⟩ (fun hHeld => ?_)
      clear hK K
      refine pz_ 11 13 ba9_16 HT_ ?_
      refine done_ (done_of HT_.out (by kernel_rfl)) ?_
      have hnb185 := NB292_244.out
      have hnc185 := NB244_292.out
      have hnb186 := NB292_245.out
      have hnc186 := NB245_292.out
      have hnb187 := NB292_250.out
      have hnc187 := NB250_292.out
      have hnb188 := NB292_258.out
      have hnc188 := NB258_292.out
      have hnb189 := NB292_264.out
      have hnc189 := NB264_292.out
      have hnb190 := NB292_265.out
      have hnc190 := NB265_292.out
      have hnb191 := NB292_0.out
      have hnc191 := NB0_292.out
      have hcz192_0 := cz_ BK292 0 (.slice none 0 0)
      have hfz192_0 := fz_ BK292 0
      have hnb193 := NB245_244.out
      have hnc193 := NB244_245.out
      have hnb194 := NB245_250.out
      have hnc194 := NB250_245.out
      have hnb195 := NB245_0.out
      have hnc195 := NB0_245.out
      have hcz196_0 := cz_ BK245 0 (.slice (some ad257) x246000_1.length co41)
      have hfz196_0 := fz_ BK245 0
      try go_wp2
      go_roundg kj9
      case measure => have := HK1.out; have := HJ9.out; omega
      case rel => exact ⟨(wrap64 (x6_1 + 1)), (t286), (t287), (t288), (.slice Ao183 t288.length co183), er_, H', ⟨by have := HK1.out; have := HJ9.out; omega⟩, ⟨by (with_reducible repeat (first | apply Kd.R_alloc | apply Kd.R_drewN | apply Kd.R_drew)); exact Kd.R_mono (Kd.R_far (p := ⟨gb245, 0, none⟩) (Kd.R_far (p := ⟨gb292, 0, none⟩) (Kd.R_types (Kd.R_types HO290.out BK292.out (by decide)) BK245.out (by decide)) (fun _ hk => hk.1.2) (.slice Ao183 t288.length co183)) (fun _ hk => hk.2) (.slice Ao183 t288.length co183)) (fun _ hk => trivial)⟩, ⟨bc_ BK244⟩, ⟨by refine bd_ ?_; refine blk_put (cs := #[.slice (some ad257) x246000_1.length co41]) ?_ 0 _ rfl; refine bd_ ?_; refine blk_far ?_ NB245_292.out _; refine bd_ ?_; exact BK245.out⟩, ⟨is112_⟩, ⟨kx_ HK⟩, ⟨bw112_⟩⟩
     subst c35
     rw [if_pos rfl] at H
     replace H := Option.bind_eq_some_iff.mp H
     obtain ⟨⟨t266, t267, t268⟩, A360, H⟩ := H
     have A36 := Aside0.mk A360
     clear A360
     by_cases c37 : t266 = true
     rotate_left
     ·replace c37 := Bool.eq_false_iff.mpr c37
      subst c37
      rw [if_neg (show ¬ (false = true) by decide)] at H
      replace H := Option.bind_eq_some_iff.mp H
      obtain ⟨⟨t277, t278, t279⟩, A940, H⟩ := H
      have A94 := Aside0.mk A940
      clear A940
      replace H := Option.bind_eq_some_iff.mp H
      obtain ⟨⟨t280, t283⟩, A950, H⟩ := H
      have A95 := Aside0.mk A950
      clear A950
      have H' := Aside0.mk H
      clear H
      refine skip_ (w1 := ?_) (by rfl) rfl ?_ ?_
      rotate_left; · go_simp; rfl
      refine hK.out _ _ ⟨((cell_far (p := ⟨gb258, _, none⟩) NB245_258.out _).trans (((cell_far (p := ⟨gb258, _, none⟩) NB245_258.out _).trans (hHeld.1)))), ((cell_far (p := ⟨gb258, _, none⟩) (by first | exact Kd.own_blk (Kd.R_ne HO_246000.out BK258.out (by decide)) | (rw [add_block]; exact Kd.own_blk (Kd.R_ne HO_246000.out BK258.out (by decide))) | (show (Addr.add _ _).block ≠ _; rw [add_block]; exact Kd.own_blk (Kd.R_ne HO_246000.out BK258.out (by decide))) | (dsimp only; exact Kd.own_blk (Kd.R_ne HO_246000.out BK258.out (by decide)))) _).trans (((cell_far (p := ⟨gb258, _, none⟩) (by first | exact Kd.own_blk (Kd.R_ne HO_246000.out BK258.out (by decide)) | (rw [add_block]; exact Kd.own_blk (Kd.R_ne HO_246000.out BK258.out (by decide))) | (show (Addr.add _ _).block ≠ _; rw [add_block]; exact Kd.own_blk (Kd.R_ne HO_246000.out BK258.out (by decide))) | (dsimp only; exact Kd.own_blk (Kd.R_ne HO_246000.out BK258.out (by decide)))) _).trans (hHeld.2.1)))), ((cell_far (p := ⟨gb258, _, none⟩) (by first | exact Kd.own_blk (Kd.R_ne HO_246000.out BK258.out (by decide)) | (rw [add_block]; exact Kd.own_blk (Kd.R_ne HO_246000.out BK258.out (by decide))) | (show (Addr.add _ _).block ≠ _; rw [add_block]; exact Kd.own_blk (Kd.R_ne HO_246000.out BK258.out (by decide))) | (dsimp only; exact Kd.own_blk (Kd.R_ne HO_246000.out BK258.out (by decide)))) _).trans (((cell_far (p := ⟨gb258, _, none⟩) (by first | exact Kd.own_blk (Kd.R_ne HO_246000.out BK258.out (by decide)) | (rw [add_block]; exact Kd.own_blk (Kd.R_ne HO_246000.out BK258.out (by decide))) | (show (Addr.add _ _).block ≠ _; rw [add_block]; exact Kd.own_blk (Kd.R_ne HO_246000.out BK258.out (by decide))) | (dsimp only; exact Kd.own_blk (Kd.R_ne HO_246000.out BK258.out (by decide)))) _).trans (hHeld.2.2.1)))), ((cell_far (p := ⟨gb258, _, none⟩) (by first | exact Kd.own_blk (Kd.R_ne HO_246000.out BK258.out (by decide)) | (rw [add_block]; exact Kd.own_blk (Kd.R_ne HO_246000.out BK258.out (by decide))) | (show (Addr.add _ _).block ≠ _; rw [add_block]; exact Kd.own_blk (Kd.R_ne HO_246000.out BK258.out (by decide))) | (dsimp only; exact Kd.own_blk (Kd.R_ne HO_246000.out BK258.out (by decide)))) _).trans (((cell_far (p := ⟨gb258, _, none⟩) (by first | exact Kd.own_blk (Kd.R_ne HO_246000.out BK258.out (by decide)) | (rw [add_block]; exact Kd.own_blk (Kd.R_ne HO_246000.out BK258.out (by decide))) | (show (Addr.add _ _).block ≠ _; rw [add_block]; exact Kd.own_blk (Kd.R_ne HO_246000.out BK258.out (by decide))) | (dsimp only; exact Kd.own_blk (Kd.R_ne HO_246000.out BK258.out (by decide)))) _).trans (hHeld.2.2.2))))⟩ (fun hHeld => ?_)
      clear hK K
      refine done_ (done_of HT_.out (by kernel_rfl)) ?_
      have hnb103 := NB258_244.out
      have hnc103 := NB244_258.out
      have hnb104 := NB258_245.out
      have hnc104 := NB245_258.out
      have hnb105 := NB258_250.out
      have hnc105 := NB250_258.out
      have hnb106 := NB258_0.out
      have hnc106 := NB0_258.out
      have hcz107_0 := cz_ BK258 0 (.int .i64 0)
      have hcz107_1 := cz_ BK258 1 (.int .i64 0)
      have hfz107_0 := fz_ BK258 0
      have hfz107_1 := fz_ BK258 1
      try go_wp2_with (first | ((with_reducible refine gate_callee (f := 95) rfl ?_); refine gl_ (some 43) Try.func95 #[.agg #[.int .i64 ((rd_T30 x246000_1 t254).f0.f0), .int .i64 ((rd_T30 x246000_1 t254).f0.f1)]] ?_; (with_reducible refine (spec_Halves.calls ((rd_T30 x246000_1 t254).f0.f0) ((rd_T30 x246000_1 t254).f0.f1) t259 t260 t261 t262 true _ A34.out).mono ?_); rintro e w108 ⟨rfl, hb⟩; refine ⟨_, rfl, ?_⟩; replace HO_246000 := rs_ HO_246000 BK258 hb; replace BK244 := bf_ BK244 NB244_258 hb; replace BK245 := bf_ BK245 NB245_258 hb; replace BK250 := bf_ BK250 NB250_258 hb; replace BK258 := Aside0.mk (blk_below (g := gb258) (o := .cells #[.int .i64 ((rd_T30 x246000_1 t254).f0.f0), .int .i64 ((rd_T30 x246000_1 t254).f0.f1)] 28 (0, 0)) (by refine bd_ ?_; refine blk_put (cs := #[.int .i64 ((rd_T30 x246000_1 t254).f0.f0), .int .i64 0]) ?_ 1 _ rfl; refine bd_ ?_; refine blk_put (cs := #[.int .i64 0, .int .i64 0]) ?_ 0 _ rfl; refine bd_ ?_; exact BK258.out) hb); replace HK := kt_ HK (KeepBut.of_below hb g none); replace HB := bs112_ hb; replace HI0 := Aside0.mk (IsS112.below (show IsS112 w0 ((w44.setCell ⟨gb258, 0, none⟩ (.int .i64 ((rd_T30 x246000_1 t254).f0.f0))).setCell ⟨gb258, 1, none⟩ (.int .i64 ((rd_T30 x246000_1 t254).f0.f1))) g s0_0 t255 t256 from is112_) hb); (try clear hb); (try clear hb2); (try clear hk); (try clear hi)) | ((with_reducible refine gate_dst (N := 9) rfl ?_); refine box_event ?hg (N := 9) ?hd (cs := #[.int .i64 0, .int .i64 0]) (t := 28) ?hr ?_; (case hd => rfl); (case hg => rfl); (case hr => first | (go_simp; done) | (go_simp; rfl)); intro gb264 hg w109 hbox hb; have BK264 := Aside0.mk hbox; have GW264 := gw_ HK hg; have GE264 := gv_ HW0 HK hg; have NB244_264 := nl_ BK244 hg; have NB264_244 := ng_ BK244 hg; have NB245_264 := nl_ BK245 hg; have NB264_245 := ng_ BK245 hg; have NB250_264 := nl_ BK250 hg; have NB264_250 := ng_ BK250 hg; have NB258_264 := nl_ BK258 hg; have NB264_258 := ng_ BK258 hg; have NB0_264 := Aside0.mk ((by rw [hg]; exact Nat.ne_of_lt (IsS112.lt (show IsS112 w0 _ g s0_0 t255 t256 from is112_)) : g ≠ gb264)); have NB264_0 := Aside0.mk ((by rw [hg]; exact Nat.ne_of_gt (IsS112.lt (show IsS112 w0 _ g s0_0 t255 t256 from is112_)) : gb264 ≠ g)); replace HO_246000 := rb_ HO_246000 hb; replace HB := bs112_ hb; replace HK := kt_ HK (KeepBut.of_below hb g none); replace BK244 := ab_ BK244 hb; replace BK245 := ab_ BK245 hb; replace BK250 := ab_ BK250 hb; replace BK258 := ab_ BK258 hb; replace HI0 := Aside0.mk (IsS112.below is112_ hb); clear hb hbox hg) | ((with_reducible refine gate_dst (N := 10) rfl ?_); refine box_event ?hg (N := 10) ?hd (cs := #[.int .i64 0, .int .i64 0]) (t := 28) ?hr ?_; (case hd => rfl); (case hg => rfl); (case hr => first | (go_simp; done) | (go_simp; rfl)); intro gb265 hg w110 hbox hb; have BK265 := Aside0.mk hbox; have GW265 := gw_ HK hg; have GE265 := gv_ HW0 HK hg; have NB244_265 := nl_ BK244 hg; have NB265_244 := ng_ BK244 hg; have NB245_265 := nl_ BK245 hg; have NB265_245 := ng_ BK245 hg; have NB250_265 := nl_ BK250 hg; have NB265_250 := ng_ BK250 hg; have NB258_265 := nl_ BK258 hg; have NB265_258 := ng_ BK258 hg; have NB264_265 := nl_ BK264 hg; have NB265_264 := ng_ BK264 hg; have NB0_265 := Aside0.mk ((by rw [hg]; exact Nat.ne_of_lt (IsS112.lt (show IsS112 w0 _ g s0_0 t255 t256 from is112_)) : g ≠ gb265)); have NB265_0 := Aside0.mk ((by rw [hg]; exact Nat.ne_of_gt (IsS112.lt (show IsS112 w0 _ g s0_0 t255 t256 from is112_)) : gb265 ≠ g)); replace HO_246000 := rb_ HO_246000 hb; replace HB := bs112_ hb; replace HK := kt_ HK (KeepBut.of_below hb g none); replace BK244 := ab_ BK244 hb; replace BK245 := ab_ BK245 hb; replace BK250 := ab_ BK250 hb; replace BK258 := ab_ BK258 hb; replace BK264 := ab_ BK264 hb; replace HI0 := Aside0.mk (IsS112.below is112_ hb); clear hb hbox hg; have hnb111 := NB264_244.out; have hnc111 := NB244_264.out; have hnb112 := NB264_245.out; have hnc112 := NB245_264.out; have hnb113 := NB264_250.out; have hnc113 := NB250_264.out; have hnb114 := NB264_258.out; have hnc114 := NB258_264.out; have hnb115 := NB264_265.out; have hnc115 := NB265_264.out; have hnb116 := NB264_0.out; have hnc116 := NB0_264.out; have hcz117_0 := cz_ BK264 0 (.int .i64 0); have hcz117_1 := cz_ BK264 1 (.int .i64 0); have hfz117_0 := fz_ BK264 0; have hfz117_1 := fz_ BK264 1; have hnb118 := NB265_244.out; have hnc118 := NB244_265.out; have hnb119 := NB265_245.out; have hnc119 := NB245_265.out; have hnb120 := NB265_250.out; have hnc120 := NB250_265.out; have hnb121 := NB265_258.out; have hnc121 := NB258_265.out; have hnb122 := NB265_0.out; have hnc122 := NB0_265.out; have hcz123_0 := cz_ BK265 0 (.int .i64 0); have hcz123_1 := cz_ BK265 1 (.int .i64 0); have hfz123_0 := fz_ BK265 0; have hfz123_1 := fz_ BK265 1; have hnb124 := NB250_244.out; have hnc124 := NB244_250.out; have hnb125 := NB250_245.out; have hnc125 := NB245_250.out; have hnb126 := NB250_0.out; have hnc126 := NB0_250.out; have hcz127_0 := cz_ BK250 0 (.int .i64 t246); have hcz127_1 := cz_ BK250 1 (.int .i64 t247); have hfz127_0 := fz_ BK250 0; have hfz127_1 := fz_ BK250 1) | ((with_reducible refine gate_callee (f := 81) rfl ?_); refine gl_ (some 50) Try.func81 #[.pointer (some ⟨g, 0, none⟩), .int .i64 2] ?_; (with_reducible refine (spec_l01Once.calls g s0_0 t255 t256 2 false t267 t268 w0 _ ?side1 ?side2 A36.out).mono ?_); (case side1 => exact is112_); (case side2 => exact bw112_); rintro e w128 ⟨rfl, hi, hb, hk⟩; refine ⟨_, rfl, ?_⟩; replace HO_246000 := Aside0.mk (Kd.R_mono (Kd.R_keep (IsS112.apart (show IsS112 w0 _ g s0_0 t255 t256 from is112_) (by (with_reducible repeat (first | apply Kd.R_alloc | apply Kd.R_drewN | apply Kd.R_drew)); exact (Kd.R_mono (Kd.R_mono (Kd.R_mono (Kd.R_far (p := ⟨gb250, 1, none⟩) (Kd.R_far (p := ⟨gb250, 0, none⟩) (Kd.R_far (p := ⟨gb265, 1, none⟩) (Kd.R_far (p := ⟨gb265, 0, none⟩) (Kd.R_far (p := ⟨gb264, 1, none⟩) (Kd.R_far (p := ⟨gb264, 0, none⟩) (Kd.R_types (Kd.R_types (Kd.R_types HO_246000.out BK264.out (by decide)) BK265.out (by decide)) BK250.out (by decide)) (fun _ hk => hk.1.1.2) (.int .i64 t259)) (fun _ hk => hk.1.1.2) (.int .i64 t260)) (fun _ hk => hk.1.2) (.int .i64 t261)) (fun _ hk => hk.1.2) (.int .i64 t262)) (fun _ hk => hk.2) (.int .i64 t259)) (fun _ hk => hk.2) (.int .i64 t260)) (fun _ h_ => h_.1)) (fun _ h_ => h_.1)) (fun _ h_ => h_.1))) (by decide)) hk (fun _ h => h.2)) (fun _ h => h.1)); replace BK244 := kc_ BK244 NB244_0 hk; replace BK245 := kc_ BK245 NB245_0 hk; replace BK250 := Aside0.mk (KeepBut.blk hk (g' := gb250) (o := .cells #[.int .i64 t259, .int .i64 t260] 28 (0, 0)) (by refine bd_ ?_; refine blk_put (cs := #[.int .i64 t259, .int .i64 t247]) ?_ 1 _ rfl; refine bd_ ?_; refine blk_put (cs := #[.int .i64 t246, .int .i64 t247]) ?_ 0 _ rfl; refine bd_ ?_; refine blk_far ?_ NB250_265.out _; refine bd_ ?_; refine blk_far ?_ NB250_265.out _; refine bd_ ?_; refine blk_far ?_ NB250_264.out _; refine bd_ ?_; refine blk_far ?_ NB250_264.out _; refine bd_ ?_; exact BK250.out) NB250_0.out (by simp)); replace BK258 := kc_ BK258 NB258_0 hk; replace BK264 := Aside0.mk (KeepBut.blk hk (g' := gb264) (o := .cells #[.int .i64 t259, .int .i64 t260] 28 (0, 0)) (by refine bd_ ?_; refine blk_far ?_ NB264_250.out _; refine bd_ ?_; refine blk_far ?_ NB264_250.out _; refine bd_ ?_; refine blk_far ?_ NB264_265.out _; refine bd_ ?_; refine blk_far ?_ NB264_265.out _; refine bd_ ?_; refine blk_put (cs := #[.int .i64 t259, .int .i64 0]) ?_ 1 _ rfl; refine bd_ ?_; refine blk_put (cs := #[.int .i64 0, .int .i64 0]) ?_ 0 _ rfl; refine bd_ ?_; exact BK264.out) NB264_0.out (by simp)); replace BK265 := Aside0.mk (KeepBut.blk hk (g' := gb265) (o := .cells #[.int .i64 t261, .int .i64 t262] 28 (0, 0)) (by refine bd_ ?_; refine blk_far ?_ NB265_250.out _; refine bd_ ?_; refine blk_far ?_ NB265_250.out _; refine bd_ ?_; refine blk_put (cs := #[.int .i64 t261, .int .i64 0]) ?_ 1 _ rfl; refine bd_ ?_; refine blk_put (cs := #[.int .i64 0, .int .i64 0]) ?_ 0 _ rfl; refine bd_ ?_; refine blk_far ?_ NB265_264.out _; refine bd_ ?_; refine blk_far ?_ NB265_264.out _; refine bd_ ?_; exact BK265.out) NB265_0.out (by simp)); replace HK := kt_ HK hk; replace HB := Aside0.mk (hb); replace HI0 := Aside0.mk (hi); (try clear hb); (try clear hb2); (try clear hk); (try clear hi)))
      replace HO_246000 := Aside0.mk (Kd.R_drew HO_246000.out)
      replace BK244 := ad_ BK244
      replace BK245 := ad_ BK245
      replace BK250 := ad_ BK250
      replace BK258 := ad_ BK258
      replace BK264 := ad_ BK264
      replace BK265 := ad_ BK265
      replace HI0 := Aside0.mk (IsS112.drew HI0.out)
      replace HK := Aside0.mk (keep_drew HK.out)
      replace HB := Aside0.mk (below_drew1 HB.out)
      refine start_ (n := 12) (S := fun w' => w'.cell? ⟨gb245, 0, none⟩ = some (.slice (some ad257) x246000_1.length co41) ∧ w'.cell? ⟨gb250, 0, none⟩ = some (.int .i64 t259) ∧ w'.cell? ⟨gb250, 1, none⟩ = some (.int .i64 t260)) (ds := []) ba9_0 (by kernel_rfl) rfl rfl ⟨(blk_cell BK245.out 0).trans rfl, (blk_cell BK250.out 0).trans rfl, (blk_cell BK250.out 1).trans rfl⟩ (fun hHeld => ?_); refine with_tabW spec_l02DrawTable.tab13 spec_l02DrawTable.bits13 (fun HT_ HW_ => ?_)
      generalize w128.drew = w129 at HO_246000 BK244 BK245 BK250 BK258 BK264 BK265 HI0 HK HB hHeld ⊢
      refine pz_ 2 55 ba9_17 HT_ ?_
      refine pt_ 0 53 ba9_2 HT_ HW_ hHeld ?_
      refine pt_ 1 54 ba9_18 HT_ HW_ hHeld ?_
      refine join_ (σ := Value × Nat) 2 ba9_12 (fun s_ => [(56, .int .i64 t277), (58, .tuple #[.agg #[s_.1], .bool t283]), (12, .pointer (some ⟨s_.2, 0, none⟩)), (57, .agg #[.int .i64 t259, .int .i64 t260, .int .i64 t277]), (52, .tuple #[.agg #[s_.1], .bool t283]), (59, .agg #[s_.1]), (60, .bool t283)]) (fun s_ w' => (w'.cell? ⟨gb245, 0, none⟩ = some (.slice (some ad257) x246000_1.length co41) ∧ w'.cell? ⟨gb250, 0, none⟩ = some (.int .i64 t259) ∧ w'.cell? ⟨gb250, 1, none⟩ = some (.int .i64 t260)) ∧ (Kd.R k30 30 w' w.heap.size (fun k_ => some k_ ≠ (.slice (some ad257) x246000_1.length co41 : Value).ownBlock) s_.1 t280) ∧ (Kd.R k30 30 w' w.heap.size (fun k_ => some k_ ≠ (s_.1 : Value).ownBlock) (.slice (some ad257) x246000_1.length co41) x246000_1) ∧ (w'.heap[gb244]? = some (.cells #[.slice none 0 0] 26 (0, 0))) ∧ (w'.heap[gb245]? = some (.cells #[.slice (some ad257) x246000_1.length co41] 26 (0, 0))) ∧ (w'.heap[gb250]? = some (.cells #[.int .i64 t259, .int .i64 t260] 28 (0, 0))) ∧ (w'.heap[gb258]? = some (.cells #[.int .i64 ((rd_T30 x246000_1 t254).f0.f0), .int .i64 ((rd_T30 x246000_1 t254).f0.f1)] 28 (0, 0))) ∧ (w'.heap[gb264]? = some (.cells #[.int .i64 t259, .int .i64 t260] 28 (0, 0))) ∧ (w'.heap[gb265]? = some (.cells #[.int .i64 t261, .int .i64 t262] 28 (0, 0))) ∧ (w'.heap[s_.2]? = some (.cells #[.slice none 0 0] 26 (0, 0))) ∧ (w.heap.size ≤ s_.2) ∧ (w0.heap.size ≤ s_.2) ∧ (g ≠ s_.2) ∧ (s_.2 ≠ g) ∧ (gb244 ≠ s_.2) ∧ (s_.2 ≠ gb244) ∧ (gb245 ≠ s_.2) ∧ (s_.2 ≠ gb245) ∧ (gb250 ≠ s_.2) ∧ (s_.2 ≠ gb250) ∧ (gb258 ≠ s_.2) ∧ (s_.2 ≠ gb258) ∧ (gb264 ≠ s_.2) ∧ (s_.2 ≠ gb264) ∧ (gb265 ≠ s_.2) ∧ (s_.2 ≠ gb265) ∧ (IsS112 w0 w' g s0_0 t278 t279) ∧ (KeepBut w w' g none) ∧ (Below w0.heap.size w0 w')) ?_ ?_
      rotate_left
      ·intro hCont
       refine two_ (i := 3) (j := 9) (Ni := some 56) (Nj := some 12) ba9_4 ba9_19 rfl rfl rfl rfl (two_of HT_.out (by kernel_rfl)) (by decide) (by decide) (fun K hK => ?_) (fun K hK => ?_)
       ·skip
        refine gz_ Try.func44 #[.pointer (some ⟨g, 0, none⟩), .int .i64 4] ?_
        with_reducible refine (spec_l01Below.calls g s0_0 t267 t268 4 t277 t278 t279 w0 _ ?side1 ?side2 A94.out).mono ?_
        (case side1 => exact is112_)
        (case side2 => exact bw112_)
        rintro e w130 ⟨rfl, hi, hb, hk⟩
        refine ⟨_, rfl, ?_⟩
        replace HO_246000 := ak112_ HO_246000 (show IsS112 w0 _ g s0_0 t267 t268 from is112_) hk
        replace BK244 := kb_ BK244 NB244_0 hk
        replace BK245 := kb_ BK245 NB245_0 hk
        replace BK250 := kb_ BK250 NB250_0 hk
        replace BK258 := kb_ BK258 NB258_0 hk
        replace BK264 := kb_ BK264 NB264_0 hk
        replace BK265 := kb_ BK265 NB265_0 hk
        replace HK := kt_ HK hk
        replace HB := Aside0.mk (hb)
        replace HI0 := Aside0.mk (hi)
        (try clear hb)
        (try clear hb2)
        (try clear hk)
        (try clear hi)
        refine hK.out _ _ ⟨(blk_cell BK245.out 0).trans rfl, (blk_cell BK250.out 0).trans rfl, (blk_cell BK250.out 1).trans rfl⟩ (fun hHeld => ?_)
        clear hK K
        refine nz_ 56 ?_
        refine pz_ 4 57 ba9_5 HT_ ?_
        refine two_ (i := 5) (j := 9) (Ni := some 58) (Nj := some 12) ba9_6 ba9_20 rfl rfl rfl rfl (two_of HT_.out (by kernel_rfl)) (by decide) (by decide) (fun K hK => ?_) (fun K hK => ?_)
        ·skip
         refine gz_ Try.func10 #[.agg #[.slice (some ad257) x246000_1.length co41], .agg #[.int .i64 t259, .int .i64 t260, .int .i64 t277]] ?_
         with_reducible refine (spec_PutRoute.calls kj9 _ _ x246000_1 t259 t260 t277 t280 t283 _ ?side1 ?side2 A95.out).mono ?_
         (case side1 => exact rc_ HO_246000)
         (case side2 => exact (Kd.R_reads' HO_246000.out).2.1)
         rintro e w131 ⟨v281, rfl, ho0, hb⟩
         refine ⟨_, rfl, ?_⟩
         have HO282 := Aside0.mk (Kd.R_lower (Kd.R_new' ho0 (Kd.R_lt (hd_ HO_246000))) (keep_size (w := w) (g := g) (row := none) (kx_ HK)))
         replace HO_246000 := Aside0.mk (Kd.R_elder' (hd_ HO_246000) (Kd.R_base ho0) hb)
         replace BK244 := ab_ BK244 hb
         replace BK245 := ab_ BK245 hb
         replace BK250 := ab_ BK250 hb
         replace BK258 := ab_ BK258 hb
         replace BK264 := ab_ BK264 hb
         replace BK265 := ab_ BK265 hb
         replace HK := kt_ HK (KeepBut.of_below hb g none)
         replace HB := bs112_ hb
         replace HI0 := Aside0.mk (IsS112.below is112_ hb)
         (try clear hb)
         (try clear hb2)
         (try clear hk)
         (try clear hi)
         (try clear ho0)
         refine hK.out _ _ ⟨(blk_cell BK245.out 0).trans rfl, (blk_cell BK250.out 0).trans rfl, (blk_cell BK250.out 1).trans rfl⟩ (fun hHeld => ?_)
         clear hK K
         refine nz_ 58 ?_
         refine pz_ 6 52 ba9_8 HT_ ?_
         refine pz_ 7 59 ba9_10 HT_ ?_
         refine pz_ 8 60 ba9_11 HT_ ?_
         refine one_ (i := 9) (N := some 12) ba9_12 rfl rfl (one_of HT_.out (by kernel_rfl)) (by decide) (fun K hK => ?_)
         refine box_step ?hg (N := 12) ?hd (cs := #[.slice none 0 0]) (t := 26) ?hr ?_; (case hd => rfl); (case hg => rfl); (case hr => first | (go_simp; done) | (go_simp; rfl))
         intro gb284 hg w132 hbox hb
         have BK284 := Aside0.mk hbox
         have GW284 := gw_ HK hg
         have GE284 := gv_ HW0 HK hg
         have NB244_284 := nl_ BK244 hg
         have NB284_244 := ng_ BK244 hg
         have NB245_284 := nl_ BK245 hg
         have NB284_245 := ng_ BK245 hg
         have NB250_284 := nl_ BK250 hg
         have NB284_250 := ng_ BK250 hg
         have NB258_284 := nl_ BK258 hg
         have NB284_258 := ng_ BK258 hg
         have NB264_284 := nl_ BK264 hg
         have NB284_264 := ng_ BK264 hg
         have NB265_284 := nl_ BK265 hg
         have NB284_265 := ng_ BK265 hg
         have NB0_284 := Aside0.mk ((by rw [hg]; exact Nat.ne_of_lt (IsS112.lt (show IsS112 w0 _ g s0_0 t278 t279 from is112_)) : g ≠ gb284))
         have NB284_0 := Aside0.mk ((by rw [hg]; exact Nat.ne_of_gt (IsS112.lt (show IsS112 w0 _ g s0_0 t278 t279 from is112_)) : gb284 ≠ g))
         replace HO_246000 := rb_ HO_246000 hb
         replace HO282 := rb_ HO282 hb
         replace HB := bs112_ hb
         replace HK := kt_ HK (KeepBut.of_below hb g none)
         replace BK244 := ab_ BK244 hb
         replace BK245 := ab_ BK245 hb
         replace BK250 := ab_ BK250 hb
         replace BK258 := ab_ BK258 hb
         replace BK264 := ab_ BK264 hb
         replace BK265 := ab_ BK265 hb
         replace HI0 := Aside0.mk (IsS112.below is112_ hb)
         clear hb hbox hg
         refine hK.out _ _ ⟨(blk_cell BK245.out 0).trans rfl, (blk_cell BK250.out 0).trans rfl, (blk_cell BK250.out 1).trans rfl⟩ (fun hHeld => ?_)
         clear hK K
         refine nz_ 12 ?_
         exact norm_ (by simp only [putAll, Act.put, List.setIfInBounds_toArray, List.set_cons_zero, List.set_cons_succ]) (hCont (v281, gb284) _ ⟨hHeld, (by (with_reducible repeat (first | apply Kd.R_alloc | apply Kd.R_drewN | apply Kd.R_drew)); exact Kd.R_mono HO282.out (fun _ hk => hk.2)), (by (with_reducible repeat (first | apply Kd.R_alloc | apply Kd.R_drewN | apply Kd.R_drew)); exact Kd.R_mono HO_246000.out (fun _ hk => hk.2)), (bx_ BK244), (bx_ BK245), (bx_ BK250), (bx_ BK258), (bx_ BK264), (bx_ BK265), (bx_ BK284), GW284.out, GE284.out, NB0_284.out, NB284_0.out, NB244_284.out, NB284_244.out, NB245_284.out, NB284_245.out, NB250_284.out, NB284_250.out, NB258_284.out, NB284_258.out, NB264_284.out, NB284_264.out, NB265_284.out, NB284_265.out, (is112_), (kx_ HK), (bw112_)⟩)
        ·skip
         refine box_step ?hg (N := 12) ?hd (cs := #[.slice none 0 0]) (t := 26) ?hr ?_; (case hd => rfl); (case hg => rfl); (case hr => first | (go_simp; done) | (go_simp; rfl))
         intro gb284 hg w131 hbox hb
         have BK284 := Aside0.mk hbox
         have GW284 := gw_ HK hg
         have GE284 := gv_ HW0 HK hg
         have NB244_284 := nl_ BK244 hg
         have NB284_244 := ng_ BK244 hg
         have NB245_284 := nl_ BK245 hg
         have NB284_245 := ng_ BK245 hg
         have NB250_284 := nl_ BK250 hg
         have NB284_250 := ng_ BK250 hg
         have NB258_284 := nl_ BK258 hg
         have NB284_258 := ng_ BK258 hg
         have NB264_284 := nl_ BK264 hg
         have NB284_264 := ng_ BK264 hg
         have NB265_284 := nl_ BK265 hg
         have NB284_265 := ng_ BK265 hg
         have NB0_284 := Aside0.mk ((by rw [hg]; exact Nat.ne_of_lt (IsS112.lt (show IsS112 w0 _ g s0_0 t278 t279 from is112_)) : g ≠ gb284))
         have NB284_0 := Aside0.mk ((by rw [hg]; exact Nat.ne_of_gt (IsS112.lt (show IsS112 w0 _ g s0_0 t278 t279 from is112_)) : gb284 ≠ g))
         replace HO_246000 := rb_ HO_246000 hb
         replace HB := bs112_ hb
         replace HK := kt_ HK (KeepBut.of_below hb g none)
         replace BK244 := ab_ BK244 hb
         replace BK245 := ab_ BK245 hb
         replace BK250 := ab_ BK250 hb
         replace BK258 := ab_ BK258 hb
         replace BK264 := ab_ BK264 hb
         replace BK265 := ab_ BK265 hb
         replace HI0 := Aside0.mk (IsS112.below is112_ hb)
         clear hb hbox hg
         refine hK.out _ _ ⟨(blk_cell BK245.out 0).trans rfl, (blk_cell BK250.out 0).trans rfl, (blk_cell BK250.out 1).trans rfl⟩ (fun hHeld => ?_)
         clear hK K
         refine nz_ 12 ?_
         refine one_ (i := 5) (N := some 58) ba9_21 rfl rfl (one_of HT_.out (by kernel_rfl)) (by decide) (fun K hK => ?_)
         refine gz_ Try.func10 #[.agg #[.slice (some ad257) x246000_1.length co41], .agg #[.int .i64 t259, .int .i64 t260, .int .i64 t277]] ?_
         with_reducible refine (spec_PutRoute.calls kj9 _ _ x246000_1 t259 t260 t277 t280 t283 _ ?side1 ?side2 A95.out).mono ?_
         (case side1 => exact rc_ HO_246000)
         (case side2 => exact (Kd.R_reads' HO_246000.out).2.1)
         rintro e w132 ⟨v281, rfl, ho0, hb⟩
         refine ⟨_, rfl, ?_⟩
         have HO282 := Aside0.mk (Kd.R_lower (Kd.R_new' ho0 (Kd.R_lt (hd_ HO_246000))) (keep_size (w := w) (g := g) (row := none) (kx_ HK)))
         replace HO_246000 := Aside0.mk (Kd.R_elder' (hd_ HO_246000) (Kd.R_base ho0) hb)
         replace BK244 := ab_ BK244 hb
         replace BK245 := ab_ BK245 hb
         replace BK250 := ab_ BK250 hb
         replace BK258 := ab_ BK258 hb
         replace BK264 := ab_ BK264 hb
         replace BK265 := ab_ BK265 hb
         replace BK284 := ab_ BK284 hb
         replace HK := kt_ HK (KeepBut.of_below hb g none)
         replace HB := bs112_ hb
         replace HI0 := Aside0.mk (IsS112.below is112_ hb)
         (try clear hb)
         (try clear hb2)
         (try clear hk)
         (try clear hi)
         (try clear ho0)
         refine hK.out _ _ ⟨(blk_cell BK245.out 0).trans rfl, (blk_cell BK250.out 0).trans rfl, (blk_cell BK250.out 1).trans rfl⟩ (fun hHeld => ?_)
         clear hK K
         refine nz_ 58 ?_
         refine pz_ 6 52 ba9_22 HT_ ?_
         refine pz_ 7 59 ba9_23 HT_ ?_
         refine pz_ 8 60 ba9_12 HT_ ?_
         exact norm_ (by simp only [putAll, Act.put, List.setIfInBounds_toArray, List.set_cons_zero, List.set_cons_succ]) (hCont (v281, gb284) _ ⟨hHeld, (by (with_reducible repeat (first | apply Kd.R_alloc | apply Kd.R_drewN | apply Kd.R_drew)); exact Kd.R_mono HO282.out (fun _ hk => hk.2)), (by (with_reducible repeat (first | apply Kd.R_alloc | apply Kd.R_drewN | apply Kd.R_drew)); exact Kd.R_mono HO_246000.out (fun _ hk => hk.2)), (bx_ BK244), (bx_ BK245), (bx_ BK250), (bx_ BK258), (bx_ BK264), (bx_ BK265), (bx_ BK284), GW284.out, GE284.out, NB0_284.out, NB284_0.out, NB244_284.out, NB284_244.out, NB245_284.out, NB284_245.out, NB250_284.out, NB284_250.out, NB258_284.out, NB284_258.out, NB264_284.out, NB284_264.out, NB265_284.out, NB284_265.out, (is112_), (kx_ HK), (bw112_)⟩)
       ·skip
        refine box_step ?hg (N := 12) ?hd (cs := #[.slice none 0 0]) (t := 26) ?hr ?_; (case hd => rfl); (case hg => rfl); (case hr => first | (go_simp; done) | (go_simp; rfl))
        intro gb284 hg w130 hbox hb
        have BK284 := Aside0.mk hbox
        have GW284 := gw_ HK hg
        have GE284 := gv_ HW0 HK hg
        have NB244_284 := nl_ BK244 hg
        have NB284_244 := ng_ BK244 hg
        have NB245_284 := nl_ BK245 hg
        have NB284_245 := ng_ BK245 hg
        have NB250_284 := nl_ BK250 hg
        have NB284_250 := ng_ BK250 hg
        have NB258_284 := nl_ BK258 hg
        have NB284_258 := ng_ BK258 hg
        have NB264_284 := nl_ BK264 hg
        have NB284_264 := ng_ BK264 hg
        have NB265_284 := nl_ BK265 hg
        have NB284_265 := ng_ BK265 hg
        have NB0_284 := Aside0.mk ((by rw [hg]; exact Nat.ne_of_lt (IsS112.lt (show IsS112 w0 _ g s0_0 t267 t268 from is112_)) : g ≠ gb284))
        have NB284_0 := Aside0.mk ((by rw [hg]; exact Nat.ne_of_gt (IsS112.lt (show IsS112 w0 _ g s0_0 t267 t268 from is112_)) : gb284 ≠ g))
        replace HO_246000 := rb_ HO_246000 hb
        replace HB := bs112_ hb
        replace HK := kt_ HK (KeepBut.of_below hb g none)
        replace BK244 := ab_ BK244 hb
        replace BK245 := ab_ BK245 hb
        replace BK250 := ab_ BK250 hb
        replace BK258 := ab_ BK258 hb
        replace BK264 := ab_ BK264 hb
        replace BK265 := ab_ BK265 hb
        replace HI0 := Aside0.mk (IsS112.below is112_ hb)
        clear hb hbox hg
        refine hK.out _ _ ⟨(blk_cell BK245.out 0).trans rfl, (blk_cell BK250.out 0).trans rfl, (blk_cell BK250.out 1).trans rfl⟩ (fun hHeld => ?_)
        clear hK K
        refine nz_ 12 ?_
        refine one_ (i := 3) (N := some 56) ba9_24 rfl rfl (one_of HT_.out (by kernel_rfl)) (by decide) (fun K hK => ?_)
        refine gz_ Try.func44 #[.pointer (some ⟨g, 0, none⟩), .int .i64 4] ?_
        with_reducible refine (spec_l01Below.calls g s0_0 t267 t268 4 t277 t278 t279 w0 _ ?side1 ?side2 A94.out).mono ?_
        (case side1 => exact is112_)
        (case side2 => exact bw112_)
        rintro e w131 ⟨rfl, hi, hb, hk⟩
        refine ⟨_, rfl, ?_⟩
        replace HO_246000 := ak112_ HO_246000 (show IsS112 w0 _ g s0_0 t267 t268 from is112_) hk
        replace BK244 := kb_ BK244 NB244_0 hk
        replace BK245 := kb_ BK245 NB245_0 hk
        replace BK250 := kb_ BK250 NB250_0 hk
        replace BK258 := kb_ BK258 NB258_0 hk
        replace BK264 := kb_ BK264 NB264_0 hk
        replace BK265 := kb_ BK265 NB265_0 hk
        replace BK284 := kb_ BK284 NB284_0 hk
        replace HK := kt_ HK hk
        replace HB := Aside0.mk (hb)
        replace HI0 := Aside0.mk (hi)
        (try clear hb)
        (try clear hb2)
        (try clear hk)
        (try clear hi)
        refine hK.out _ _ ⟨(blk_cell BK245.out 0).trans rfl, (blk_cell BK250.out 0).trans rfl, (blk_cell BK250.out 1).trans rfl⟩ (fun hHeld => ?_)
        clear hK K
        refine nz_ 56 ?_
        refine pz_ 4 57 ba9_20 HT_ ?_
        refine one_ (i := 5) (N := some 58) ba9_21 rfl rfl (one_of HT_.out (by kernel_rfl)) (by decide) (fun K hK => ?_)
        refine gz_ Try.func10 #[.agg #[.slice (some ad257) x246000_1.length co41], .agg #[.int .i64 t259, .int .i64 t260, .int .i64 t277]] ?_
        with_reducible refine (spec_PutRoute.calls kj9 _ _ x246000_1 t259 t260 t277 t280 t283 _ ?side1 ?side2 A95.out).mono ?_
        (case side1 => exact rc_ HO_246000)
        (case side2 => exact (Kd.R_reads' HO_246000.out).2.1)
        rintro e w132 ⟨v281, rfl, ho0, hb⟩
        refine ⟨_, rfl, ?_⟩
        have HO282 := Aside0.mk (Kd.R_lower (Kd.R_new' ho0 (Kd.R_lt (hd_ HO_246000))) (keep_size (w := w) (g := g) (row := none) (kx_ HK)))
        replace HO_246000 := Aside0.mk (Kd.R_elder' (hd_ HO_246000) (Kd.R_base ho0) hb)
        replace BK244 := ab_ BK244 hb
        replace BK245 := ab_ BK245 hb
        replace BK250 := ab_ BK250 hb
        replace BK258 := ab_ BK258 hb
        replace BK264 := ab_ BK264 hb
        replace BK265 := ab_ BK265 hb
        replace BK284 := ab_ BK284 hb
        replace HK := kt_ HK (KeepBut.of_below hb g none)
        replace HB := bs112_ hb
        replace HI0 := Aside0.mk (IsS112.below is112_ hb)
        (try clear hb)
        (try clear hb2)
        (try clear hk)
        (try clear hi)
        (try clear ho0)
        refine hK.out _ _ ⟨(blk_cell BK245.out 0).trans rfl, (blk_cell BK250.out 0).trans rfl, (blk_cell BK250.out 1).trans rfl⟩ (fun hHeld => ?_)
        clear hK K
        refine nz_ 58 ?_
        refine pz_ 6 52 ba9_22 HT_ ?_
        refine pz_ 7 59 ba9_23 HT_ ?_
        refine pz_ 8 60 ba9_12 HT_ ?_
        exact norm_ (by simp only [putAll, Act.put, List.setIfInBounds_toArray, List.set_cons_zero, List.set_cons_succ]) (hCont (v281, gb284) _ ⟨hHeld, (by (with_reducible repeat (first | apply Kd.R_alloc | apply Kd.R_drewN | apply Kd.R_drew)); exact Kd.R_mono HO282.out (fun _ hk => hk.2)), (by (with_reducible repeat (first | apply Kd.R_alloc | apply Kd.R_drewN | apply Kd.R_drew)); exact Kd.R_mono HO_246000.out (fun _ hk => hk.2)), (bx_ BK244), (bx_ BK245), (bx_ BK250), (bx_ BK258), (bx_ BK264), (bx_ BK265), (bx_ BK284), GW284.out, GE284.out, NB0_284.out, NB284_0.out, NB244_284.out, NB284_244.out, NB245_284.out, NB284_245.out, NB250_284.out, NB284_250.out, NB258_284.out, NB284_258.out, NB264_284.out, NB284_264.out, NB265_284.out, NB284_265.out, (is112_), (kx_ HK), (bw112_)⟩)
      rintro ⟨v281, gb284⟩ w133 ⟨hS_, h0_, h1_, h2_, h3_, h4_, h5_, h6_, h7_, h8_, h9_, h10_, h11_, h12_, h13_, h14_, h15_, h16_, h17_, h18_, h19_, h20_, h21_, h22_, h23_, h24_, h25_, h26_, h27_⟩
      have HO282 : Aside0 (Kd.R k30 30 w133 w.heap.size (fun k_ => some k_ ≠ (.slice (some ad257) x246000_1.length co41 : Value).ownBlock) v281 t280) := ⟨h0_⟩
      have BK284 : Aside0 (w133.heap[gb284]? = some (.cells #[.slice none 0 0] 26 (0, 0))) := ⟨h8_⟩
      have GW284 : Aside0 (w.heap.size ≤ gb284) := ⟨h9_⟩
      have GE284 : Aside0 (w0.heap.size ≤ gb284) := ⟨h10_⟩
      have NB0_284 : Aside0 (g ≠ gb284) := ⟨h11_⟩
      have NB284_0 : Aside0 (gb284 ≠ g) := ⟨h12_⟩
      have NB244_284 : Aside0 (gb244 ≠ gb284) := ⟨h13_⟩
      have NB284_244 : Aside0 (gb284 ≠ gb244) := ⟨h14_⟩
      have NB245_284 : Aside0 (gb245 ≠ gb284) := ⟨h15_⟩
      have NB284_245 : Aside0 (gb284 ≠ gb245) := ⟨h16_⟩
      have NB250_284 : Aside0 (gb250 ≠ gb284) := ⟨h17_⟩
      have NB284_250 : Aside0 (gb284 ≠ gb250) := ⟨h18_⟩
      have NB258_284 : Aside0 (gb258 ≠ gb284) := ⟨h19_⟩
      have NB284_258 : Aside0 (gb284 ≠ gb258) := ⟨h20_⟩
      have NB264_284 : Aside0 (gb264 ≠ gb284) := ⟨h21_⟩
      have NB284_264 : Aside0 (gb284 ≠ gb264) := ⟨h22_⟩
      have NB265_284 : Aside0 (gb265 ≠ gb284) := ⟨h23_⟩
      have NB284_265 : Aside0 (gb284 ≠ gb265) := ⟨h24_⟩
      replace HO_246000 : Aside0 (Kd.R k30 30 w133 w.heap.size (fun k_ => some k_ ≠ (v281 : Value).ownBlock) (.slice (some ad257) x246000_1.length co41) x246000_1) := ⟨h1_⟩
      replace BK244 : Aside0 (w133.heap[gb244]? = some (.cells #[.slice none 0 0] 26 (0, 0))) := ⟨h2_⟩
      replace BK245 : Aside0 (w133.heap[gb245]? = some (.cells #[.slice (some ad257) x246000_1.length co41] 26 (0, 0))) := ⟨h3_⟩
      replace BK250 : Aside0 (w133.heap[gb250]? = some (.cells #[.int .i64 t259, .int .i64 t260] 28 (0, 0))) := ⟨h4_⟩
      replace BK258 : Aside0 (w133.heap[gb258]? = some (.cells #[.int .i64 ((rd_T30 x246000_1 t254).f0.f0), .int .i64 ((rd_T30 x246000_1 t254).f0.f1)] 28 (0, 0))) := ⟨h5_⟩
      replace BK264 : Aside0 (w133.heap[gb264]? = some (.cells #[.int .i64 t259, .int .i64 t260] 28 (0, 0))) := ⟨h6_⟩
      replace BK265 : Aside0 (w133.heap[gb265]? = some (.cells #[.int .i64 t261, .int .i64 t262] 28 (0, 0))) := ⟨h7_⟩
      replace HI0 : Aside0 (IsS112 w0 w133 g s0_0 t278 t279) := ⟨h25_⟩
      replace HK : Aside0 (KeepBut w w133 g none) := ⟨h26_⟩
      replace HB : Aside0 (Below w0.heap.size w0 w133) := ⟨h27_⟩
      clear h0_ h1_ h2_ h3_ h4_ h5_ h6_ h7_ h8_ h9_ h10_ h11_ h12_ h13_ h14_ h15_ h16_ h17_ h18_ h19_ h20_ h21_ h22_ h23_ h24_ h25_ h26_ h27_
      have hHeld : w133.cell? ⟨gb245, 0, none⟩ = some (.slice (some ad257) x246000_1.length co41) ∧ w133.cell? ⟨gb250, 0, none⟩ = some (.int .i64 t259) ∧ w133.cell? ⟨gb250, 1, none⟩ = some (.int .i64 t260) := hS_
      obtain ⟨Ao134, co134, eo134⟩ := Kd.R_slice HO282.out
      (first | subst eo134 | (injection eo134 with f1_ f2_ f3_; have f4_ := f1_.symm; have f5_ := f3_.symm; clear f1_ f2_ f3_; subst f4_; subst f5_))
      refine norm_ (a' := ?_) ?_ ?_
      rotate_left; · simp only [putAll, Act.put, List.setIfInBounds_toArray, List.set_cons_zero, List.set_cons_succ]; rfl
      refine one_ (i := 10) (N := none) ba9_7 rfl rfl (one_of HT_.out (by kernel_rfl)) (by decide) (fun K hK => ?_)
      have hs135 : w133.cell? ⟨gb284, 0, none⟩ = some (.slice none 0 0) := (blk_cell BK284.out 0).trans rfl
      have hfs135 := fz_ BK284 0
      have hns135_0 := NB244_284.out
      have hns135_1 := NB245_284.out
      have hns135_2 := NB250_284.out
      have hns135_3 := NB258_284.out
      have hns135_4 := NB264_284.out
      have hns135_5 := NB265_284.out
      have hms135_0 := NB284_244.out
      have hms135_1 := NB284_245.out
      have hms135_2 := NB284_250.out
      have hms135_3 := NB284_258.out
      have hms135_4 := NB284_264.out
      have hms135_5 := NB284_265.out
      refine skip_ (w1 := ?_) (by rfl) rfl ?_ ?_
      rotate_left; · go_simp; rfl
      refine hK.out _ _ ⟨((cell_far (p := ⟨gb284, _, none⟩) NB245_284.out _).trans (hHeld.1)), ((cell_far (p := ⟨gb284, _, none⟩) NB250_284.out _).trans (hHeld.2.1)), ((cell_far (p := ⟨gb284, _, none⟩) NB250_284.out _).trans (hHeld.2.2))⟩ (fun hHeld => ?_)
      clear hK K
      refine pz_ 11 13 ba9_16 HT_ ?_
      refine done_ (done_of HT_.out (by kernel_rfl)) ?_
      have hnb136 := NB284_244.out
      have hnc136 := NB244_284.out
      have hnb137 := NB284_245.out
      have hnc137 := NB245_284.out
      have hnb138 := NB284_250.out
      have hnc138 := NB250_284.out
      have hnb139 := NB284_258.out
      have hnc139 := NB258_284.out
      have hnb140 := NB284_264.out
      have hnc140 := NB264_284.out
      have hnb141 := NB284_265.out
      have hnc141 := NB265_284.out
      have hnb142 := NB284_0.out
      have hnc142 := NB0_284.out
      have hcz143_0 := cz_ BK284 0 (.slice none 0 0)
      have hfz143_0 := fz_ BK284 0
      have hnb144 := NB245_244.out
      have hnc144 := NB244_245.out
      have hnb145 := NB245_0.out
      have hnc145 := NB0_245.out
      have hcz146_0 := cz_ BK245 0 (.slice (some ad257) x246000_1.length co41)
      have hfz146_0 := fz_ BK245 0
      try go_wp2
      go_roundg kj9
      case measure => have := HK1.out; have := HJ9.out; omega
      case rel => exact ⟨(wrap64 (x6_1 + 1)), (t278), (t279), (t280), (.slice Ao134 t280.length co134), er_, H', ⟨by have := HK1.out; have := HJ9.out; omega⟩, ⟨by (with_reducible repeat (first | apply Kd.R_alloc | apply Kd.R_drewN | apply Kd.R_drew)); exact Kd.R_mono (Kd.R_far (p := ⟨gb245, 0, none⟩) (Kd.R_far (p := ⟨gb284, 0, none⟩) (Kd.R_types (Kd.R_types HO282.out BK284.out (by decide)) BK245.out (by decide)) (fun _ hk => hk.1.2) (.slice Ao134 t280.length co134)) (fun _ hk => hk.2) (.slice Ao134 t280.length co134)) (fun _ hk => trivial)⟩, ⟨bc_ BK244⟩, ⟨by refine bd_ ?_; refine blk_put (cs := #[.slice (some ad257) x246000_1.length co41]) ?_ 0 _ rfl; refine bd_ ?_; refine blk_far ?_ NB245_284.out _; refine bd_ ?_; exact BK245.out⟩, ⟨is112_⟩, ⟨kx_ HK⟩, ⟨bw112_⟩⟩
     subst c37
     rw [if_pos rfl] at H
     replace H := Option.bind_eq_some_iff.mp H
     obtain ⟨⟨t269, t270, t271⟩, A380, H⟩ := H
     have A38 := Aside0.mk A380
     clear A380
     replace H := Option.bind_eq_some_iff.mp H
     obtain ⟨⟨t272, t275⟩, A390, H⟩ := H
     have A39 := Aside0.mk A390
     clear A390
     have H' := Aside0.mk H
     clear H
     refine skip_ (w1 := ?_) (by rfl) rfl ?_ ?_
     rotate_left; · go_simp; rfl
     refine hK.out _ _ ⟨((cell_far (p := ⟨gb258, _, none⟩) NB245_258.out _).trans (((cell_far (p := ⟨gb258, _, none⟩) NB245_258.out _).trans (hHeld.1)))), ((cell_far (p := ⟨gb258, _, none⟩) (by first | exact Kd.own_blk (Kd.R_ne HO_246000.out BK258.out (by decide)) | (rw [add_block]; exact Kd.own_blk (Kd.R_ne HO_246000.out BK258.out (by decide))) | (show (Addr.add _ _).block ≠ _; rw [add_block]; exact Kd.own_blk (Kd.R_ne HO_246000.out BK258.out (by decide))) | (dsimp only; exact Kd.own_blk (Kd.R_ne HO_246000.out BK258.out (by decide)))) _).trans (((cell_far (p := ⟨gb258, _, none⟩) (by first | exact Kd.own_blk (Kd.R_ne HO_246000.out BK258.out (by decide)) | (rw [add_block]; exact Kd.own_blk (Kd.R_ne HO_246000.out BK258.out (by decide))) | (show (Addr.add _ _).block ≠ _; rw [add_block]; exact Kd.own_blk (Kd.R_ne HO_246000.out BK258.out (by decide))) | (dsimp only; exact Kd.own_blk (Kd.R_ne HO_246000.out BK258.out (by decide)))) _).trans (hHeld.2.1)))), ((cell_far (p := ⟨gb258, _, none⟩) (by first | exact Kd.own_blk (Kd.R_ne HO_246000.out BK258.out (by decide)) | (rw [add_block]; exact Kd.own_blk (Kd.R_ne HO_246000.out BK258.out (by decide))) | (show (Addr.add _ _).block ≠ _; rw [add_block]; exact Kd.own_blk (Kd.R_ne HO_246000.out BK258.out (by decide))) | (dsimp only; exact Kd.own_blk (Kd.R_ne HO_246000.out BK258.out (by decide)))) _).trans (((cell_far (p := ⟨gb258, _, none⟩) (by first | exact Kd.own_blk (Kd.R_ne HO_246000.out BK258.out (by decide)) | (rw [add_block]; exact Kd.own_blk (Kd.R_ne HO_246000.out BK258.out (by decide))) | (show (Addr.add _ _).block ≠ _; rw [add_block]; exact Kd.own_blk (Kd.R_ne HO_246000.out BK258.out (by decide))) | (dsimp only; exact Kd.own_blk (Kd.R_ne HO_246000.out BK258.out (by decide)))) _).trans (hHeld.2.2.1)))), ((cell_far (p := ⟨gb258, _, none⟩) (by first | exact Kd.own_blk (Kd.R_ne HO_246000.out BK258.out (by decide)) | (rw [add_block]; exact Kd.own_blk (Kd.R_ne HO_246000.out BK258.out (by decide))) | (show (Addr.add _ _).block ≠ _; rw [add_block]; exact Kd.own_blk (Kd.R_ne HO_246000.out BK258.out (by decide))) | (dsimp only; exact Kd.own_blk (Kd.R_ne HO_246000.out BK258.out (by decide)))) _).trans (((cell_far (p := ⟨gb258, _, none⟩) (by first | exact Kd.own_blk (Kd.R_ne HO_246000.out BK258.out (by decide)) | (rw [add_block]; exact Kd.own_blk (Kd.R_ne HO_246000.out BK258.out (by decide))) | (show (Addr.add _ _).block ≠ _; rw [add_block]; exact Kd.own_blk (Kd.R_ne HO_246000.out BK258.out (by decide))) | (dsimp only; exact Kd.own_blk (Kd.R_ne HO_246000.out BK258.out (by decide)))) _).trans (hHeld.2.2.2))))⟩ (fun hHeld => ?_)
     clear hK K
     refine done_ (done_of HT_.out (by kernel_rfl)) ?_
     have hnb47 := NB258_244.out
     have hnc47 := NB244_258.out
     have hnb48 := NB258_245.out
     have hnc48 := NB245_258.out
     have hnb49 := NB258_250.out
     have hnc49 := NB250_258.out
     have hnb50 := NB258_0.out
     have hnc50 := NB0_258.out
     have hcz51_0 := cz_ BK258 0 (.int .i64 0)
     have hcz51_1 := cz_ BK258 1 (.int .i64 0)
     have hfz51_0 := fz_ BK258 0
     have hfz51_1 := fz_ BK258 1
     try go_wp2_with (first | ((with_reducible refine gate_callee (f := 95) rfl ?_); refine gl_ (some 43) Try.func95 #[.agg #[.int .i64 ((rd_T30 x246000_1 t254).f0.f0), .int .i64 ((rd_T30 x246000_1 t254).f0.f1)]] ?_; (with_reducible refine (spec_Halves.calls ((rd_T30 x246000_1 t254).f0.f0) ((rd_T30 x246000_1 t254).f0.f1) t259 t260 t261 t262 true _ A34.out).mono ?_); rintro e w52 ⟨rfl, hb⟩; refine ⟨_, rfl, ?_⟩; replace HO_246000 := rs_ HO_246000 BK258 hb; replace BK244 := bf_ BK244 NB244_258 hb; replace BK245 := bf_ BK245 NB245_258 hb; replace BK250 := bf_ BK250 NB250_258 hb; replace BK258 := Aside0.mk (blk_below (g := gb258) (o := .cells #[.int .i64 ((rd_T30 x246000_1 t254).f0.f0), .int .i64 ((rd_T30 x246000_1 t254).f0.f1)] 28 (0, 0)) (by refine bd_ ?_; refine blk_put (cs := #[.int .i64 ((rd_T30 x246000_1 t254).f0.f0), .int .i64 0]) ?_ 1 _ rfl; refine bd_ ?_; refine blk_put (cs := #[.int .i64 0, .int .i64 0]) ?_ 0 _ rfl; refine bd_ ?_; exact BK258.out) hb); replace HK := kt_ HK (KeepBut.of_below hb g none); replace HB := bs112_ hb; replace HI0 := Aside0.mk (IsS112.below (show IsS112 w0 ((w44.setCell ⟨gb258, 0, none⟩ (.int .i64 ((rd_T30 x246000_1 t254).f0.f0))).setCell ⟨gb258, 1, none⟩ (.int .i64 ((rd_T30 x246000_1 t254).f0.f1))) g s0_0 t255 t256 from is112_) hb); (try clear hb); (try clear hb2); (try clear hk); (try clear hi)) | ((with_reducible refine gate_dst (N := 9) rfl ?_); refine box_event ?hg (N := 9) ?hd (cs := #[.int .i64 0, .int .i64 0]) (t := 28) ?hr ?_; (case hd => rfl); (case hg => rfl); (case hr => first | (go_simp; done) | (go_simp; rfl)); intro gb264 hg w53 hbox hb; have BK264 := Aside0.mk hbox; have GW264 := gw_ HK hg; have GE264 := gv_ HW0 HK hg; have NB244_264 := nl_ BK244 hg; have NB264_244 := ng_ BK244 hg; have NB245_264 := nl_ BK245 hg; have NB264_245 := ng_ BK245 hg; have NB250_264 := nl_ BK250 hg; have NB264_250 := ng_ BK250 hg; have NB258_264 := nl_ BK258 hg; have NB264_258 := ng_ BK258 hg; have NB0_264 := Aside0.mk ((by rw [hg]; exact Nat.ne_of_lt (IsS112.lt (show IsS112 w0 _ g s0_0 t255 t256 from is112_)) : g ≠ gb264)); have NB264_0 := Aside0.mk ((by rw [hg]; exact Nat.ne_of_gt (IsS112.lt (show IsS112 w0 _ g s0_0 t255 t256 from is112_)) : gb264 ≠ g)); replace HO_246000 := rb_ HO_246000 hb; replace HB := bs112_ hb; replace HK := kt_ HK (KeepBut.of_below hb g none); replace BK244 := ab_ BK244 hb; replace BK245 := ab_ BK245 hb; replace BK250 := ab_ BK250 hb; replace BK258 := ab_ BK258 hb; replace HI0 := Aside0.mk (IsS112.below is112_ hb); clear hb hbox hg) | ((with_reducible refine gate_dst (N := 10) rfl ?_); refine box_event ?hg (N := 10) ?hd (cs := #[.int .i64 0, .int .i64 0]) (t := 28) ?hr ?_; (case hd => rfl); (case hg => rfl); (case hr => first | (go_simp; done) | (go_simp; rfl)); intro gb265 hg w54 hbox hb; have BK265 := Aside0.mk hbox; have GW265 := gw_ HK hg; have GE265 := gv_ HW0 HK hg; have NB244_265 := nl_ BK244 hg; have NB265_244 := ng_ BK244 hg; have NB245_265 := nl_ BK245 hg; have NB265_245 := ng_ BK245 hg; have NB250_265 := nl_ BK250 hg; have NB265_250 := ng_ BK250 hg; have NB258_265 := nl_ BK258 hg; have NB265_258 := ng_ BK258 hg; have NB264_265 := nl_ BK264 hg; have NB265_264 := ng_ BK264 hg; have NB0_265 := Aside0.mk ((by rw [hg]; exact Nat.ne_of_lt (IsS112.lt (show IsS112 w0 _ g s0_0 t255 t256 from is112_)) : g ≠ gb265)); have NB265_0 := Aside0.mk ((by rw [hg]; exact Nat.ne_of_gt (IsS112.lt (show IsS112 w0 _ g s0_0 t255 t256 from is112_)) : gb265 ≠ g)); replace HO_246000 := rb_ HO_246000 hb; replace HB := bs112_ hb; replace HK := kt_ HK (KeepBut.of_below hb g none); replace BK244 := ab_ BK244 hb; replace BK245 := ab_ BK245 hb; replace BK250 := ab_ BK250 hb; replace BK258 := ab_ BK258 hb; replace BK264 := ab_ BK264 hb; replace HI0 := Aside0.mk (IsS112.below is112_ hb); clear hb hbox hg; have hnb55 := NB264_244.out; have hnc55 := NB244_264.out; have hnb56 := NB264_245.out; have hnc56 := NB245_264.out; have hnb57 := NB264_250.out; have hnc57 := NB250_264.out; have hnb58 := NB264_258.out; have hnc58 := NB258_264.out; have hnb59 := NB264_265.out; have hnc59 := NB265_264.out; have hnb60 := NB264_0.out; have hnc60 := NB0_264.out; have hcz61_0 := cz_ BK264 0 (.int .i64 0); have hcz61_1 := cz_ BK264 1 (.int .i64 0); have hfz61_0 := fz_ BK264 0; have hfz61_1 := fz_ BK264 1; have hnb62 := NB265_244.out; have hnc62 := NB244_265.out; have hnb63 := NB265_245.out; have hnc63 := NB245_265.out; have hnb64 := NB265_250.out; have hnc64 := NB250_265.out; have hnb65 := NB265_258.out; have hnc65 := NB258_265.out; have hnb66 := NB265_0.out; have hnc66 := NB0_265.out; have hcz67_0 := cz_ BK265 0 (.int .i64 0); have hcz67_1 := cz_ BK265 1 (.int .i64 0); have hfz67_0 := fz_ BK265 0; have hfz67_1 := fz_ BK265 1; have hnb68 := NB250_244.out; have hnc68 := NB244_250.out; have hnb69 := NB250_245.out; have hnc69 := NB245_250.out; have hnb70 := NB250_0.out; have hnc70 := NB0_250.out; have hcz71_0 := cz_ BK250 0 (.int .i64 t246); have hcz71_1 := cz_ BK250 1 (.int .i64 t247); have hfz71_0 := fz_ BK250 0; have hfz71_1 := fz_ BK250 1) | ((with_reducible refine gate_callee (f := 81) rfl ?_); refine gl_ (some 50) Try.func81 #[.pointer (some ⟨g, 0, none⟩), .int .i64 2] ?_; (with_reducible refine (spec_l01Once.calls g s0_0 t255 t256 2 true t267 t268 w0 _ ?side1 ?side2 A36.out).mono ?_); (case side1 => exact is112_); (case side2 => exact bw112_); rintro e w72 ⟨rfl, hi, hb, hk⟩; refine ⟨_, rfl, ?_⟩; replace HO_246000 := Aside0.mk (Kd.R_mono (Kd.R_keep (IsS112.apart (show IsS112 w0 _ g s0_0 t255 t256 from is112_) (by (with_reducible repeat (first | apply Kd.R_alloc | apply Kd.R_drewN | apply Kd.R_drew)); exact (Kd.R_mono (Kd.R_mono (Kd.R_mono (Kd.R_far (p := ⟨gb250, 1, none⟩) (Kd.R_far (p := ⟨gb250, 0, none⟩) (Kd.R_far (p := ⟨gb265, 1, none⟩) (Kd.R_far (p := ⟨gb265, 0, none⟩) (Kd.R_far (p := ⟨gb264, 1, none⟩) (Kd.R_far (p := ⟨gb264, 0, none⟩) (Kd.R_types (Kd.R_types (Kd.R_types HO_246000.out BK264.out (by decide)) BK265.out (by decide)) BK250.out (by decide)) (fun _ hk => hk.1.1.2) (.int .i64 t259)) (fun _ hk => hk.1.1.2) (.int .i64 t260)) (fun _ hk => hk.1.2) (.int .i64 t261)) (fun _ hk => hk.1.2) (.int .i64 t262)) (fun _ hk => hk.2) (.int .i64 t259)) (fun _ hk => hk.2) (.int .i64 t260)) (fun _ h_ => h_.1)) (fun _ h_ => h_.1)) (fun _ h_ => h_.1))) (by decide)) hk (fun _ h => h.2)) (fun _ h => h.1)); replace BK244 := kc_ BK244 NB244_0 hk; replace BK245 := kc_ BK245 NB245_0 hk; replace BK250 := Aside0.mk (KeepBut.blk hk (g' := gb250) (o := .cells #[.int .i64 t259, .int .i64 t260] 28 (0, 0)) (by refine bd_ ?_; refine blk_put (cs := #[.int .i64 t259, .int .i64 t247]) ?_ 1 _ rfl; refine bd_ ?_; refine blk_put (cs := #[.int .i64 t246, .int .i64 t247]) ?_ 0 _ rfl; refine bd_ ?_; refine blk_far ?_ NB250_265.out _; refine bd_ ?_; refine blk_far ?_ NB250_265.out _; refine bd_ ?_; refine blk_far ?_ NB250_264.out _; refine bd_ ?_; refine blk_far ?_ NB250_264.out _; refine bd_ ?_; exact BK250.out) NB250_0.out (by simp)); replace BK258 := kc_ BK258 NB258_0 hk; replace BK264 := Aside0.mk (KeepBut.blk hk (g' := gb264) (o := .cells #[.int .i64 t259, .int .i64 t260] 28 (0, 0)) (by refine bd_ ?_; refine blk_far ?_ NB264_250.out _; refine bd_ ?_; refine blk_far ?_ NB264_250.out _; refine bd_ ?_; refine blk_far ?_ NB264_265.out _; refine bd_ ?_; refine blk_far ?_ NB264_265.out _; refine bd_ ?_; refine blk_put (cs := #[.int .i64 t259, .int .i64 0]) ?_ 1 _ rfl; refine bd_ ?_; refine blk_put (cs := #[.int .i64 0, .int .i64 0]) ?_ 0 _ rfl; refine bd_ ?_; exact BK264.out) NB264_0.out (by simp)); replace BK265 := Aside0.mk (KeepBut.blk hk (g' := gb265) (o := .cells #[.int .i64 t261, .int .i64 t262] 28 (0, 0)) (by refine bd_ ?_; refine blk_far ?_ NB265_250.out _; refine bd_ ?_; refine blk_far ?_ NB265_250.out _; refine bd_ ?_; refine blk_put (cs := #[.int .i64 t261, .int .i64 0]) ?_ 1 _ rfl; refine bd_ ?_; refine blk_put (cs := #[.int .i64 0, .int .i64 0]) ?_ 0 _ rfl; refine bd_ ?_; refine blk_far ?_ NB265_264.out _; refine bd_ ?_; refine blk_far ?_ NB265_264.out _; refine bd_ ?_; exact BK265.out) NB265_0.out (by simp)); replace HK := kt_ HK hk; replace HB := Aside0.mk (hb); replace HI0 := Aside0.mk (hi); (try clear hb); (try clear hb2); (try clear hk); (try clear hi); have hcz73_0 := cz_ BK265 0 (.int .i64 t261); have hcz73_1 := cz_ BK265 1 (.int .i64 t262); have hfz73_0 := fz_ BK265 0; have hfz73_1 := fz_ BK265 1; have hcz74_0 := cz_ BK250 0 (.int .i64 t259); have hcz74_1 := cz_ BK250 1 (.int .i64 t260); have hfz74_0 := fz_ BK250 0; have hfz74_1 := fz_ BK250 1))
     have n0_ : Aside0 (Kd.R k30 30 ((w72.setCell ⟨gb250, 0, none⟩ (.int .i64 t261)).setCell ⟨gb250, 1, none⟩ (.int .i64 t262)) w.heap.size (fun _ => True) (.slice (some ad257) x246000_1.length co41) x246000_1) := ⟨by (with_reducible repeat (first | apply Kd.R_alloc | apply Kd.R_drewN | apply Kd.R_drew)); exact Kd.R_mono (Kd.R_far (p := ⟨gb250, 1, none⟩) (Kd.R_far (p := ⟨gb250, 0, none⟩) (Kd.R_types HO_246000.out BK250.out (by decide)) (fun _ hk => hk.2) (.int .i64 t261)) (fun _ hk => hk.2) (.int .i64 t262)) (fun _ hk => trivial)⟩
     have n1_ : Aside0 (((w72.setCell ⟨gb250, 0, none⟩ (.int .i64 t261)).setCell ⟨gb250, 1, none⟩ (.int .i64 t262)).heap[gb244]? = some (.cells #[.slice none 0 0] 26 (0, 0))) := ⟨bc_ BK244⟩
     have n2_ : Aside0 (((w72.setCell ⟨gb250, 0, none⟩ (.int .i64 t261)).setCell ⟨gb250, 1, none⟩ (.int .i64 t262)).heap[gb245]? = some (.cells #[.slice (some ad257) x246000_1.length co41] 26 (0, 0))) := ⟨bc_ BK245⟩
     have n3_ : Aside0 (((w72.setCell ⟨gb250, 0, none⟩ (.int .i64 t261)).setCell ⟨gb250, 1, none⟩ (.int .i64 t262)).heap[gb250]? = some (.cells #[.int .i64 t261, .int .i64 t262] 28 (0, 0))) := ⟨by refine bd_ ?_; refine blk_put (cs := #[.int .i64 t261, .int .i64 t260]) ?_ 1 _ rfl; refine bd_ ?_; refine blk_put (cs := #[.int .i64 t259, .int .i64 t260]) ?_ 0 _ rfl; refine bd_ ?_; exact BK250.out⟩
     have n4_ : Aside0 (((w72.setCell ⟨gb250, 0, none⟩ (.int .i64 t261)).setCell ⟨gb250, 1, none⟩ (.int .i64 t262)).heap[gb258]? = some (.cells #[.int .i64 ((rd_T30 x246000_1 t254).f0.f0), .int .i64 ((rd_T30 x246000_1 t254).f0.f1)] 28 (0, 0))) := ⟨bc_ BK258⟩
     have n5_ : Aside0 (((w72.setCell ⟨gb250, 0, none⟩ (.int .i64 t261)).setCell ⟨gb250, 1, none⟩ (.int .i64 t262)).heap[gb264]? = some (.cells #[.int .i64 t259, .int .i64 t260] 28 (0, 0))) := ⟨bc_ BK264⟩
     have n6_ : Aside0 (((w72.setCell ⟨gb250, 0, none⟩ (.int .i64 t261)).setCell ⟨gb250, 1, none⟩ (.int .i64 t262)).heap[gb265]? = some (.cells #[.int .i64 t261, .int .i64 t262] 28 (0, 0))) := ⟨bc_ BK265⟩
     have n7_ : Aside0 (IsS112 w0 ((w72.setCell ⟨gb250, 0, none⟩ (.int .i64 t261)).setCell ⟨gb250, 1, none⟩ (.int .i64 t262)) g s0_0 t267 t268) := ⟨is112_⟩
     have n8_ : Aside0 (KeepBut w ((w72.setCell ⟨gb250, 0, none⟩ (.int .i64 t261)).setCell ⟨gb250, 1, none⟩ (.int .i64 t262)) g none) := ⟨kx_ HK⟩
     have n9_ : Aside0 (Below w0.heap.size w0 ((w72.setCell ⟨gb250, 0, none⟩ (.int .i64 t261)).setCell ⟨gb250, 1, none⟩ (.int .i64 t262))) := ⟨bw112_⟩
     (try clear HO_246000)
     (try clear BK244)
     (try clear BK245)
     (try clear BK250)
     (try clear BK258)
     (try clear BK264)
     (try clear BK265)
     (try clear HI0)
     (try clear HK)
     (try clear HB)
     generalize ((w72.setCell ⟨gb250, 0, none⟩ (.int .i64 t261)).setCell ⟨gb250, 1, none⟩ (.int .i64 t262)) = w75 at n0_ n1_ n2_ n3_ n4_ n5_ n6_ n7_ n8_ n9_ ⊢
     have HO_246000 := n0_
     have BK244 := n1_
     have BK245 := n2_
     have BK250 := n3_
     have BK258 := n4_
     have BK264 := n5_
     have BK265 := n6_
     have HI0 := n7_
     have HK := n8_
     have HB := n9_
     clear n0_ n1_ n2_ n3_ n4_ n5_ n6_ n7_ n8_ n9_
     replace HO_246000 := Aside0.mk (Kd.R_drew HO_246000.out)
     replace BK244 := ad_ BK244
     replace BK245 := ad_ BK245
     replace BK250 := ad_ BK250
     replace BK258 := ad_ BK258
     replace BK264 := ad_ BK264
     replace BK265 := ad_ BK265
     replace HI0 := Aside0.mk (IsS112.drew HI0.out)
     replace HK := Aside0.mk (keep_drew HK.out)
     replace HB := Aside0.mk (below_drew1 HB.out)
     refine start_ (n := 12) (S := fun w' => w'.cell? ⟨gb245, 0, none⟩ = some (.slice (some ad257) x246000_1.length co41) ∧ w'.cell? ⟨gb250, 0, none⟩ = some (.int .i64 t261) ∧ w'.cell? ⟨gb250, 1, none⟩ = some (.int .i64 t262)) (ds := []) ba9_0 (by kernel_rfl) rfl rfl ⟨(blk_cell BK245.out 0).trans rfl, (blk_cell BK250.out 0).trans rfl, (blk_cell BK250.out 1).trans rfl⟩ (fun hHeld => ?_); refine with_tabW spec_l02DrawTable.tab13 spec_l02DrawTable.bits13 (fun HT_ HW_ => ?_)
     generalize w75.drew = w76 at HO_246000 BK244 BK245 BK250 BK258 BK264 BK265 HI0 HK HB hHeld ⊢
     refine pz_ 2 55 ba9_17 HT_ ?_
     refine pt_ 0 53 ba9_2 HT_ HW_ hHeld ?_
     refine pt_ 1 54 ba9_18 HT_ HW_ hHeld ?_
     refine join_ (σ := Value × Nat) 2 ba9_12 (fun s_ => [(56, .int .i64 t269), (58, .tuple #[.agg #[s_.1], .bool t275]), (12, .pointer (some ⟨s_.2, 0, none⟩)), (57, .agg #[.int .i64 t261, .int .i64 t262, .int .i64 t269]), (52, .tuple #[.agg #[s_.1], .bool t275]), (59, .agg #[s_.1]), (60, .bool t275)]) (fun s_ w' => (w'.cell? ⟨gb245, 0, none⟩ = some (.slice (some ad257) x246000_1.length co41) ∧ w'.cell? ⟨gb250, 0, none⟩ = some (.int .i64 t261) ∧ w'.cell? ⟨gb250, 1, none⟩ = some (.int .i64 t262)) ∧ (Kd.R k30 30 w' w.heap.size (fun k_ => some k_ ≠ (.slice (some ad257) x246000_1.length co41 : Value).ownBlock) s_.1 t272) ∧ (Kd.R k30 30 w' w.heap.size (fun k_ => some k_ ≠ (s_.1 : Value).ownBlock) (.slice (some ad257) x246000_1.length co41) x246000_1) ∧ (w'.heap[gb244]? = some (.cells #[.slice none 0 0] 26 (0, 0))) ∧ (w'.heap[gb245]? = some (.cells #[.slice (some ad257) x246000_1.length co41] 26 (0, 0))) ∧ (w'.heap[gb250]? = some (.cells #[.int .i64 t261, .int .i64 t262] 28 (0, 0))) ∧ (w'.heap[gb258]? = some (.cells #[.int .i64 ((rd_T30 x246000_1 t254).f0.f0), .int .i64 ((rd_T30 x246000_1 t254).f0.f1)] 28 (0, 0))) ∧ (w'.heap[gb264]? = some (.cells #[.int .i64 t259, .int .i64 t260] 28 (0, 0))) ∧ (w'.heap[gb265]? = some (.cells #[.int .i64 t261, .int .i64 t262] 28 (0, 0))) ∧ (w'.heap[s_.2]? = some (.cells #[.slice none 0 0] 26 (0, 0))) ∧ (w.heap.size ≤ s_.2) ∧ (w0.heap.size ≤ s_.2) ∧ (g ≠ s_.2) ∧ (s_.2 ≠ g) ∧ (gb244 ≠ s_.2) ∧ (s_.2 ≠ gb244) ∧ (gb245 ≠ s_.2) ∧ (s_.2 ≠ gb245) ∧ (gb250 ≠ s_.2) ∧ (s_.2 ≠ gb250) ∧ (gb258 ≠ s_.2) ∧ (s_.2 ≠ gb258) ∧ (gb264 ≠ s_.2) ∧ (s_.2 ≠ gb264) ∧ (gb265 ≠ s_.2) ∧ (s_.2 ≠ gb265) ∧ (IsS112 w0 w' g s0_0 t270 t271) ∧ (KeepBut w w' g none) ∧ (Below w0.heap.size w0 w')) ?_ ?_
     rotate_left
     ·intro hCont
      refine two_ (i := 3) (j := 9) (Ni := some 56) (Nj := some 12) ba9_4 ba9_19 rfl rfl rfl rfl (two_of HT_.out (by kernel_rfl)) (by decide) (by decide) (fun K hK => ?_) (fun K hK => ?_)
      ·skip
       refine gz_ Try.func44 #[.pointer (some ⟨g, 0, none⟩), .int .i64 4] ?_
       with_reducible refine (spec_l01Below.calls g s0_0 t267 t268 4 t269 t270 t271 w0 _ ?side1 ?side2 A38.out).mono ?_
       (case side1 => exact is112_)
       (case side2 => exact bw112_)
       rintro e w77 ⟨rfl, hi, hb, hk⟩
       refine ⟨_, rfl, ?_⟩
       replace HO_246000 := ak112_ HO_246000 (show IsS112 w0 _ g s0_0 t267 t268 from is112_) hk
       replace BK244 := kb_ BK244 NB244_0 hk
       replace BK245 := kb_ BK245 NB245_0 hk
       replace BK250 := kb_ BK250 NB250_0 hk
       replace BK258 := kb_ BK258 NB258_0 hk
       replace BK264 := kb_ BK264 NB264_0 hk
       replace BK265 := kb_ BK265 NB265_0 hk
       replace HK := kt_ HK hk
       replace HB := Aside0.mk (hb)
       replace HI0 := Aside0.mk (hi)
       (try clear hb)
       (try clear hb2)
       (try clear hk)
       (try clear hi)
       refine hK.out _ _ ⟨(blk_cell BK245.out 0).trans rfl, (blk_cell BK250.out 0).trans rfl, (blk_cell BK250.out 1).trans rfl⟩ (fun hHeld => ?_)
       clear hK K
       refine nz_ 56 ?_
       refine pz_ 4 57 ba9_5 HT_ ?_
       refine two_ (i := 5) (j := 9) (Ni := some 58) (Nj := some 12) ba9_6 ba9_20 rfl rfl rfl rfl (two_of HT_.out (by kernel_rfl)) (by decide) (by decide) (fun K hK => ?_) (fun K hK => ?_)
       ·skip
        refine gz_ Try.func10 #[.agg #[.slice (some ad257) x246000_1.length co41], .agg #[.int .i64 t261, .int .i64 t262, .int .i64 t269]] ?_
        with_reducible refine (spec_PutRoute.calls kj9 _ _ x246000_1 t261 t262 t269 t272 t275 _ ?side1 ?side2 A39.out).mono ?_
        (case side1 => exact rc_ HO_246000)
        (case side2 => exact (Kd.R_reads' HO_246000.out).2.1)
        rintro e w78 ⟨v273, rfl, ho0, hb⟩
        refine ⟨_, rfl, ?_⟩
        have HO274 := Aside0.mk (Kd.R_lower (Kd.R_new' ho0 (Kd.R_lt (hd_ HO_246000))) (keep_size (w := w) (g := g) (row := none) (kx_ HK)))
        replace HO_246000 := Aside0.mk (Kd.R_elder' (hd_ HO_246000) (Kd.R_base ho0) hb)
        replace BK244 := ab_ BK244 hb
        replace BK245 := ab_ BK245 hb
        replace BK250 := ab_ BK250 hb
        replace BK258 := ab_ BK258 hb
        replace BK264 := ab_ BK264 hb
        replace BK265 := ab_ BK265 hb
        replace HK := kt_ HK (KeepBut.of_below hb g none)
        replace HB := bs112_ hb
        replace HI0 := Aside0.mk (IsS112.below is112_ hb)
        (try clear hb)
        (try clear hb2)
        (try clear hk)
        (try clear hi)
        (try clear ho0)
        refine hK.out _ _ ⟨(blk_cell BK245.out 0).trans rfl, (blk_cell BK250.out 0).trans rfl, (blk_cell BK250.out 1).trans rfl⟩ (fun hHeld => ?_)
        clear hK K
        refine nz_ 58 ?_
        refine pz_ 6 52 ba9_8 HT_ ?_
        refine pz_ 7 59 ba9_10 HT_ ?_
        refine pz_ 8 60 ba9_11 HT_ ?_
        refine one_ (i := 9) (N := some 12) ba9_12 rfl rfl (one_of HT_.out (by kernel_rfl)) (by decide) (fun K hK => ?_)
        refine box_step ?hg (N := 12) ?hd (cs := #[.slice none 0 0]) (t := 26) ?hr ?_; (case hd => rfl); (case hg => rfl); (case hr => first | (go_simp; done) | (go_simp; rfl))
        intro gb276 hg w79 hbox hb
        have BK276 := Aside0.mk hbox
        have GW276 := gw_ HK hg
        have GE276 := gv_ HW0 HK hg
        have NB244_276 := nl_ BK244 hg
        have NB276_244 := ng_ BK244 hg
        have NB245_276 := nl_ BK245 hg
        have NB276_245 := ng_ BK245 hg
        have NB250_276 := nl_ BK250 hg
        have NB276_250 := ng_ BK250 hg
        have NB258_276 := nl_ BK258 hg
        have NB276_258 := ng_ BK258 hg
        have NB264_276 := nl_ BK264 hg
        have NB276_264 := ng_ BK264 hg
        have NB265_276 := nl_ BK265 hg
        have NB276_265 := ng_ BK265 hg
        have NB0_276 := Aside0.mk ((by rw [hg]; exact Nat.ne_of_lt (IsS112.lt (show IsS112 w0 _ g s0_0 t270 t271 from is112_)) : g ≠ gb276))
        have NB276_0 := Aside0.mk ((by rw [hg]; exact Nat.ne_of_gt (IsS112.lt (show IsS112 w0 _ g s0_0 t270 t271 from is112_)) : gb276 ≠ g))
        replace HO_246000 := rb_ HO_246000 hb
        replace HO274 := rb_ HO274 hb
        replace HB := bs112_ hb
        replace HK := kt_ HK (KeepBut.of_below hb g none)
        replace BK244 := ab_ BK244 hb
        replace BK245 := ab_ BK245 hb
        replace BK250 := ab_ BK250 hb
        replace BK258 := ab_ BK258 hb
        replace BK264 := ab_ BK264 hb
        replace BK265 := ab_ BK265 hb
        replace HI0 := Aside0.mk (IsS112.below is112_ hb)
        clear hb hbox hg
        refine hK.out _ _ ⟨(blk_cell BK245.out 0).trans rfl, (blk_cell BK250.out 0).trans rfl, (blk_cell BK250.out 1).trans rfl⟩ (fun hHeld => ?_)
        clear hK K
        refine nz_ 12 ?_
        exact norm_ (by simp only [putAll, Act.put, List.setIfInBounds_toArray, List.set_cons_zero, List.set_cons_succ]) (hCont (v273, gb276) _ ⟨hHeld, (by (with_reducible repeat (first | apply Kd.R_alloc | apply Kd.R_drewN | apply Kd.R_drew)); exact Kd.R_mono HO274.out (fun _ hk => hk.2)), (by (with_reducible repeat (first | apply Kd.R_alloc | apply Kd.R_drewN | apply Kd.R_drew)); exact Kd.R_mono HO_246000.out (fun _ hk => hk.2)), (bx_ BK244), (bx_ BK245), (bx_ BK250), (bx_ BK258), (bx_ BK264), (bx_ BK265), (bx_ BK276), GW276.out, GE276.out, NB0_276.out, NB276_0.out, NB244_276.out, NB276_244.out, NB245_276.out, NB276_245.out, NB250_276.out, NB276_250.out, NB258_276.out, NB276_258.out, NB264_276.out, NB276_264.out, NB265_276.out, NB276_265.out, (is112_), (kx_ HK), (bw112_)⟩)
       ·skip
        refine box_step ?hg (N := 12) ?hd (cs := #[.slice none 0 0]) (t := 26) ?hr ?_; (case hd => rfl); (case hg => rfl); (case hr => first | (go_simp; done) | (go_simp; rfl))
        intro gb276 hg w78 hbox hb
        have BK276 := Aside0.mk hbox
        have GW276 := gw_ HK hg
        have GE276 := gv_ HW0 HK hg
        have NB244_276 := nl_ BK244 hg
        have NB276_244 := ng_ BK244 hg
        have NB245_276 := nl_ BK245 hg
        have NB276_245 := ng_ BK245 hg
        have NB250_276 := nl_ BK250 hg
        have NB276_250 := ng_ BK250 hg
        have NB258_276 := nl_ BK258 hg
        have NB276_258 := ng_ BK258 hg
        have NB264_276 := nl_ BK264 hg
        have NB276_264 := ng_ BK264 hg
        have NB265_276 := nl_ BK265 hg
        have NB276_265 := ng_ BK265 hg
        have NB0_276 := Aside0.mk ((by rw [hg]; exact Nat.ne_of_lt (IsS112.lt (show IsS112 w0 _ g s0_0 t270 t271 from is112_)) : g ≠ gb276))
        have NB276_0 := Aside0.mk ((by rw [hg]; exact Nat.ne_of_gt (IsS112.lt (show IsS112 w0 _ g s0_0 t270 t271 from is112_)) : gb276 ≠ g))
        replace HO_246000 := rb_ HO_246000 hb
        replace HB := bs112_ hb
        replace HK := kt_ HK (KeepBut.of_below hb g none)
        replace BK244 := ab_ BK244 hb
        replace BK245 := ab_ BK245 hb
        replace BK250 := ab_ BK250 hb
        replace BK258 := ab_ BK258 hb
        replace BK264 := ab_ BK264 hb
        replace BK265 := ab_ BK265 hb
        replace HI0 := Aside0.mk (IsS112.below is112_ hb)
        clear hb hbox hg
        refine hK.out _ _ ⟨(blk_cell BK245.out 0).trans rfl, (blk_cell BK250.out 0).trans rfl, (blk_cell BK250.out 1).trans rfl⟩ (fun hHeld => ?_)
        clear hK K
        refine nz_ 12 ?_
        refine one_ (i := 5) (N := some 58) ba9_21 rfl rfl (one_of HT_.out (by kernel_rfl)) (by decide) (fun K hK => ?_)
        refine gz_ Try.func10 #[.agg #[.slice (some ad257) x246000_1.length co41], .agg #[.int .i64 t261, .int .i64 t262, .int .i64 t269]] ?_
        with_reducible refine (spec_PutRoute.calls kj9 _ _ x246000_1 t261 t262 t269 t272 t275 _ ?side1 ?side2 A39.out).mono ?_
        (case side1 => exact rc_ HO_246000)
        (case side2 => exact (Kd.R_reads' HO_246000.out).2.1)
        rintro e w79 ⟨v273, rfl, ho0, hb⟩
        refine ⟨_, rfl, ?_⟩
        have HO274 := Aside0.mk (Kd.R_lower (Kd.R_new' ho0 (Kd.R_lt (hd_ HO_246000))) (keep_size (w := w) (g := g) (row := none) (kx_ HK)))
        replace HO_246000 := Aside0.mk (Kd.R_elder' (hd_ HO_246000) (Kd.R_base ho0) hb)
        replace BK244 := ab_ BK244 hb
        replace BK245 := ab_ BK245 hb
        replace BK250 := ab_ BK250 hb
        replace BK258 := ab_ BK258 hb
        replace BK264 := ab_ BK264 hb
        replace BK265 := ab_ BK265 hb
        replace BK276 := ab_ BK276 hb
        replace HK := kt_ HK (KeepBut.of_below hb g none)
        replace HB := bs112_ hb
        replace HI0 := Aside0.mk (IsS112.below is112_ hb)
        (try clear hb)
        (try clear hb2)
        (try clear hk)
        (try clear hi)
        (try clear ho0)
        refine hK.out _ _ ⟨(blk_cell BK245.out 0).trans rfl, (blk_cell BK250.out 0).trans rfl, (blk_cell BK250.out 1).trans rfl⟩ (fun hHeld => ?_)
        clear hK K
        refine nz_ 58 ?_
        refine pz_ 6 52 ba9_22 HT_ ?_
        refine pz_ 7 59 ba9_23 HT_ ?_
        refine pz_ 8 60 ba9_12 HT_ ?_
        exact norm_ (by simp only [putAll, Act.put, List.setIfInBounds_toArray, List.set_cons_zero, List.set_cons_succ]) (hCont (v273, gb276) _ ⟨hHeld, (by (with_reducible repeat (first | apply Kd.R_alloc | apply Kd.R_drewN | apply Kd.R_drew)); exact Kd.R_mono HO274.out (fun _ hk => hk.2)), (by (with_reducible repeat (first | apply Kd.R_alloc | apply Kd.R_drewN | apply Kd.R_drew)); exact Kd.R_mono HO_246000.out (fun _ hk => hk.2)), (bx_ BK244), (bx_ BK245), (bx_ BK250), (bx_ BK258), (bx_ BK264), (bx_ BK265), (bx_ BK276), GW276.out, GE276.out, NB0_276.out, NB276_0.out, NB244_276.out, NB276_244.out, NB245_276.out, NB276_245.out, NB250_276.out, NB276_250.out, NB258_276.out, NB276_258.out, NB264_276.out, NB276_264.out, NB265_276.out, NB276_265.out, (is112_), (kx_ HK), (bw112_)⟩)
      ·skip
       refine box_step ?hg (N := 12) ?hd (cs := #[.slice none 0 0]) (t := 26) ?hr ?_; (case hd => rfl); (case hg => rfl); (case hr => first | (go_simp; done) | (go_simp; rfl))
       intro gb276 hg w77 hbox hb
       have BK276 := Aside0.mk hbox
       have GW276 := gw_ HK hg
       have GE276 := gv_ HW0 HK hg
       have NB244_276 := nl_ BK244 hg
       have NB276_244 := ng_ BK244 hg
       have NB245_276 := nl_ BK245 hg
       have NB276_245 := ng_ BK245 hg
       have NB250_276 := nl_ BK250 hg
       have NB276_250 := ng_ BK250 hg
       have NB258_276 := nl_ BK258 hg
       have NB276_258 := ng_ BK258 hg
       have NB264_276 := nl_ BK264 hg
       have NB276_264 := ng_ BK264 hg
       have NB265_276 := nl_ BK265 hg
       have NB276_265 := ng_ BK265 hg
       have NB0_276 := Aside0.mk ((by rw [hg]; exact Nat.ne_of_lt (IsS112.lt (show IsS112 w0 _ g s0_0 t267 t268 from is112_)) : g ≠ gb276))
       have NB276_0 := Aside0.mk ((by rw [hg]; exact Nat.ne_of_gt (IsS112.lt (show IsS112 w0 _ g s0_0 t267 t268 from is112_)) : gb276 ≠ g))
       replace HO_246000 := rb_ HO_246000 hb
       replace HB := bs112_ hb
       replace HK := kt_ HK (KeepBut.of_below hb g none)
       replace BK244 := ab_ BK244 hb
       replace BK245 := ab_ BK245 hb
       replace BK250 := ab_ BK250 hb
       replace BK258 := ab_ BK258 hb
       replace BK264 := ab_ BK264 hb
       replace BK265 := ab_ BK265 hb
       replace HI0 := Aside0.mk (IsS112.below is112_ hb)
       clear hb hbox hg
       refine hK.out _ _ ⟨(blk_cell BK245.out 0).trans rfl, (blk_cell BK250.out 0).trans rfl, (blk_cell BK250.out 1).trans rfl⟩ (fun hHeld => ?_)
       clear hK K
       refine nz_ 12 ?_
       refine one_ (i := 3) (N := some 56) ba9_24 rfl rfl (one_of HT_.out (by kernel_rfl)) (by decide) (fun K hK => ?_)
       refine gz_ Try.func44 #[.pointer (some ⟨g, 0, none⟩), .int .i64 4] ?_
       with_reducible refine (spec_l01Below.calls g s0_0 t267 t268 4 t269 t270 t271 w0 _ ?side1 ?side2 A38.out).mono ?_
       (case side1 => exact is112_)
       (case side2 => exact bw112_)
       rintro e w78 ⟨rfl, hi, hb, hk⟩
       refine ⟨_, rfl, ?_⟩
       replace HO_246000 := ak112_ HO_246000 (show IsS112 w0 _ g s0_0 t267 t268 from is112_) hk
       replace BK244 := kb_ BK244 NB244_0 hk
       replace BK245 := kb_ BK245 NB245_0 hk
       replace BK250 := kb_ BK250 NB250_0 hk
       replace BK258 := kb_ BK258 NB258_0 hk
       replace BK264 := kb_ BK264 NB264_0 hk
       replace BK265 := kb_ BK265 NB265_0 hk
       replace BK276 := kb_ BK276 NB276_0 hk
       replace HK := kt_ HK hk
       replace HB := Aside0.mk (hb)
       replace HI0 := Aside0.mk (hi)
       (try clear hb)
       (try clear hb2)
       (try clear hk)
       (try clear hi)
       refine hK.out _ _ ⟨(blk_cell BK245.out 0).trans rfl, (blk_cell BK250.out 0).trans rfl, (blk_cell BK250.out 1).trans rfl⟩ (fun hHeld => ?_)
       clear hK K
       refine nz_ 56 ?_
       refine pz_ 4 57 ba9_20 HT_ ?_
       refine one_ (i := 5) (N := some 58) ba9_21 rfl rfl (one_of HT_.out (by kernel_rfl)) (by decide) (fun K hK => ?_)
       refine gz_ Try.func10 #[.agg #[.slice (some ad257) x246000_1.length co41], .agg #[.int .i64 t261, .int .i64 t262, .int .i64 t269]] ?_
       with_reducible refine (spec_PutRoute.calls kj9 _ _ x246000_1 t261 t262 t269 t272 t275 _ ?side1 ?side2 A39.out).mono ?_
       (case side1 => exact rc_ HO_246000)
       (case side2 => exact (Kd.R_reads' HO_246000.out).2.1)
       rintro e w79 ⟨v273, rfl, ho0, hb⟩
       refine ⟨_, rfl, ?_⟩
       have HO274 := Aside0.mk (Kd.R_lower (Kd.R_new' ho0 (Kd.R_lt (hd_ HO_246000))) (keep_size (w := w) (g := g) (row := none) (kx_ HK)))
       replace HO_246000 := Aside0.mk (Kd.R_elder' (hd_ HO_246000) (Kd.R_base ho0) hb)
       replace BK244 := ab_ BK244 hb
       replace BK245 := ab_ BK245 hb
       replace BK250 := ab_ BK250 hb
       replace BK258 := ab_ BK258 hb
       replace BK264 := ab_ BK264 hb
       replace BK265 := ab_ BK265 hb
       replace BK276 := ab_ BK276 hb
       replace HK := kt_ HK (KeepBut.of_below hb g none)
       replace HB := bs112_ hb
       replace HI0 := Aside0.mk (IsS112.below is112_ hb)
       (try clear hb)
       (try clear hb2)
       (try clear hk)
       (try clear hi)
       (try clear ho0)
       refine hK.out _ _ ⟨(blk_cell BK245.out 0).trans rfl, (blk_cell BK250.out 0).trans rfl, (blk_cell BK250.out 1).trans rfl⟩ (fun hHeld => ?_)
       clear hK K
       refine nz_ 58 ?_
       refine pz_ 6 52 ba9_22 HT_ ?_
       refine pz_ 7 59 ba9_23 HT_ ?_
       refine pz_ 8 60 ba9_12 HT_ ?_
       exact norm_ (by simp only [putAll, Act.put, List.setIfInBounds_toArray, List.set_cons_zero, List.set_cons_succ]) (hCont (v273, gb276) _ ⟨hHeld, (by (with_reducible repeat (first | apply Kd.R_alloc | apply Kd.R_drewN | apply Kd.R_drew)); exact Kd.R_mono HO274.out (fun _ hk => hk.2)), (by (with_reducible repeat (first | apply Kd.R_alloc | apply Kd.R_drewN | apply Kd.R_drew)); exact Kd.R_mono HO_246000.out (fun _ hk => hk.2)), (bx_ BK244), (bx_ BK245), (bx_ BK250), (bx_ BK258), (bx_ BK264), (bx_ BK265), (bx_ BK276), GW276.out, GE276.out, NB0_276.out, NB276_0.out, NB244_276.out, NB276_244.out, NB245_276.out, NB276_245.out, NB250_276.out, NB276_250.out, NB258_276.out, NB276_258.out, NB264_276.out, NB276_264.out, NB265_276.out, NB276_265.out, (is112_), (kx_ HK), (bw112_)⟩)
     rintro ⟨v273, gb276⟩ w80 ⟨hS_, h0_, h1_, h2_, h3_, h4_, h5_, h6_, h7_, h8_, h9_, h10_, h11_, h12_, h13_, h14_, h15_, h16_, h17_, h18_, h19_, h20_, h21_, h22_, h23_, h24_, h25_, h26_, h27_⟩
     have HO274 : Aside0 (Kd.R k30 30 w80 w.heap.size (fun k_ => some k_ ≠ (.slice (some ad257) x246000_1.length co41 : Value).ownBlock) v273 t272) := ⟨h0_⟩
     have BK276 : Aside0 (w80.heap[gb276]? = some (.cells #[.slice none 0 0] 26 (0, 0))) := ⟨h8_⟩
     have GW276 : Aside0 (w.heap.size ≤ gb276) := ⟨h9_⟩
     have GE276 : Aside0 (w0.heap.size ≤ gb276) := ⟨h10_⟩
     have NB0_276 : Aside0 (g ≠ gb276) := ⟨h11_⟩
     have NB276_0 : Aside0 (gb276 ≠ g) := ⟨h12_⟩
     have NB244_276 : Aside0 (gb244 ≠ gb276) := ⟨h13_⟩
     have NB276_244 : Aside0 (gb276 ≠ gb244) := ⟨h14_⟩
     have NB245_276 : Aside0 (gb245 ≠ gb276) := ⟨h15_⟩
     have NB276_245 : Aside0 (gb276 ≠ gb245) := ⟨h16_⟩
     have NB250_276 : Aside0 (gb250 ≠ gb276) := ⟨h17_⟩
     have NB276_250 : Aside0 (gb276 ≠ gb250) := ⟨h18_⟩
     have NB258_276 : Aside0 (gb258 ≠ gb276) := ⟨h19_⟩
     have NB276_258 : Aside0 (gb276 ≠ gb258) := ⟨h20_⟩
     have NB264_276 : Aside0 (gb264 ≠ gb276) := ⟨h21_⟩
     have NB276_264 : Aside0 (gb276 ≠ gb264) := ⟨h22_⟩
     have NB265_276 : Aside0 (gb265 ≠ gb276) := ⟨h23_⟩
     have NB276_265 : Aside0 (gb276 ≠ gb265) := ⟨h24_⟩
     replace HO_246000 : Aside0 (Kd.R k30 30 w80 w.heap.size (fun k_ => some k_ ≠ (v273 : Value).ownBlock) (.slice (some ad257) x246000_1.length co41) x246000_1) := ⟨h1_⟩
     replace BK244 : Aside0 (w80.heap[gb244]? = some (.cells #[.slice none 0 0] 26 (0, 0))) := ⟨h2_⟩
     replace BK245 : Aside0 (w80.heap[gb245]? = some (.cells #[.slice (some ad257) x246000_1.length co41] 26 (0, 0))) := ⟨h3_⟩
     replace BK250 : Aside0 (w80.heap[gb250]? = some (.cells #[.int .i64 t261, .int .i64 t262] 28 (0, 0))) := ⟨h4_⟩
     replace BK258 : Aside0 (w80.heap[gb258]? = some (.cells #[.int .i64 ((rd_T30 x246000_1 t254).f0.f0), .int .i64 ((rd_T30 x246000_1 t254).f0.f1)] 28 (0, 0))) := ⟨h5_⟩
     replace BK264 : Aside0 (w80.heap[gb264]? = some (.cells #[.int .i64 t259, .int .i64 t260] 28 (0, 0))) := ⟨h6_⟩
     replace BK265 : Aside0 (w80.heap[gb265]? = some (.cells #[.int .i64 t261, .int .i64 t262] 28 (0, 0))) := ⟨h7_⟩
     replace HI0 : Aside0 (IsS112 w0 w80 g s0_0 t270 t271) := ⟨h25_⟩
     replace HK : Aside0 (KeepBut w w80 g none) := ⟨h26_⟩
     replace HB : Aside0 (Below w0.heap.size w0 w80) := ⟨h27_⟩
     clear h0_ h1_ h2_ h3_ h4_ h5_ h6_ h7_ h8_ h9_ h10_ h11_ h12_ h13_ h14_ h15_ h16_ h17_ h18_ h19_ h20_ h21_ h22_ h23_ h24_ h25_ h26_ h27_
     have hHeld : w80.cell? ⟨gb245, 0, none⟩ = some (.slice (some ad257) x246000_1.length co41) ∧ w80.cell? ⟨gb250, 0, none⟩ = some (.int .i64 t261) ∧ w80.cell? ⟨gb250, 1, none⟩ = some (.int .i64 t262) := hS_
     obtain ⟨Ao81, co81, eo81⟩ := Kd.R_slice HO274.out
     (first | subst eo81 | (injection eo81 with f1_ f2_ f3_; have f4_ := f1_.symm; have f5_ := f3_.symm; clear f1_ f2_ f3_; subst f4_; subst f5_))
     refine norm_ (a' := ?_) ?_ ?_
     rotate_left; · simp only [putAll, Act.put, List.setIfInBounds_toArray, List.set_cons_zero, List.set_cons_succ]; rfl
     refine one_ (i := 10) (N := none) ba9_7 rfl rfl (one_of HT_.out (by kernel_rfl)) (by decide) (fun K hK => ?_)
     have hs82 : w80.cell? ⟨gb276, 0, none⟩ = some (.slice none 0 0) := (blk_cell BK276.out 0).trans rfl
     have hfs82 := fz_ BK276 0
     have hns82_0 := NB244_276.out
     have hns82_1 := NB245_276.out
     have hns82_2 := NB250_276.out
     have hns82_3 := NB258_276.out
     have hns82_4 := NB264_276.out
     have hns82_5 := NB265_276.out
     have hms82_0 := NB276_244.out
     have hms82_1 := NB276_245.out
     have hms82_2 := NB276_250.out
     have hms82_3 := NB276_258.out
     have hms82_4 := NB276_264.out
     have hms82_5 := NB276_265.out
     refine skip_ (w1 := ?_) (by rfl) rfl ?_ ?_
     rotate_left; · go_simp; rfl
     refine hK.out _ _ ⟨((cell_far (p := ⟨gb276, _, none⟩) NB245_276.out _).trans (hHeld.1)), ((cell_far (p := ⟨gb276, _, none⟩) NB250_276.out _).trans (hHeld.2.1)), ((cell_far (p := ⟨gb276, _, none⟩) NB250_276.out _).trans (hHeld.2.2))⟩ (fun hHeld => ?_)
     clear hK K
     refine pz_ 11 13 ba9_16 HT_ ?_
     refine done_ (done_of HT_.out (by kernel_rfl)) ?_
     have hnb83 := NB276_244.out
     have hnc83 := NB244_276.out
     have hnb84 := NB276_245.out
     have hnc84 := NB245_276.out
     have hnb85 := NB276_250.out
     have hnc85 := NB250_276.out
     have hnb86 := NB276_258.out
     have hnc86 := NB258_276.out
     have hnb87 := NB276_264.out
     have hnc87 := NB264_276.out
     have hnb88 := NB276_265.out
     have hnc88 := NB265_276.out
     have hnb89 := NB276_0.out
     have hnc89 := NB0_276.out
     have hcz90_0 := cz_ BK276 0 (.slice none 0 0)
     have hfz90_0 := fz_ BK276 0
     have hnb91 := NB245_244.out
     have hnc91 := NB244_245.out
     have hnb92 := NB245_0.out
     have hnc92 := NB0_245.out
     have hcz93_0 := cz_ BK245 0 (.slice (some ad257) x246000_1.length co41)
     have hfz93_0 := fz_ BK245 0
     try go_wp2
     go_roundg kj9
     case measure => have := HK1.out; have := HJ9.out; omega
     case rel => exact ⟨(wrap64 (x6_1 + 1)), (t270), (t271), (t272), (.slice Ao81 t272.length co81), er_, H', ⟨by have := HK1.out; have := HJ9.out; omega⟩, ⟨by (with_reducible repeat (first | apply Kd.R_alloc | apply Kd.R_drewN | apply Kd.R_drew)); exact Kd.R_mono (Kd.R_far (p := ⟨gb245, 0, none⟩) (Kd.R_far (p := ⟨gb276, 0, none⟩) (Kd.R_types (Kd.R_types HO274.out BK276.out (by decide)) BK245.out (by decide)) (fun _ hk => hk.1.2) (.slice Ao81 t272.length co81)) (fun _ hk => hk.2) (.slice Ao81 t272.length co81)) (fun _ hk => trivial)⟩, ⟨bc_ BK244⟩, ⟨by refine bd_ ?_; refine blk_put (cs := #[.slice (some ad257) x246000_1.length co41]) ?_ 0 _ rfl; refine bd_ ?_; refine blk_far ?_ NB245_276.out _; refine bd_ ?_; exact BK245.out⟩, ⟨is112_⟩, ⟨kx_ HK⟩, ⟨bw112_⟩⟩

end Go.Proofs.Ytjepmdngbafonaa.QFnRoutes
