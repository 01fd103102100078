/- Contracts of functions that the law reaches: what each call returns and what it leaves in memory. Made by this session over the print of the kit. -/
import Derived.Test.YthmahcohcphljaaQFnSharesx0
import Derived.Test.YthmahcohcphljaaQFnSharesx5
import Derived.Test.YthmahcohcphljaaQFnSharesx6
import Derived.Test.YthmahcohcphljaaQFnSharesx7
import Derived.Test.YthmahcohcphljaaQFnSharesx9
import Derived.Test.YthmahcohcphljaaQFnSharesx10
namespace Go.Proofs.Ythmahcohcphljaa.QFnShares
open Go.RowKit Go.Proofs.YthmahcohcphljaaS.PrintWords Go.Proofs.YthmahcohcphljaaS.PrintLast Go.Proofs.YthmahcohcphljaaS.PrintMore
attribute [local go_sem] max2_int min2_int max_two min_two max_three min_three max_four min_four   -- for this text's walks alone
set_option linter.unusedVariables false
set_option linter.unusedSimpArgs false
def ba11_0 : Array Bool := bs_ 8 0
def ba11_1 : Array Bool := bs_ 8 2
def ba11_2 : Array Bool := bs_ 8 3
def ba11_3 : Array Bool := bs_ 8 7
def ba11_4 : Array Bool := bs_ 8 15
def ba11_5 : Array Bool := bs_ 8 31
def ba11_6 : Array Bool := bs_ 8 63
def ba11_7 : Array Bool := bs_ 8 127
def ba11_8 : Array Bool := bs_ 8 255
def ba11_9 : Array Bool := bs_ 13 0
def ba11_10 : Array Bool := bs_ 13 1
def ba11_11 : Array Bool := bs_ 13 3
def ba11_12 : Array Bool := bs_ 13 7
def ba11_13 : Array Bool := bs_ 13 15
def ba11_14 : Array Bool := bs_ 13 31
def ba11_15 : Array Bool := bs_ 13 63
def ba11_16 : Array Bool := bs_ 13 127
def ba11_17 : Array Bool := bs_ 13 255
def ba11_18 : Array Bool := bs_ 13 511
def ba11_19 : Array Bool := bs_ 13 1023
def ba11_20 : Array Bool := bs_ 13 2047
def ba11_21 : Array Bool := bs_ 13 4095
def ba11_22 : Array Bool := bs_ 13 8191
def ba11_23 : Array Bool := bs_ 13 47
def ba11_24 : Array Bool := bs_ 14 0
def ba11_25 : Array Bool := bs_ 14 1
def ba11_26 : Array Bool := bs_ 14 3
def ba11_27 : Array Bool := bs_ 14 7
def ba11_28 : Array Bool := bs_ 14 23
def ba11_29 : Array Bool := bs_ 14 55
def ba11_30 : Array Bool := bs_ 14 119
def ba11_31 : Array Bool := bs_ 14 375
def ba11_32 : Array Bool := bs_ 14 887
def ba11_33 : Array Bool := bs_ 14 895
def ba11_34 : Array Bool := bs_ 14 1023
def ba11_35 : Array Bool := bs_ 14 2047
def ba11_36 : Array Bool := bs_ 14 4095
def ba11_37 : Array Bool := bs_ 14 8191
def ba11_38 : Array Bool := bs_ 14 16383

/-! ### impl_Shares: function 20 -/
mutual
def impl_Shares.j0 : Nat → Int → Int → Bool → Int → List (S76) → Int → Option (List Int)
 | 0, _, _, _, _, _, _ => none
 | k + 1, x1, x3, x37, x267000, x267001, x268000 => if x37 = true then (some ([] : List Int)) else ((impl_Graph_all.f k x267000 x267001).bind fun t272 => (if 0 ≤ x1 then (if x1 < (t272.length : Int) then (if 0 ≤ x268000 then (if x268000 < ((rd_L3 t272 x1).length : Int) then (if (rd (rd_L3 t272 x1) x268000) = 1000000 then (some ([] : List Int)) else (if 0 ≤ x267000 then (if (x267000 : Int).toNat ≤ 35184372088832 then ((some (List.replicate (x267000 : Int).toNat 0 : List Int)).bind fun y278 => (if x1 < (y278.length : Int) then (impl_Shares.l0 k (y278.set (x1 : Int).toNat x3) (([] : List Int)) x267000 0 x267000 x267001 x268000 t272) else (none))) else (none)) else (none))) else (none)) else (none)) else (none)) else (none)))
def impl_Shares.l0 : Nat → List Int → List Int → Int → Int → Int → List (S76) → Int → List (List Int) → Option (List Int)
 | 0, _, _, _, _, _, _, _, _ => none
 | k + 1, x10, x11, x57, x58, x267000, x267001, x268000, x276000 => if x58 < x57 then (if x58 = x268000 then (impl_Shares.l0 k x10 x11 x57 (wrap64 (x58 + 1)) x267000 x267001 x268000 x276000) else (if 0 ≤ x58 then (if x58 < (x276000.length : Int) then (if 0 ≤ x268000 then (if x268000 < ((rd_L3 x276000 x58).length : Int) then (if (rd (rd_L3 x276000 x58) x268000) < 1000000 then (if x11.length < 17592186044416 then (impl_Shares.l0 k x10 (x11 ++ [x58]) x57 (wrap64 (x58 + 1)) x267000 x267001 x268000 x276000) else (none)) else (impl_Shares.l0 k x10 x11 x57 (wrap64 (x58 + 1)) x267000 x267001 x268000 x276000)) else (none)) else (none)) else (none)) else (none))) else ((slices_SortFunc_int_int.f k x11 [x276000] [x268000]).bind fun t290 => (impl_Shares.l1 k x10 t290 (x11.length : Int) 0 x267000 x267001 x268000 x276000))
def impl_Shares.l1 : Nat → List Int → List Int → Int → Int → Int → List (S76) → Int → List (List Int) → Option (List Int)
 | 0, _, _, _, _, _, _, _, _ => none
 | k + 1, x10, x82, x83, x84, x267000, x267001, x268000, x276000 => if x84 < x83 then (if 0 ≤ x84 then (if x84 < (x82.length : Int) then ((impl_Graph_hopsTo.f k x267000 x267001 (rd x82 x84) x268000 x276000).bind fun t292 => (impl_Shares.l2 k x10 (rd x82 x84) t292 x82 x83 x84 t292 (t292.length : Int) 0 x267000 x267001 x268000 x276000)) else (none)) else (none)) else (some x10)
def impl_Shares.l2 : Nat → List Int → Int → List Int → List Int → Int → Int → List Int → Int → Int → Int → List (S76) → Int → List (List Int) → Option (List Int)
 | 0, _, _, _, _, _, _, _, _, _, _, _, _, _ => none
 | k + 1, x10, x14, x15, x82, x83, x84, x93, x94, x95, x267000, x267001, x268000, x276000 => if x95 < x94 then (if 0 ≤ x95 then (if x95 < (x93.length : Int) then (if 0 ≤ (rd x93 x95) then (if (rd x93 x95) < (x10.length : Int) then (if 0 ≤ x14 then (if x14 < (x10.length : Int) then (if (x15.length : Int) = 0 then (none) else ((some (x10.set ((rd x93 x95) : Int).toNat (wrap64 ((rd x10 (rd x93 x95)) + (wrap64 (Int.tdiv (rd x10 x14) (x15.length : Int))))) : List Int)).bind fun y298 => (if x95 < (Int.tmod (rd y298 x14) (x15.length : Int)) then (impl_Shares.l2 k (y298.set ((rd x93 x95) : Int).toNat (wrap64 ((wrap64 ((rd x10 (rd x93 x95)) + (wrap64 (Int.tdiv (rd x10 x14) (x15.length : Int))))) + 1))) x14 x15 x82 x83 x84 x93 x94 (wrap64 (x95 + 1)) x267000 x267001 x268000 x276000) else (impl_Shares.l2 k y298 x14 x15 x82 x83 x84 x93 x94 (wrap64 (x95 + 1)) x267000 x267001 x268000 x276000)))) else (none)) else (none)) else (none)) else (none)) else (none)) else (none)) else (impl_Shares.l1 k x10 x82 x83 (wrap64 (x84 + 1)) x267000 x267001 x268000 x276000)
end
def impl_Shares.f (k : Nat) (a0_0 : Int) (l0_1 : List (S76)) (a1 : Int) (a2 : Int) (a3 : Int) : Option (List Int) := (impl_GraphOk.f k a0_0 l0_1).bind fun t268 => (if t268 = true then ((impl_Graph_isNode.f a0_0 l0_1 a1).bind fun t269 => (if t269 = true then ((impl_Graph_isNode.f a0_0 l0_1 a2).bind fun t270 => (if t270 = true then ((impl_within.f a3 1 100000).bind fun t271 => (impl_Shares.j0 k a1 a3 (!t271) a0_0 l0_1 a2)) else (impl_Shares.j0 k a1 a3 true a0_0 l0_1 a2))) else (impl_Shares.j0 k a1 a3 true a0_0 l0_1 a2))) else (impl_Shares.j0 k a1 a3 true a0_0 l0_1 a2))
theorem impl_Shares.mono_l : ∀ k, (∀ y0 y1 y2 y3 y4 y5, LeO (impl_Shares.j0 k y0 y1 y2 y3 y4 y5) (impl_Shares.j0 (k + 1) y0 y1 y2 y3 y4 y5)) ∧ (∀ y0 y1 y2 y3 y4 y5 y6 y7, LeO (impl_Shares.l0 k y0 y1 y2 y3 y4 y5 y6 y7) (impl_Shares.l0 (k + 1) y0 y1 y2 y3 y4 y5 y6 y7)) ∧ (∀ y0 y1 y2 y3 y4 y5 y6 y7, LeO (impl_Shares.l1 k y0 y1 y2 y3 y4 y5 y6 y7) (impl_Shares.l1 (k + 1) y0 y1 y2 y3 y4 y5 y6 y7)) ∧ (∀ y0 y1 y2 y3 y4 y5 y6 y7 y8 y9 y10 y11 y12, LeO (impl_Shares.l2 k y0 y1 y2 y3 y4 y5 y6 y7 y8 y9 y10 y11 y12) (impl_Shares.l2 (k + 1) y0 y1 y2 y3 y4 y5 y6 y7 y8 y9 y10 y11 y12))
 | 0 => ⟨fun _ _ _ _ _ _ r h => by simp [impl_Shares.j0] at h, fun _ _ _ _ _ _ _ _ r h => by simp [impl_Shares.l0] at h, fun _ _ _ _ _ _ _ _ r h => by simp [impl_Shares.l1] at h, fun _ _ _ _ _ _ _ _ _ _ _ _ _ r h => by simp [impl_Shares.l2] at h⟩
 | k + 1 => by
  obtain ⟨ih0, ih1, ih2, ih3⟩ := impl_Shares.mono_l k
  refine ⟨?_, ?_, ?_, ?_⟩
  ·intro y0 y1 y2 y3 y4 y5
   unfold impl_Shares.j0
   repeat' first | (with_reducible first | exact ih0 _ _ _ _ _ _ | exact ih1 _ _ _ _ _ _ _ _ | exact ih2 _ _ _ _ _ _ _ _ | exact ih3 _ _ _ _ _ _ _ _ _ _ _ _ _ | exact impl_GraphOk.mono _ _ _ | exact impl_Graph_all.mono _ _ _ | exact impl_Graph_hopsTo.mono _ _ _ _ _ _ | exact slices_SortFunc_int_int.mono _ _ _ _ | exact LeO.refl _ | exact LeO.none _ | refine LeO.ite ?_ ?_ | refine LeO.bind ?_ (fun _ => ?_)) | exact ih0 _ _ _ _ _ _ | exact ih1 _ _ _ _ _ _ _ _ | exact ih2 _ _ _ _ _ _ _ _ | exact ih3 _ _ _ _ _ _ _ _ _ _ _ _ _ | exact impl_GraphOk.mono _ _ _ | exact impl_Graph_all.mono _ _ _ | exact impl_Graph_hopsTo.mono _ _ _ _ _ _ | exact slices_SortFunc_int_int.mono _ _ _ _ | exact LeO.none _ | refine LeO.ite ?_ ?_ | refine LeO.bind ?_ (fun _ => ?_)
  ·intro y0 y1 y2 y3 y4 y5 y6 y7
   unfold impl_Shares.l0
   repeat' first | (with_reducible first | exact ih0 _ _ _ _ _ _ | exact ih1 _ _ _ _ _ _ _ _ | exact ih2 _ _ _ _ _ _ _ _ | exact ih3 _ _ _ _ _ _ _ _ _ _ _ _ _ | exact impl_GraphOk.mono _ _ _ | exact impl_Graph_all.mono _ _ _ | exact impl_Graph_hopsTo.mono _ _ _ _ _ _ | exact slices_SortFunc_int_int.mono _ _ _ _ | exact LeO.refl _ | exact LeO.none _ | refine LeO.ite ?_ ?_ | refine LeO.bind ?_ (fun _ => ?_)) | exact ih0 _ _ _ _ _ _ | exact ih1 _ _ _ _ _ _ _ _ | exact ih2 _ _ _ _ _ _ _ _ | exact ih3 _ _ _ _ _ _ _ _ _ _ _ _ _ | exact impl_GraphOk.mono _ _ _ | exact impl_Graph_all.mono _ _ _ | exact impl_Graph_hopsTo.mono _ _ _ _ _ _ | exact slices_SortFunc_int_int.mono _ _ _ _ | exact LeO.none _ | refine LeO.ite ?_ ?_ | refine LeO.bind ?_ (fun _ => ?_)
  ·intro y0 y1 y2 y3 y4 y5 y6 y7
   unfold impl_Shares.l1
   repeat' first | (with_reducible first | exact ih0 _ _ _ _ _ _ | exact ih1 _ _ _ _ _ _ _ _ | exact ih2 _ _ _ _ _ _ _ _ | exact ih3 _ _ _ _ _ _ _ _ _ _ _ _ _ | exact impl_GraphOk.mono _ _ _ | exact impl_Graph_all.mono _ _ _ | exact impl_Graph_hopsTo.mono _ _ _ _ _ _ | exact slices_SortFunc_int_int.mono _ _ _ _ | exact LeO.refl _ | exact LeO.none _ | refine LeO.ite ?_ ?_ | refine LeO.bind ?_ (fun _ => ?_)) | exact ih0 _ _ _ _ _ _ | exact ih1 _ _ _ _ _ _ _ _ | exact ih2 _ _ _ _ _ _ _ _ | exact ih3 _ _ _ _ _ _ _ _ _ _ _ _ _ | exact impl_GraphOk.mono _ _ _ | exact impl_Graph_all.mono _ _ _ | exact impl_Graph_hopsTo.mono _ _ _ _ _ _ | exact slices_SortFunc_int_int.mono _ _ _ _ | exact LeO.none _ | refine LeO.ite ?_ ?_ | refine LeO.bind ?_ (fun _ => ?_)
  ·intro y0 y1 y2 y3 y4 y5 y6 y7 y8 y9 y10 y11 y12
   unfold impl_Shares.l2
   repeat' first | (with_reducible first | exact ih0 _ _ _ _ _ _ | exact ih1 _ _ _ _ _ _ _ _ | exact ih2 _ _ _ _ _ _ _ _ | exact ih3 _ _ _ _ _ _ _ _ _ _ _ _ _ | exact impl_GraphOk.mono _ _ _ | exact impl_Graph_all.mono _ _ _ | exact impl_Graph_hopsTo.mono _ _ _ _ _ _ | exact slices_SortFunc_int_int.mono _ _ _ _ | exact LeO.refl _ | exact LeO.none _ | refine LeO.ite ?_ ?_ | refine LeO.bind ?_ (fun _ => ?_)) | exact ih0 _ _ _ _ _ _ | exact ih1 _ _ _ _ _ _ _ _ | exact ih2 _ _ _ _ _ _ _ _ | exact ih3 _ _ _ _ _ _ _ _ _ _ _ _ _ | exact impl_GraphOk.mono _ _ _ | exact impl_Graph_all.mono _ _ _ | exact impl_Graph_hopsTo.mono _ _ _ _ _ _ | exact slices_SortFunc_int_int.mono _ _ _ _ | exact LeO.none _ | refine LeO.ite ?_ ?_ | refine LeO.bind ?_ (fun _ => ?_)
theorem impl_Shares.mono : ∀ a0 a1 a2 a3 a4 k, LeO (impl_Shares.f k a0 a1 a2 a3 a4) (impl_Shares.f (k + 1) a0 a1 a2 a3 a4) := by
 intro a0 a1 a2 a3 a4 k
 obtain ⟨ih0, ih1, ih2, ih3⟩ := impl_Shares.mono_l k
 unfold impl_Shares.f
 repeat' first | (with_reducible first | exact ih0 _ _ _ _ _ _ | exact ih1 _ _ _ _ _ _ _ _ | exact ih2 _ _ _ _ _ _ _ _ | exact ih3 _ _ _ _ _ _ _ _ _ _ _ _ _ | exact impl_GraphOk.mono _ _ _ | exact impl_Graph_all.mono _ _ _ | exact impl_Graph_hopsTo.mono _ _ _ _ _ _ | exact slices_SortFunc_int_int.mono _ _ _ _ | exact LeO.refl _ | exact LeO.none _ | refine LeO.ite ?_ ?_ | refine LeO.bind ?_ (fun _ => ?_)) | exact ih0 _ _ _ _ _ _ | exact ih1 _ _ _ _ _ _ _ _ | exact ih2 _ _ _ _ _ _ _ _ | exact ih3 _ _ _ _ _ _ _ _ _ _ _ _ _ | exact impl_GraphOk.mono _ _ _ | exact impl_Graph_all.mono _ _ _ | exact impl_Graph_hopsTo.mono _ _ _ _ _ _ | exact slices_SortFunc_int_int.mono _ _ _ _ | exact LeO.none _ | refine LeO.ite ?_ ?_ | refine LeO.bind ?_ (fun _ => ?_)
def impl_Shares.T4 : Bool × List (List Nat × List Nat) := (true, [([], []), ([], []), ([0, 1], [0, 1]), ([2], [2]), ([], []), ([3, 4], [3, 4]), ([5], [5]), ([6], [6])])
def impl_Shares.B4 : List Nat := [0, 0, 3, 7, 0, 31, 63, 127]
theorem impl_Shares.tab4 : rtab .any (opsOf Try.f20 4) = impl_Shares.T4 := by kernel_rfl
theorem impl_Shares.bits4 : waitsOk impl_Shares.T4.2 impl_Shares.B4 = true := by kernel_rfl
def impl_Shares.T12 : Bool × List (List Nat × List Nat) := (true, [([], []), ([], []), ([0, 1], [0, 1]), ([2], [2]), ([3], [3]), ([3], [3]), ([4, 5, 3], [3, 4, 5]), ([6, 3], [3, 6]), ([3], [3]), ([7, 8, 3], [3, 7, 8]), ([9, 3], [3, 9]), ([10, 3], [3, 10]), ([3, 11], [3, 11])])
def impl_Shares.B12 : List Nat := [0, 0, 3, 7, 15, 15, 63, 127, 15, 511, 1023, 2047, 4095]
theorem impl_Shares.tab12 : rtab .any (opsOf Try.f20 12) = impl_Shares.T12 := by kernel_rfl
theorem impl_Shares.bits12 : waitsOk impl_Shares.T12.2 impl_Shares.B12 = true := by kernel_rfl
def impl_Shares.T23 : Bool × List (List Nat × List Nat) := (true, [([], []), ([], []), ([0, 1], [0, 1]), ([2], [2]), ([], []), ([], []), ([4, 5], [4, 5]), ([6], [6]), ([], []), ([8], [8]), ([7, 9], [7, 9]), ([3, 10], [3, 10]), ([0, 1, 0, 1, 2, 3, 4, 5, 6, 7, 8, 9, 10, 11], [0, 1]), ([12, 11, 0, 1, 2, 3, 4, 5, 6, 7, 8, 9, 10, 11], [11, 12])])
def impl_Shares.B23 : List Nat := [0, 0, 3, 7, 0, 0, 48, 112, 0, 256, 1008, 2047, 4095, 8191]
theorem impl_Shares.tab23 : rtab .any (opsOf Try.f20 23) = impl_Shares.T23 := by kernel_rfl
theorem impl_Shares.bits23 : waitsOk impl_Shares.T23.2 impl_Shares.B23 = true := by kernel_rfl
set_option maxHeartbeats 8000000 in
set_option maxRecDepth 100000 in
theorem impl_Shares.calls (k : Nat) (a0_0 : Int) (A0_1 : Option Addr) (c0_1 : Nat) (l0_1 : List (S76)) (a1 : Int) (a2 : Int) (a3 : Int) (r : List Int) (w : World) (hr0_1 : Kd.C k76 w A0_1 l0_1.length l0_1) (hc0_1 : l0_1.length ≤ c0_1) (h : impl_Shares.f k a0_0 l0_1 a1 a2 a3 = some r) :
  Calls Try.prog 20 #[.agg #[.int .i64 a0_0, .slice A0_1 l0_1.length c0_1], .int .i64 a1, .int .i64 a2, .int .i64 a3] w fun e w' => ∃ v0_ : Value, e = .returned (v0_) ∧ Kd.R (Kd.int .i64) 3 w' w.heap.size (fun _ => True) v0_ r ∧ Below w.heap.size w w' := by
 have hu30 := Try.underlying30
 have HR0_1 := Aside0.mk hr0_1
 have HC0_1 := Aside0.mk hc0_1
 clear hr0_1 hc0_1
 have HB := Aside0.mk (Below.refl w.heap.size w)
 have H : ((impl_GraphOk.f k a0_0 l0_1).bind fun t268 => (if t268 = true then ((impl_Graph_isNode.f a0_0 l0_1 a1).bind fun t269 => (if t269 = true then ((impl_Graph_isNode.f a0_0 l0_1 a2).bind fun t270 => (if t270 = true then ((impl_within.f a3 1 100000).bind fun t271 => (impl_Shares.j0 k a1 a3 (!t271) a0_0 l0_1 a2)) else (impl_Shares.j0 k a1 a3 true a0_0 l0_1 a2))) else (impl_Shares.j0 k a1 a3 true a0_0 l0_1 a2))) else (impl_Shares.j0 k a1 a3 true a0_0 l0_1 a2))) = some r := h
 clear h
 have HC5 := Aside0.mk H
 clear H
 go_enter Try.func20, Try.ntmps20
 go_upto_region 1 with (first | ((with_reducible refine gate_dst (N := 4) rfl ?_); refine box_event ?hg (N := 4) ?hd (cs := #[.int .i64 a0_0, .slice A0_1 l0_1.length c0_1]) (t := 30) ?hr ?_; (case hd => rfl); (case hg => rfl); (case hr => first | (go_simp; done) | (go_simp; rfl)); intro gb266 hg w6 hbox hb; have BK266 := Aside0.mk hbox; have GW266 := ge_ HB hg; have GE266 := ge_ HB hg; replace HB := at_ HB hb; clear hb hbox hg) | ((with_reducible refine gate_dst (N := 6) rfl ?_); refine box_event ?hg (N := 6) ?hd (cs := #[.int .i64 a2]) (t := 3) ?hr ?_; (case hd => rfl); (case hg => rfl); (case hr => first | (go_simp; done) | (go_simp; rfl)); intro gb267 hg w7 hbox hb; have BK267 := Aside0.mk hbox; have GW267 := ge_ HB hg; have GE267 := ge_ HB hg; have NB266_267 := nl_ BK266 hg; have NB267_266 := ng_ BK266 hg; replace HB := at_ HB hb; replace BK266 := ab_ BK266 hb; clear hb hbox hg))
 (try simp only [Act.put, List.setIfInBounds_toArray, List.set_cons_zero, List.set_cons_succ])
 go_cut [37] (fun v37 wc => ∃ (kq : Nat) (x37_4 : Bool), v37 = .bool x37_4 ∧ Aside0 (impl_Shares.j0 kq a1 a3 x37_4 a0_0 l0_1 a2 = some r) ∧ Aside0 (kq ≤ k) ∧ Aside0 (wc.heap[gb266]? = some (.cells #[.int .i64 a0_0, (.slice A0_1 l0_1.length c0_1)] 30 (0, 0))) ∧ Aside0 (wc.heap[gb267]? = some (.cells #[.int .i64 a2] 3 (0, 0))) ∧ Aside0 (Below w.heap.size w wc))
 case first =>
  have H := HC5.out
  clear HC5
  replace H := Option.bind_eq_some_iff.mp H
  obtain ⟨t268, A80, H⟩ := H
  have A8 := Aside0.mk A80
  clear A80
  by_cases c9 : t268 = true
  rotate_left
  ·replace c9 := Bool.eq_false_iff.mpr c9
   subst c9
   rw [if_neg (show ¬ (false = true) by decide)] at H
   have H' := Aside0.mk H
   clear H
   have hnb36 := NB266_267.out
   have hnc36 := NB267_266.out
   have hcz37_0 := cz_ BK266 0 (.int .i64 a0_0)
   have hcz37_1 := cz_ BK266 1 (.slice A0_1 l0_1.length c0_1)
   have hfz37_0 := fz_ BK266 0
   have hfz37_1 := fz_ BK266 1
   go_wp2_with ((with_reducible refine gate_callee (f := 47) rfl ?_); refine gl_ (some 19) Try.func47 #[.agg #[.int .i64 a0_0, .slice A0_1 l0_1.length c0_1]] ?_; (with_reducible refine (impl_GraphOk.calls k a0_0 _ _ l0_1 false _ ?side1 ?side2 A8.out).mono ?_); (case side1 => exact cb_ HR0_1 HB); (case side2 => exact HC0_1.out); rintro e w38 ⟨rfl, hb⟩; refine ⟨_, rfl, ?_⟩; replace BK266 := ab_ BK266 hb; replace BK267 := ab_ BK267 hb; replace HB := at_ HB hb; (try clear hb); (try clear hb2); (try clear hk); (try clear hi))
   go_meet
   case rel => exact ⟨_, (true), er_, H', ⟨by first | omega | exact Nat.le_refl _⟩, ⟨bx_ BK266⟩, ⟨bx_ BK267⟩, ⟨bw_⟩⟩
  subst c9
  rw [if_pos rfl] at H
  replace H := Option.bind_eq_some_iff.mp H
  obtain ⟨t269, A100, H⟩ := H
  have A10 := Aside0.mk A100
  clear A100
  by_cases c11 : t269 = true
  rotate_left
  ·replace c11 := Bool.eq_false_iff.mpr c11
   subst c11
   rw [if_neg (show ¬ (false = true) by decide)] at H
   have H' := Aside0.mk H
   clear H
   have hnb31 := NB266_267.out
   have hnc31 := NB267_266.out
   have hcz32_0 := cz_ BK266 0 (.int .i64 a0_0)
   have hcz32_1 := cz_ BK266 1 (.slice A0_1 l0_1.length c0_1)
   have hfz32_0 := fz_ BK266 0
   have hfz32_1 := fz_ BK266 1
   go_wp2_with (first | ((with_reducible refine gate_callee (f := 47) rfl ?_); refine gl_ (some 19) Try.func47 #[.agg #[.int .i64 a0_0, .slice A0_1 l0_1.length c0_1]] ?_; (with_reducible refine (impl_GraphOk.calls k a0_0 _ _ l0_1 true _ ?side1 ?side2 A8.out).mono ?_); (case side1 => exact cb_ HR0_1 HB); (case side2 => exact HC0_1.out); rintro e w33 ⟨rfl, hb⟩; refine ⟨_, rfl, ?_⟩; replace BK266 := ab_ BK266 hb; replace BK267 := ab_ BK267 hb; replace HB := at_ HB hb; (try clear hb); (try clear hb2); (try clear hk); (try clear hi); have hcz34_0 := cz_ BK266 0 (.int .i64 a0_0); have hcz34_1 := cz_ BK266 1 (.slice A0_1 l0_1.length c0_1); have hfz34_0 := fz_ BK266 0; have hfz34_1 := fz_ BK266 1) | (go_at_call 48; (with_reducible refine (impl_Graph_isNode.calls a0_0 _ _ l0_1 a1 false _ ?side1 ?side2 A10.out).mono ?_); (case side1 => exact cb_ HR0_1 HB); (case side2 => exact HC0_1.out); rintro e w35 ⟨rfl, hb⟩; replace BK266 := ab_ BK266 hb; replace BK267 := ab_ BK267 hb; replace HB := at_ HB hb; (try clear hb); (try clear hb2); (try clear hk); (try clear hi)))
   go_meet
   case rel => exact ⟨_, (true), er_, H', ⟨by first | omega | exact Nat.le_refl _⟩, ⟨bx_ BK266⟩, ⟨bx_ BK267⟩, ⟨bw_⟩⟩
  subst c11
  rw [if_pos rfl] at H
  replace H := Option.bind_eq_some_iff.mp H
  obtain ⟨t270, A120, H⟩ := H
  have A12 := Aside0.mk A120
  clear A120
  by_cases c13 : t270 = true
  rotate_left
  ·replace c13 := Bool.eq_false_iff.mpr c13
   subst c13
   rw [if_neg (show ¬ (false = true) by decide)] at H
   have H' := Aside0.mk H
   clear H
   have hnb23 := NB266_267.out
   have hnc23 := NB267_266.out
   have hcz24_0 := cz_ BK266 0 (.int .i64 a0_0)
   have hcz24_1 := cz_ BK266 1 (.slice A0_1 l0_1.length c0_1)
   have hfz24_0 := fz_ BK266 0
   have hfz24_1 := fz_ BK266 1
   go_wp2_with (first | ((with_reducible refine gate_callee (f := 47) rfl ?_); refine gl_ (some 19) Try.func47 #[.agg #[.int .i64 a0_0, .slice A0_1 l0_1.length c0_1]] ?_; (with_reducible refine (impl_GraphOk.calls k a0_0 _ _ l0_1 true _ ?side1 ?side2 A8.out).mono ?_); (case side1 => exact cb_ HR0_1 HB); (case side2 => exact HC0_1.out); rintro e w25 ⟨rfl, hb⟩; refine ⟨_, rfl, ?_⟩; replace BK266 := ab_ BK266 hb; replace BK267 := ab_ BK267 hb; replace HB := at_ HB hb; (try clear hb); (try clear hb2); (try clear hk); (try clear hi); have hcz26_0 := cz_ BK266 0 (.int .i64 a0_0); have hcz26_1 := cz_ BK266 1 (.slice A0_1 l0_1.length c0_1); have hfz26_0 := fz_ BK266 0; have hfz26_1 := fz_ BK266 1) | (go_at_call 48; (with_reducible refine (impl_Graph_isNode.calls a0_0 _ _ l0_1 a1 true _ ?side1 ?side2 A10.out).mono ?_); (case side1 => exact cb_ HR0_1 HB); (case side2 => exact HC0_1.out); rintro e w27 ⟨rfl, hb⟩; replace BK266 := ab_ BK266 hb; replace BK267 := ab_ BK267 hb; replace HB := at_ HB hb; (try clear hb); (try clear hb2); (try clear hk); (try clear hi); have hcz28_0 := cz_ BK266 0 (.int .i64 a0_0); have hcz28_1 := cz_ BK266 1 (.slice A0_1 l0_1.length c0_1); have hfz28_0 := fz_ BK266 0; have hfz28_1 := fz_ BK266 1; have hcz29_0 := cz_ BK267 0 (.int .i64 a2); have hfz29_0 := fz_ BK267 0) | (go_at_call 48; (with_reducible refine (impl_Graph_isNode.calls a0_0 _ _ l0_1 a2 false _ ?side1 ?side2 A12.out).mono ?_); (case side1 => exact cb_ HR0_1 HB); (case side2 => exact HC0_1.out); rintro e w30 ⟨rfl, hb⟩; replace BK266 := ab_ BK266 hb; replace BK267 := ab_ BK267 hb; replace HB := at_ HB hb; (try clear hb); (try clear hb2); (try clear hk); (try clear hi)))
   go_meet
   case rel => exact ⟨_, (true), er_, H', ⟨by first | omega | exact Nat.le_refl _⟩, ⟨bx_ BK266⟩, ⟨bx_ BK267⟩, ⟨bw_⟩⟩
  subst c13
  rw [if_pos rfl] at H
  replace H := Option.bind_eq_some_iff.mp H
  obtain ⟨t271, A140, H⟩ := H
  have A14 := Aside0.mk A140
  clear A140
  have H' := Aside0.mk H
  clear H
  have hnb15 := NB266_267.out
  have hnc15 := NB267_266.out
  have hcz16_0 := cz_ BK266 0 (.int .i64 a0_0)
  have hcz16_1 := cz_ BK266 1 (.slice A0_1 l0_1.length c0_1)
  have hfz16_0 := fz_ BK266 0
  have hfz16_1 := fz_ BK266 1
  go_wp2_with (first | ((with_reducible refine gate_callee (f := 47) rfl ?_); refine gl_ (some 19) Try.func47 #[.agg #[.int .i64 a0_0, .slice A0_1 l0_1.length c0_1]] ?_; (with_reducible refine (impl_GraphOk.calls k a0_0 _ _ l0_1 true _ ?side1 ?side2 A8.out).mono ?_); (case side1 => exact cb_ HR0_1 HB); (case side2 => exact HC0_1.out); rintro e w17 ⟨rfl, hb⟩; refine ⟨_, rfl, ?_⟩; replace BK266 := ab_ BK266 hb; replace BK267 := ab_ BK267 hb; replace HB := at_ HB hb; (try clear hb); (try clear hb2); (try clear hk); (try clear hi); have hcz18_0 := cz_ BK266 0 (.int .i64 a0_0); have hcz18_1 := cz_ BK266 1 (.slice A0_1 l0_1.length c0_1); have hfz18_0 := fz_ BK266 0; have hfz18_1 := fz_ BK266 1) | (go_at_call 48; (with_reducible refine (impl_Graph_isNode.calls a0_0 _ _ l0_1 a1 true _ ?side1 ?side2 A10.out).mono ?_); (case side1 => exact cb_ HR0_1 HB); (case side2 => exact HC0_1.out); rintro e w19 ⟨rfl, hb⟩; replace BK266 := ab_ BK266 hb; replace BK267 := ab_ BK267 hb; replace HB := at_ HB hb; (try clear hb); (try clear hb2); (try clear hk); (try clear hi); have hcz20_0 := cz_ BK266 0 (.int .i64 a0_0); have hcz20_1 := cz_ BK266 1 (.slice A0_1 l0_1.length c0_1); have hfz20_0 := fz_ BK266 0; have hfz20_1 := fz_ BK266 1; have hcz21_0 := cz_ BK267 0 (.int .i64 a2); have hfz21_0 := fz_ BK267 0) | (go_at_call 48; (with_reducible refine (impl_Graph_isNode.calls a0_0 _ _ l0_1 a2 true _ ?side1 ?side2 A12.out).mono ?_); (case side1 => exact cb_ HR0_1 HB); (case side2 => exact HC0_1.out); rintro e w22 ⟨rfl, hb⟩; replace BK266 := ab_ BK266 hb; replace BK267 := ab_ BK267 hb; replace HB := at_ HB hb; (try clear hb); (try clear hb2); (try clear hk); (try clear hi)) | (go_at_call 54; (with_reducible refine (impl_within.calls a3 1 100000 t271 _ A14.out).mono ?_); rintro e w' ⟨rfl, ⟨nd, rfl⟩⟩))
  go_meet
  case rel => exact ⟨_, (!t271), er_, H', ⟨by first | omega | exact Nat.le_refl _⟩, ⟨bx_ BK266⟩, ⟨bx_ BK267⟩, ⟨bw_⟩⟩
 case rest =>
  clear HC5
  try clear c1
  try clear c2
  try clear p2
  try clear c3
  try clear c4
  try clear c9
  try clear c11
  try clear c13
  try clear c15
  try clear c20
  try clear c23
  try clear c31
  try clear c36
  try clear hcz16_0
  try clear hcz16_1
  try clear hcz18_0
  try clear hcz18_1
  try clear hcz20_0
  try clear hcz20_1
  try clear hcz21_0
  try clear hcz24_0
  try clear hcz24_1
  try clear hcz26_0
  try clear hcz26_1
  try clear hcz28_0
  try clear hcz28_1
  try clear hcz29_0
  try clear hcz32_0
  try clear hcz32_1
  try clear hcz34_0
  try clear hcz34_1
  try clear hcz37_0
  try clear hcz37_1
  try clear hfz16_0
  try clear hfz16_1
  try clear hfz18_0
  try clear hfz18_1
  try clear hfz20_0
  try clear hfz20_1
  try clear hfz21_0
  try clear hfz24_0
  try clear hfz24_1
  try clear hfz26_0
  try clear hfz26_1
  try clear hfz28_0
  try clear hfz28_1
  try clear hfz29_0
  try clear hfz32_0
  try clear hfz32_1
  try clear hfz34_0
  try clear hfz34_1
  try clear hfz37_0
  try clear hfz37_1
  obtain ⟨kq, x37_4, rfl, HA, HJ4, BK266, BK267, HB⟩ := hcut
  cases kq with
  | zero => exact absurd HA.out (by simp [impl_Shares.j0])
  | succ kj4 =>
   have H := HA.out
   clear HA
   simp only [impl_Shares.j0] at H
   by_cases c39 : x37_4 = true
   ·subst c39
    rw [if_pos rfl] at H
    obtain rfl := Option.some.inj H
    go_wp2
    go_ret
    exact ⟨_, by first | rfl | (simp [errW_none, errW_some] <;> rfl) | (simp [*, errW_none, errW_some] <;> rfl), by first | exact Kd.R_nil _ _ _ _ _ | exact Kd.N_nil _ _ _ _ _ | exact Kd.V_nil _ _ _ _ _ | exact Kd.Q_nil _ _ _ _ _ | exact Kd.S_nil _ _ _ _ _, bw_⟩
   replace c39 := Bool.eq_false_iff.mpr c39
   subst c39
   rw [if_neg (show ¬ (false = true) by decide)] at H
   replace H := Option.bind_eq_some_iff.mp H
   obtain ⟨t272, A400, H⟩ := H
   have A40 := Aside0.mk A400
   clear A400
   obtain ⟨c41b0, H⟩ := iq_ H
   obtain ⟨c42b0, H⟩ := iq_ H
   obtain ⟨c43b0, H⟩ := iq_ H
   obtain ⟨c44b0, H⟩ := iq_ H
   by_cases c45 : (rd (rd_L3 t272 a1) a2) = 1000000
   ·rw [if_pos c45] at H
    have c45b0 : ((rd (rd_L3 t272 a1) a2) == 1000000) = true := beq_iff_eq.mpr c45
    have c45b1 : ((rd (rd_L3 t272 a1) a2) != 1000000) = false := bne_eq_false_iff_eq.mpr c45
    clear c45
    obtain rfl := Option.some.inj H
    have hnb46 := NB266_267.out
    have hnc46 := NB267_266.out
    have hcz47_0 := cz_ BK266 0 (.int .i64 a0_0)
    have hcz47_1 := cz_ BK266 1 (.slice A0_1 l0_1.length c0_1)
    have hfz47_0 := fz_ BK266 0
    have hfz47_1 := fz_ BK266 1
    try go_wp2_with (first | ((with_reducible refine gate_callee (f := 55) rfl ?_); refine gl_ (some 39) Try.func55 #[.agg #[.int .i64 a0_0, .slice A0_1 l0_1.length c0_1]] ?_; (with_reducible refine (impl_Graph_all.calls kj4 a0_0 _ _ l0_1 t272 _ ?side1 ?side2 A40.out).mono ?_); (case side1 => exact cb_ HR0_1 HB); (case side2 => exact HC0_1.out); rintro e w48 ⟨v273, rfl, ho0, hb⟩; refine ⟨_, rfl, ?_⟩; have HO274 := Aside0.mk (Kd.S_lower (Kd.S_newB ho0 (g := gb267) (o := .cells #[.int .i64 a2] 3 (0, 0)) (bx_ BK267)) (bz_ HB)); replace BK266 := ab_ BK266 hb; replace BK267 := ab_ BK267 hb; replace HB := at_ HB hb; (try clear hb); (try clear hb2); (try clear hk); (try clear hi); (try clear ho0)) | ((with_reducible refine gate_dst (N := 9) rfl ?_); refine box_event ?hg (N := 9) ?hd (cs := #[.slice none 0 0]) (t := 45) ?hr ?_; (case hd => rfl); (case hg => rfl); (case hr => first | (go_simp; done) | (go_simp; rfl)); intro gb275 hg w49 hbox hb; have BK275 := Aside0.mk hbox; have GW275 := ge_ HB hg; have GE275 := ge_ HB hg; have NB266_275 := nl_ BK266 hg; have NB275_266 := ng_ BK266 hg; have NB267_275 := nl_ BK267 hg; have NB275_267 := ng_ BK267 hg; replace HO274 := Aside0.mk (Kd.S_below (hS_ HO274) hb); replace HB := at_ HB hb; replace BK266 := ab_ BK266 hb; replace BK267 := ab_ BK267 hb; clear hb hbox hg; obtain ⟨Ao50, co50, eo50⟩ := Kd.S_slice HO274.out; subst eo50; have hnb51 := NB275_266.out; have hnc51 := NB266_275.out; have hnb52 := NB275_267.out; have hnc52 := NB267_275.out; have hcz53_0 := cz_ BK275 0 (.slice none 0 0); have hfz53_0 := fz_ BK275 0) | ((with_reducible refine gate_store (t := 45) (p := 9) rfl ?_); refine store_event (t := 45) (p := 9) (v := ?vo_w54) (w1 := (w49.setCell ⟨gb275, 0, none⟩ (.slice Ao50 t272.length co50))) ?hg ?ho ?hn ?hr ?_; (case ho => rfl); (case hg => rfl); (case hn => rfl); (case hr => first | (go_simp; done) | (go_simp; rfl)); intro w54 hw; replace HO274 : Aside0 (Kd.S (Kd.slice 3 (Kd.int .i64)) 26 w54 w.heap.size (fun k_ => k_ ≠ gb267) (.slice Ao50 t272.length co50) t272) := ⟨(by rw [hw]; exact (by (with_reducible repeat (first | apply Kd.S_alloc | apply Kd.S_drewN | apply Kd.S_drew)); exact Kd.S_mono (Kd.S_far (p := ⟨gb275, 0, none⟩) (Kd.S_types HO274.out BK275.out (by decide)) (fun _ hk => hk.2) (.slice Ao50 t272.length co50)) (fun _ hk => hk.1.2)))⟩; replace BK266 : Aside0 (w54.heap[gb266]? = some (.cells #[.int .i64 a0_0, .slice A0_1 l0_1.length c0_1] 30 (0, 0))) := ⟨(by rw [hw]; exact (bc_ BK266))⟩; replace BK267 : Aside0 (w54.heap[gb267]? = some (.cells #[.int .i64 a2] 3 (0, 0))) := ⟨(by rw [hw]; exact (bc_ BK267))⟩; replace BK275 : Aside0 (w54.heap[gb275]? = some (.cells #[.slice Ao50 t272.length co50] 45 (0, 0))) := ⟨(by rw [hw]; exact (by refine bd_ ?_; refine blk_put (cs := #[.slice none 0 0]) ?_ 0 _ rfl; refine bd_ ?_; exact BK275.out))⟩; replace HB : Aside0 (Below w.heap.size w w54) := ⟨(by rw [hw]; exact (bw_))⟩; clear hw))
    replace HO274 := Aside0.mk (Kd.S_drew HO274.out)
    replace BK266 := ad_ BK266
    replace BK267 := ad_ BK267
    replace BK275 := ad_ BK275
    replace HB := Aside0.mk (below_drew1 HB.out)
    have p276 : 0 ≤ (a1 : Int) := oa_
    have q276 : a1 < (t272.length : Int) := oa_
    obtain ⟨ad276, A276_0, c276_0, e276, hx276_0, hl276_0, hi276_0⟩ := at_L3 (Kd.S_reads' HO274.out).2.2 a1 p276 q276
    cases e276
    obtain ⟨ce276, hce276, hMe276, hcc276⟩ := Kd.S_get HO274.out [] a1 p276 (by first | exact q276 | exact oa_ | (have e_ := (Kd.S_reads' HO274.out).1; omega))
    obtain ⟨ve276_0, rfl, ge276_0⟩ := hMe276
    have hv276_0 := hcc276 0 _ rfl
    rw [Nat.add_zero, show ((Kd.slice 3 (Kd.int .i64))).sz = 1 from rfl, Nat.mul_one] at hv276_0
    replace hv276_0 := Option.some.inj (hv276_0.symm.trans hx276_0)
    rw [hv276_0] at ge276_0
    have HL276_0 := Aside0.mk (show Kd.R (Kd.int .i64) 3 _ _ _ _ (rd_L3 t272 a1) from ge276_0)
    clear hv276_0 ge276_0
    clear hcc276 hce276
    have HR276_0 := Aside0.mk hi276_0
    have HC276_0 := Aside0.mk hl276_0
    clear hi276_0 hl276_0
    replace p276 := eq_true p276
    replace q276 := eq_true q276
    have p277 : 0 ≤ (a2 : Int) := oa_
    have q277 : a2 < ((rd_L3 t272 a1).length : Int) := oa_
    obtain ⟨ad277, e277, hx277_0⟩ := Kd.at_int (by repeat (first | (with_reducible exact HR276_0.out) | (with_reducible refine Kd.C_alloc ?_ _) | (with_reducible refine Kd.C_drewN ?_ _) | (with_reducible refine Kd.C_drew ?_) | exact HR276_0.out)) a2 p277 q277
    cases e277
    replace p277 := eq_true p277
    replace q277 := eq_true q277
    refine start_ (n := 8) (S := fun w' => w'.cell? ⟨gb275, 0, none⟩ = some (.slice (some ad276) t272.length co50) ∧ w'.cell? ⟨gb267, 0, none⟩ = some (.int .i64 a2) ∧ w'.cell? (ad276.add (a1).toNat) = some (.slice (some ad277) (rd_L3 t272 a1).length c276_0) ∧ w'.cell? (ad277.add (a2).toNat) = some (.int .i64 (rd (rd_L3 t272 a1) a2))) (ds := []) ba11_0 (by kernel_rfl) rfl rfl ⟨(blk_cell BK275.out 0).trans rfl, (blk_cell BK267.out 0).trans rfl, hx276_0, hx277_0⟩ (fun hHeld => ?_); refine with_tabW impl_Shares.tab4 impl_Shares.bits4 (fun HT_ HW_ => ?_)
    generalize w54.drew = w55 at HO274 BK266 BK267 BK275 HB HL276_0 HR276_0 hx276_0 hx277_0 hHeld ⊢
    refine pz_ 1 41 ba11_1 HT_ ?_
    refine pt_ 0 40 ba11_2 HT_ HW_ hHeld ?_
    refine pz_ 2 42 ba11_3 HT_ ?_
    refine pt_ 3 43 ba11_4 HT_ HW_ hHeld ?_
    refine pt_ 4 44 ba11_5 HT_ HW_ hHeld ?_
    refine pz_ 5 45 ba11_6 HT_ ?_
    refine pt_ 6 46 ba11_7 HT_ HW_ hHeld ?_
    refine pz_ 7 47 ba11_8 HT_ ?_
    refine done_ (done_of HT_.out (by kernel_rfl)) ?_
    try go_wp2
    go_ret
    exact ⟨_, by first | rfl | (simp [errW_none, errW_some] <;> rfl) | (simp [*, errW_none, errW_some] <;> rfl), by first | exact Kd.R_nil _ _ _ _ _ | exact Kd.N_nil _ _ _ _ _ | exact Kd.V_nil _ _ _ _ _ | exact Kd.Q_nil _ _ _ _ _ | exact Kd.S_nil _ _ _ _ _, bw_⟩
   rw [if_neg c45] at H
   have c45b0 : ((rd (rd_L3 t272 a1) a2) == 1000000) = false := beq_eq_false_iff_ne.mpr c45
   have c45b1 : ((rd (rd_L3 t272 a1) a2) != 1000000) = true := bne_iff_ne.mpr c45
   by_cases c56 : 0 ≤ a0_0
   rotate_left
   ·rw [if_neg c56] at H
    exact absurd H (by simp)
   rw [if_pos c56] at H
   have c56b0 := eq_true c56
   have c56b1 : decide (0 ≤ a0_0) = true := decide_eq_true c56
   clear c56
   by_cases c57 : (a0_0 : Int).toNat ≤ 35184372088832
   rotate_left
   ·rw [if_neg c57] at H
    exact absurd H (by simp)
   rw [if_pos c57] at H
   have c57b0 := eq_true c57
   have c57b1 : decide ((a0_0 : Int).toNat ≤ 35184372088832) = true := decide_eq_true c57
   clear c57
   obtain ⟨y278, hy278⟩ : ∃ y_ : List Int, y_ = (List.replicate (a0_0 : Int).toNat 0) := ⟨_, rfl⟩
   replace H : (if a1 < (y278.length : Int) then (impl_Shares.l0 kj4 (y278.set (a1 : Int).toNat a3) (([] : List Int)) a0_0 0 a0_0 l0_1 a2 t272) else (none)) = some r := by first | (rw [hy278]; with_reducible exact H) | (have H2_ := (Option.bind_some _ _).symm.trans H; rw [hy278]; with_reducible exact H2_) | (have H2_ := (Option.bind_some _ _).symm.trans H; with_reducible exact H2_) | with_reducible exact H | (rw [hy278]; exact H) | exact H
   have Ny278 := Aside0.mk hy278
   clear hy278
   obtain ⟨c58b0, H⟩ := iq_ H
   obtain ⟨y281, hy281⟩ : ∃ y_ : List Int, y_ = (y278.set (a1 : Int).toNat a3) := ⟨_, rfl⟩
   replace H : (impl_Shares.l0 kj4 y281 (([] : List Int)) a0_0 0 a0_0 l0_1 a2 t272) = some r := by first | (rw [hy281]; with_reducible exact H) | (have H2_ := (Option.bind_some _ _).symm.trans H; rw [hy281]; with_reducible exact H2_) | (have H2_ := (Option.bind_some _ _).symm.trans H; with_reducible exact H2_) | with_reducible exact H | (rw [hy281]; exact H) | exact H
   have Ny281 := Aside0.mk hy281
   clear hy281
   obtain ⟨y282, hy282⟩ : ∃ y_ : List Int, y_ = (([] : List Int)) := ⟨_, rfl⟩
   replace H : (impl_Shares.l0 kj4 y281 y282 a0_0 0 a0_0 l0_1 a2 t272) = some r := by first | (rw [hy282]; with_reducible exact H) | (have H2_ := (Option.bind_some _ _).symm.trans H; rw [hy282]; with_reducible exact H2_) | (have H2_ := (Option.bind_some _ _).symm.trans H; with_reducible exact H2_) | with_reducible exact H | (rw [hy282]; exact H) | exact H
   have Ny282 := Aside0.mk hy282
   clear hy282
   have H' := Aside0.mk H
   clear H
   have hnb60 := NB266_267.out
   have hnc60 := NB267_266.out
   have hcz61_0 := cz_ BK266 0 (.int .i64 a0_0)
   have hcz61_1 := cz_ BK266 1 (.slice A0_1 l0_1.length c0_1)
   have hfz61_0 := fz_ BK266 0
   have hfz61_1 := fz_ BK266 1
   try go_wp2_with (first | ((with_reducible refine gate_callee (f := 55) rfl ?_); refine gl_ (some 39) Try.func55 #[.agg #[.int .i64 a0_0, .slice A0_1 l0_1.length c0_1]] ?_; (with_reducible refine (impl_Graph_all.calls kj4 a0_0 _ _ l0_1 t272 _ ?side1 ?side2 A40.out).mono ?_); (case side1 => exact cb_ HR0_1 HB); (case side2 => exact HC0_1.out); rintro e w62 ⟨v273, rfl, ho0, hb⟩; refine ⟨_, rfl, ?_⟩; have HO274 := Aside0.mk (Kd.S_lower (Kd.S_newB ho0 (g := gb267) (o := .cells #[.int .i64 a2] 3 (0, 0)) (bx_ BK267)) (bz_ HB)); replace BK266 := ab_ BK266 hb; replace BK267 := ab_ BK267 hb; replace HB := at_ HB hb; (try clear hb); (try clear hb2); (try clear hk); (try clear hi); (try clear ho0)) | ((with_reducible refine gate_dst (N := 9) rfl ?_); refine box_event ?hg (N := 9) ?hd (cs := #[.slice none 0 0]) (t := 45) ?hr ?_; (case hd => rfl); (case hg => rfl); (case hr => first | (go_simp; done) | (go_simp; rfl)); intro gb275 hg w63 hbox hb; have BK275 := Aside0.mk hbox; have GW275 := ge_ HB hg; have GE275 := ge_ HB hg; have NB266_275 := nl_ BK266 hg; have NB275_266 := ng_ BK266 hg; have NB267_275 := nl_ BK267 hg; have NB275_267 := ng_ BK267 hg; replace HO274 := Aside0.mk (Kd.S_below (hS_ HO274) hb); replace HB := at_ HB hb; replace BK266 := ab_ BK266 hb; replace BK267 := ab_ BK267 hb; clear hb hbox hg; obtain ⟨Ao64, co64, eo64⟩ := Kd.S_slice HO274.out; subst eo64; have hnb65 := NB275_266.out; have hnc65 := NB266_275.out; have hnb66 := NB275_267.out; have hnc66 := NB267_275.out; have hcz67_0 := cz_ BK275 0 (.slice none 0 0); have hfz67_0 := fz_ BK275 0) | ((with_reducible refine gate_store (t := 45) (p := 9) rfl ?_); refine store_event (t := 45) (p := 9) (v := ?vo_w68) (w1 := (w63.setCell ⟨gb275, 0, none⟩ (.slice Ao64 t272.length co64))) ?hg ?ho ?hn ?hr ?_; (case ho => rfl); (case hg => rfl); (case hn => rfl); (case hr => first | (go_simp; done) | (go_simp; rfl)); intro w68 hw; replace HO274 : Aside0 (Kd.S (Kd.slice 3 (Kd.int .i64)) 26 w68 w.heap.size (fun k_ => k_ ≠ gb267) (.slice Ao64 t272.length co64) t272) := ⟨(by rw [hw]; exact (by (with_reducible repeat (first | apply Kd.S_alloc | apply Kd.S_drewN | apply Kd.S_drew)); exact Kd.S_mono (Kd.S_far (p := ⟨gb275, 0, none⟩) (Kd.S_types HO274.out BK275.out (by decide)) (fun _ hk => hk.2) (.slice Ao64 t272.length co64)) (fun _ hk => hk.1.2)))⟩; replace BK266 : Aside0 (w68.heap[gb266]? = some (.cells #[.int .i64 a0_0, .slice A0_1 l0_1.length c0_1] 30 (0, 0))) := ⟨(by rw [hw]; exact (bc_ BK266))⟩; replace BK267 : Aside0 (w68.heap[gb267]? = some (.cells #[.int .i64 a2] 3 (0, 0))) := ⟨(by rw [hw]; exact (bc_ BK267))⟩; replace BK275 : Aside0 (w68.heap[gb275]? = some (.cells #[.slice Ao64 t272.length co64] 45 (0, 0))) := ⟨(by rw [hw]; exact (by refine bd_ ?_; refine blk_put (cs := #[.slice none 0 0]) ?_ 0 _ rfl; refine bd_ ?_; exact BK275.out))⟩; replace HB : Aside0 (Below w.heap.size w w68) := ⟨(by rw [hw]; exact (bw_))⟩; clear hw))
   replace HO274 := Aside0.mk (Kd.S_drew HO274.out)
   replace BK266 := ad_ BK266
   replace BK267 := ad_ BK267
   replace BK275 := ad_ BK275
   replace HB := Aside0.mk (below_drew1 HB.out)
   have p276 : 0 ≤ (a1 : Int) := oa_
   have q276 : a1 < (t272.length : Int) := oa_
   obtain ⟨ad276, A276_0, c276_0, e276, hx276_0, hl276_0, hi276_0⟩ := at_L3 (Kd.S_reads' HO274.out).2.2 a1 p276 q276
   cases e276
   obtain ⟨ce276, hce276, hMe276, hcc276⟩ := Kd.S_get HO274.out [] a1 p276 (by first | exact q276 | exact oa_ | (have e_ := (Kd.S_reads' HO274.out).1; omega))
   obtain ⟨ve276_0, rfl, ge276_0⟩ := hMe276
   have hv276_0 := hcc276 0 _ rfl
   rw [Nat.add_zero, show ((Kd.slice 3 (Kd.int .i64))).sz = 1 from rfl, Nat.mul_one] at hv276_0
   replace hv276_0 := Option.some.inj (hv276_0.symm.trans hx276_0)
   rw [hv276_0] at ge276_0
   have HL276_0 := Aside0.mk (show Kd.R (Kd.int .i64) 3 _ _ _ _ (rd_L3 t272 a1) from ge276_0)
   clear hv276_0 ge276_0
   clear hcc276 hce276
   have HR276_0 := Aside0.mk hi276_0
   have HC276_0 := Aside0.mk hl276_0
   clear hi276_0 hl276_0
   replace p276 := eq_true p276
   replace q276 := eq_true q276
   have p277 : 0 ≤ (a2 : Int) := oa_
   have q277 : a2 < ((rd_L3 t272 a1).length : Int) := oa_
   obtain ⟨ad277, e277, hx277_0⟩ := Kd.at_int (by repeat (first | (with_reducible exact HR276_0.out) | (with_reducible refine Kd.C_alloc ?_ _) | (with_reducible refine Kd.C_drewN ?_ _) | (with_reducible refine Kd.C_drew ?_) | exact HR276_0.out)) a2 p277 q277
   cases e277
   replace p277 := eq_true p277
   replace q277 := eq_true q277
   refine start_ (n := 8) (S := fun w' => w'.cell? ⟨gb275, 0, none⟩ = some (.slice (some ad276) t272.length co64) ∧ w'.cell? ⟨gb267, 0, none⟩ = some (.int .i64 a2) ∧ w'.cell? (ad276.add (a1).toNat) = some (.slice (some ad277) (rd_L3 t272 a1).length c276_0) ∧ w'.cell? (ad277.add (a2).toNat) = some (.int .i64 (rd (rd_L3 t272 a1) a2))) (ds := []) ba11_0 (by kernel_rfl) rfl rfl ⟨(blk_cell BK275.out 0).trans rfl, (blk_cell BK267.out 0).trans rfl, hx276_0, hx277_0⟩ (fun hHeld => ?_); refine with_tabW impl_Shares.tab4 impl_Shares.bits4 (fun HT_ HW_ => ?_)
   generalize w68.drew = w69 at HO274 BK266 BK267 BK275 HB HL276_0 HR276_0 hx276_0 hx277_0 hHeld ⊢
   refine pz_ 1 41 ba11_1 HT_ ?_
   refine pt_ 0 40 ba11_2 HT_ HW_ hHeld ?_
   refine pz_ 2 42 ba11_3 HT_ ?_
   refine pt_ 3 43 ba11_4 HT_ HW_ hHeld ?_
   refine pt_ 4 44 ba11_5 HT_ HW_ hHeld ?_
   refine pz_ 5 45 ba11_6 HT_ ?_
   refine pt_ 6 46 ba11_7 HT_ HW_ hHeld ?_
   refine pz_ 7 47 ba11_8 HT_ ?_
   refine done_ (done_of HT_.out (by kernel_rfl)) ?_
   have hcz70_0 := cz_ BK266 0 (.int .i64 a0_0)
   have hcz70_1 := cz_ BK266 1 (.slice A0_1 l0_1.length c0_1)
   have hfz70_0 := fz_ BK266 0
   have hfz70_1 := fz_ BK266 1
   try go_wp2_with (first | ((with_reducible refine gate_dst (N := 50) rfl ?_); refine Kd.R_make (Kd.int .i64) _ 3 rfl (N := 50) rfl 26 _ _ rfl a0_0 rfl rfl Try.underlying26 (.int .i64 0) 8 info3 rfl (by decide) (by omega) 0 (ok := fun _ => True) (okp := fun _ => True) rfl (fun _ hk => hk) trivial oa_ (Nat.le_trans (Nat.mul_le_mul_right _ (oa_ : a0_0.toNat ≤ 35184372088832)) (by omega)) (Below.refl _ _) (Nat.le_refl _) ?_; intro v279 w71 ho72 hb hg_ hnew_; clear hg_ hnew_; (first | rw [← Ny278.out] at ho72 | (simp only [Int.reduceToNat] at ho72; rw [← Ny278.out] at ho72)); have HO280 := Aside0.mk (Kd.R_lower (Kd.R_newB (Kd.R_new' ho72 (Kd.R_lt (by (with_reducible repeat (first | apply Kd.R_alloc | apply Kd.R_drewN | apply Kd.R_drew)); exact HL276_0.out))) (g := gb267) (o := .cells #[.int .i64 a2] 3 (0, 0)) (bx_ BK267)) (bz_ HB)); replace HO274 := Aside0.mk (Kd.S_elder' (hS_ HO274) (Kd.R_base ho72) hb); replace HL276_0 := Aside0.mk (Kd.R_elder' (by (with_reducible repeat (first | apply Kd.R_alloc | apply Kd.R_drewN | apply Kd.R_drew)); exact HL276_0.out) (Kd.R_base ho72) hb); replace BK266 := ab_ BK266 hb; replace BK267 := ab_ BK267 hb; replace BK275 := ab_ BK275 hb; replace HR276_0 := Aside0.mk (Kd.C_below (by repeat (first | (with_reducible exact HR276_0.out) | (with_reducible refine Kd.C_alloc ?_ _) | (with_reducible refine Kd.C_drewN ?_ _) | (with_reducible refine Kd.C_drew ?_) | exact HR276_0.out)) hb); replace HB := at_ HB hb; clear hb ho72; have p59 : 0 ≤ (a1 : Int) := oa_; have q59 : (a1 : Int) < ((y278.length : Int) : Int) := oa_; obtain ⟨go59, co59, eo59, gb59, gl59, cl59, HG59⟩ := Kd.R_form HO280.out (by omega); (first | cases eo59 | (injection eo59 with ea_ en_ ec_; (first | subst ea_ | (injection ea_ with ea_; subst ea_)); subst ec_; clear en_)); have GB59 := Aside0.mk gb59; have GG59 := Aside0.mk HG59; clear gb59 gl59 HG59; obtain ⟨hx59_0, hf59_0⟩ := Kd.R_celln 0 HO280.out (a1 : Int) p59 q59; replace p59 := eq_true p59; replace q59 := eq_true q59; have n_ := Aside0.mk (Kd.R_mono (ok' := (fun k_ => some k_ ≠ (.slice (some ad277) (rd_L3 t272 a1).length c276_0 : Value).ownBlock ∧ k_ ≠ gb267)) HO280.out (fun k_ hk => ⟨hk.1.2, hk.2⟩)); clear HO280; have HO280 := n_; clear n_; obtain ⟨hy73_, hz73_⟩ := Kd.R_celln 0 HO280.out (a1 : Int) oa_ oa_; have HP73 := Kd.R_putg HO280.out (a1 : Int) a3) | ((with_reducible refine gate_store (t := 3) (p := 54) rfl ?_); refine store_event (t := 3) (p := 54) (v := ?vo_w74) (w1 := (w71.setCell ⟨go59, (a1 : Int).toNat, none⟩ (.int .i64 a3))) ?hg ?ho ?hn ?hr ?_; (case ho => rfl); (case hg => rfl); (case hn => rfl); (case hr => first | (go_simp; done) | (go_simp; rfl)); intro w74 hw; have hg : w71.grownBy w74 (some go59) := (by rw [hw]; exact HP73.2); have hp_ : Kd.R (Kd.int .i64) 3 w74 w.heap.size (fun k_ => some k_ ≠ (.slice (some ad277) (rd_L3 t272 a1).length c276_0 : Value).ownBlock ∧ k_ ≠ gb267) (.slice (some ⟨go59, 0, none⟩) y278.length co59) y281 := (by rw [hw, Ny281.out]; exact HP73.1); clear HP73; replace BK266 := Aside0.mk (blk_grown (g := gb266) (o := .cells #[.int .i64 a0_0, .slice A0_1 l0_1.length c0_1] 30 (0, 0)) (bx_ BK266) hg (Kd.R_ne HO280.out BK266.out (by decide))); replace BK267 := Aside0.mk (blk_grown (g := gb267) (o := .cells #[.int .i64 a2] 3 (0, 0)) (bx_ BK267) hg (Kd.R_away HO280.out (fun _ hk => hk.2))); replace HO274 := Aside0.mk (Kd.S_after (v := (.slice (some ⟨go59, 0, none⟩) y278.length co59)) (v1 := (.slice (some ⟨go59, 0, none⟩) y278.length co59)) (ok := (fun k_ => k_ ≠ gb267)) (hS_ HO274) hg (.inl rfl)); replace BK275 := Aside0.mk (blk_grown (g := gb275) (o := .cells #[.slice (some ad276) t272.length co64] 45 (0, 0)) (bx_ BK275) hg (Kd.R_ne HO280.out BK275.out (by decide))); replace HL276_0 := Aside0.mk (Kd.R_after (v := (.slice (some ⟨go59, 0, none⟩) y278.length co59)) (v1 := (.slice (some ⟨go59, 0, none⟩) y278.length co59)) (ok := (fun k_ => some k_ ≠ (.slice (some ad276) t272.length co64 : Value).ownBlock ∧ k_ ≠ gb267)) (by (with_reducible repeat (first | apply Kd.R_alloc | apply Kd.R_drewN | apply Kd.R_drew)); exact Kd.R_mono HL276_0.out (fun _ hk => ⟨⟨hk.1.2, hk.1.1⟩, hk.2⟩)) hg (.inl rfl)); replace HO280 := Aside0.mk (hp_); replace HB := Aside0.mk ((by rw [hw]; exact below_set (HB.out) GB59.out : Below w.heap.size w w74)); clear hg hw hp_) | ((with_reducible refine gate_dst (N := 55) rfl ?_); refine Kd.R_lit (Kd.int .i64) _ 3 ?hg (N := 55) ?hd (xs := ([] : List Int)) (inner := []) (ok := fun _ => True) (okp := fun _ => True) ?hr ?hp (fun _ hk => hk) trivial (Below.refl _ _) (Nat.le_refl _) (by simp) ?_; (case hd => rfl); (case hg => rfl); (case hr => first | (go_simp; done) | (go_simp; rfl)); (case hp => exact (Reps.none _ _)); intro v283 w75 ho76 hb hg_ hnew_; clear hg_ hnew_; (first | rw [← Ny282.out] at ho76 | (simp only [Int.reduceToNat] at ho76; rw [← Ny282.out] at ho76)); have HO284 := Aside0.mk (Kd.R_lower (Kd.R_newB (Kd.R_new' (Kd.R_new' ho76 (Kd.R_lt (by (with_reducible repeat (first | apply Kd.R_alloc | apply Kd.R_drewN | apply Kd.R_drew)); exact HL276_0.out))) (Kd.R_lt (hd_ HO280))) (g := gb267) (o := .cells #[.int .i64 a2] 3 (0, 0)) (bx_ BK267)) (bz_ HB)); replace HO274 := Aside0.mk (Kd.S_elder' (hS_ HO274) (Kd.R_base ho76) hb); replace HL276_0 := Aside0.mk (Kd.R_elder' (by (with_reducible repeat (first | apply Kd.R_alloc | apply Kd.R_drewN | apply Kd.R_drew)); exact HL276_0.out) (Kd.R_base ho76) hb); replace HO280 := Aside0.mk (Kd.R_elder' (hd_ HO280) (Kd.R_base ho76) hb); replace BK266 := ab_ BK266 hb; replace BK267 := ab_ BK267 hb; replace BK275 := ab_ BK275 hb; replace HB := at_ HB hb; clear hb ho76; have hcz77_0 := cz_ BK266 0 (.int .i64 a0_0); have hcz77_1 := cz_ BK266 1 (.slice A0_1 l0_1.length c0_1); have hfz77_0 := fz_ BK266 0; have hfz77_1 := fz_ BK266 1))
   go_loopg [11, 58] kj4 (fun kq v11 v58 w' => ∃ (x11_2 : List Int) (x58_2 : Int), v58 = .int .i64 x58_2 ∧ Aside0 (impl_Shares.l0 kq y281 x11_2 a0_0 x58_2 a0_0 l0_1 a2 t272 = some r) ∧ Aside0 (kq ≤ kj4) ∧ Aside0 (Kd.R (Kd.int .i64) 3 w' w.heap.size (fun k_ => some k_ ≠ (v11 : Value).ownBlock ∧ k_ ≠ gb267) (.slice (some ⟨go59, 0, none⟩) y278.length co59) y281) ∧ Aside0 (Kd.R (Kd.int .i64) 3 w' w.heap.size (fun k_ => some k_ ≠ ((.slice (some ⟨go59, 0, none⟩) y278.length co59) : Value).ownBlock ∧ k_ ≠ gb267) v11 x11_2) ∧ Aside0 (Kd.S (Kd.slice 3 (Kd.int .i64)) 26 w' w.heap.size (fun k_ => some k_ ≠ ((.slice (some ⟨go59, 0, none⟩) y278.length co59) : Value).ownBlock ∧ some k_ ≠ (v11 : Value).ownBlock ∧ k_ ≠ gb267) (.slice (some ad276) t272.length co64) t272) ∧ Aside0 (w'.heap[gb266]? = some (.cells #[.int .i64 a0_0, (.slice A0_1 l0_1.length c0_1)] 30 (0, 0))) ∧ Aside0 (w'.heap[gb267]? = some (.cells #[.int .i64 a2] 3 (0, 0))) ∧ Aside0 (w'.heap[gb275]? = some (.cells #[(.slice (some ad276) t272.length co64)] 45 (0, 0))) ∧ Aside0 (Below w.heap.size w w'))
   case atStart => exact ⟨(y282), (0), er_, H', ⟨Nat.le_refl _⟩, ⟨by (with_reducible repeat (first | apply Kd.R_alloc | apply Kd.R_drewN | apply Kd.R_drew)); exact Kd.R_mono HO280.out (fun _ hk => by first | exact ⟨hk.2, hk.1.2⟩ | grind)⟩, ⟨by (with_reducible repeat (first | apply Kd.R_alloc | apply Kd.R_drewN | apply Kd.R_drew)); exact Kd.R_mono HO284.out (fun _ hk => by first | exact ⟨hk.1.2, hk.2⟩ | grind)⟩, ⟨by (with_reducible repeat (first | apply Kd.S_alloc | apply Kd.S_drewN | apply Kd.S_drew)); exact Kd.S_mono HO274.out (fun _ hk => ⟨hk.1.2, ⟨hk.2, hk.1.1⟩⟩)⟩, ⟨bx_ BK266⟩, ⟨bx_ BK267⟩, ⟨bx_ BK275⟩, ⟨bw_⟩⟩
   case round =>
    clear H'
    try clear c1
    try clear c2
    try clear p2
    try clear q2
    try clear hx2
    try clear c3
    try clear c4
    try clear c5
    try clear p5
    try clear q5
    try clear hx5
    try clear hf5
    try clear c6
    try clear c9
    try clear c11
    try clear c13
    try clear c15
    try clear c20
    try clear c23
    try clear c27
    try clear p27
    try clear q27
    try clear hx27
    try clear c31
    try clear c36
    try clear c39
    try clear c41
    try clear c41b0
    try clear c42
    try clear c42b0
    try clear c43
    try clear c43b0
    try clear c44
    try clear c44b0
    try clear c45
    try clear c45b0
    try clear c45b1
    try clear c46
    try clear c47
    try clear c51
    try clear c52
    try clear c55
    try clear c56
    try clear c56b0
    try clear c56b1
    try clear c57
    try clear c57b0
    try clear c57b1
    try clear c58
    try clear c58b0
    try clear p59
    try clear q59
    try clear hx59
    try clear hf59
    try clear c60
    try clear c65
    try clear c66
    try clear hcz16_0
    try clear hcz16_1
    try clear hcz18_0
    try clear hcz18_1
    try clear hcz20_0
    try clear hcz20_1
    try clear hcz21_0
    try clear hcz24_0
    try clear hcz24_1
    try clear hcz26_0
    try clear hcz26_1
    try clear hcz28_0
    try clear hcz28_1
    try clear hcz29_0
    try clear hcz32_0
    try clear hcz32_1
    try clear hcz34_0
    try clear hcz34_1
    try clear hcz37_0
    try clear hcz37_1
    try clear hcz47_0
    try clear hcz47_1
    try clear hcz53_0
    try clear hcz61_0
    try clear hcz61_1
    try clear hcz67_0
    try clear hcz70_0
    try clear hcz70_1
    try clear hcz77_0
    try clear hcz77_1
    try clear hfz16_0
    try clear hfz16_1
    try clear hfz18_0
    try clear hfz18_1
    try clear hfz20_0
    try clear hfz20_1
    try clear hfz21_0
    try clear hfz24_0
    try clear hfz24_1
    try clear hfz26_0
    try clear hfz26_1
    try clear hfz28_0
    try clear hfz28_1
    try clear hfz29_0
    try clear hfz32_0
    try clear hfz32_1
    try clear hfz34_0
    try clear hfz34_1
    try clear hfz37_0
    try clear hfz37_1
    try clear hfz47_0
    try clear hfz47_1
    try clear hfz53_0
    try clear hfz61_0
    try clear hfz61_1
    try clear hfz67_0
    try clear hfz70_0
    try clear hfz70_1
    try clear hfz77_0
    try clear hfz77_1
    try clear hx276_0
    try clear hx277_0
    try clear hx59_0
    try clear p2
    try clear p276
    try clear p277
    try clear p59
    try clear q276
    try clear q277
    try clear q59
    obtain ⟨x11_2, x58_2, rfl, HA, HK2, HO_10, HO_11, HO_276000, BK266, BK267, BK275, HB⟩ := hrel
    have hl10_2 := (Kd.R_reads' HO_10.out).1
    rw [hl10_2] at HO_10
    (try simp only [hl10_2])
    (try simp only [hl10_2] at BK266)
    (try simp only [hl10_2] at BK267)
    (try simp only [hl10_2] at BK275)
    (try simp only [hl10_2] at HO_11)
    (try simp only [hl10_2] at HO_276000)
    cases gk with
    | zero => exact absurd HA.out (by simp [impl_Shares.l0])
    | succ k2 =>
     have H := HA.out
     clear HA
     simp only [impl_Shares.l0] at H
     by_cases c78 : x58_2 < a0_0
     ·rw [if_pos c78] at H
      have c78b0 : decide (x58_2 < a0_0) = true := decide_eq_true c78
      clear c78
      by_cases c79 : x58_2 = a2
      ·rw [if_pos c79] at H
       have c79b0 : (x58_2 == a2) = true := beq_iff_eq.mpr c79
       have c79b1 : (x58_2 != a2) = false := bne_eq_false_iff_eq.mpr c79
       clear c79
       have H' := Aside0.mk H
       clear H
       try go_wp2
       replace HO_10 := Aside0.mk (Kd.R_drew HO_10.out)
       replace HO_11 := Aside0.mk (Kd.R_drew HO_11.out)
       replace HO_276000 := Aside0.mk (Kd.S_drew HO_276000.out)
       replace BK266 := ad_ BK266
       replace BK267 := ad_ BK267
       replace BK275 := ad_ BK275
       replace HB := Aside0.mk (below_drew1 HB.out)
       refine start_ (n := 13) (S := fun w' => w'.cell? ⟨gb267, 0, none⟩ = some (.int .i64 a2)) (ds := []) ba11_9 (by kernel_rfl) rfl rfl ((blk_cell BK267.out 0).trans rfl) (fun hHeld => ?_); refine with_tabW impl_Shares.tab12 impl_Shares.bits12 (fun HT_ HW_ => ?_)
       generalize wr.drew = w80 at HO_10 HO_11 HO_276000 BK266 BK267 BK275 HB hHeld ⊢
       refine pz_ 0 61 ba11_10 HT_ ?_
       refine take_ (i := 1) (N := some 62) (v := ?_) (a' := ?_) ba11_11 rfl rfl (take_ofW HT_.out HW_.out (by kernel_rfl)) (fun _ _ _ h => h) (Or.inl ⟨by rfl, ?_⟩) hHeld ?_ ?_
       rotate_left; · intro w' s0; go_simp; with_reducible rfl
       rotate_left; · simp only [Act.put, List.setIfInBounds_toArray, List.set_cons_zero, List.set_cons_succ, i64_w, i32_w]; rfl
       refine pz_ 2 63 ba11_12 HT_ ?_
       refine pz_ 3 64 ba11_13 HT_ ?_
       refine pu_ 4 65 ba11_14 HT_ ?_
       refine pu_ 5 66 ba11_15 HT_ ?_
       refine pu_ 6 67 ba11_16 HT_ ?_
       refine pu_ 7 68 ba11_17 HT_ ?_
       refine pu_ 8 69 ba11_18 HT_ ?_
       refine pu_ 9 70 ba11_19 HT_ ?_
       refine pu_ 10 71 ba11_20 HT_ ?_
       refine pu_ 11 72 ba11_21 HT_ ?_
       refine pz_ 12 73 ba11_22 HT_ ?_
       refine done_ (done_of HT_.out (by kernel_rfl)) ?_
       try go_wp2
       (try simp only [← hl10_2])
       go_roundg k2
       case measure => have := HJ4.out; have := HK2.out; omega
       case rel => exact ⟨(x11_2), (wrap64 (x58_2 + 1)), er_, H', ⟨by have := HJ4.out; have := HK2.out; omega⟩, ⟨by (try simp only [hl10_2]); (with_reducible repeat (first | apply Kd.R_alloc | apply Kd.R_drewN | apply Kd.R_drew)); exact HO_10.out⟩, ⟨by (try simp only [hl10_2]); (with_reducible repeat (first | apply Kd.R_alloc | apply Kd.R_drewN | apply Kd.R_drew)); exact HO_11.out⟩, ⟨by (try simp only [hl10_2]); (with_reducible repeat (first | apply Kd.S_alloc | apply Kd.S_drewN | apply Kd.S_drew)); exact HO_276000.out⟩, ⟨by (try simp only [hl10_2]); refine bd_ ?_; exact BK266.out⟩, ⟨by (try simp only [hl10_2]); refine bd_ ?_; exact BK267.out⟩, ⟨by (try simp only [hl10_2]); refine bd_ ?_; exact BK275.out⟩, ⟨bw_⟩⟩
      rw [if_neg c79] at H
      have c79b0 : (x58_2 == a2) = false := beq_eq_false_iff_ne.mpr c79
      have c79b1 : (x58_2 != a2) = true := bne_iff_ne.mpr c79
      obtain ⟨c81b0, H⟩ := iq_ H
      obtain ⟨c82b0, H⟩ := iq_ H
      obtain ⟨c83b0, H⟩ := iq_ H
      obtain ⟨c84b0, H⟩ := iq_ H
      by_cases c85 : (rd (rd_L3 t272 x58_2) a2) < 1000000
      rotate_left
      ·rw [if_neg c85] at H
       have c85b0 : decide ((rd (rd_L3 t272 x58_2) a2) < 1000000) = false := decide_eq_false c85
       clear c85
       have H' := Aside0.mk H
       clear H
       try go_wp2
       replace HO_10 := Aside0.mk (Kd.R_drew HO_10.out)
       replace HO_11 := Aside0.mk (Kd.R_drew HO_11.out)
       replace HO_276000 := Aside0.mk (Kd.S_drew HO_276000.out)
       replace BK266 := ad_ BK266
       replace BK267 := ad_ BK267
       replace BK275 := ad_ BK275
       replace HB := Aside0.mk (below_drew1 HB.out)
       have p285 : 0 ≤ (x58_2 : Int) := oa_
       have q285 : x58_2 < (t272.length : Int) := oa_
       obtain ⟨ad285, A285_0, c285_0, e285, hx285_0, hl285_0, hi285_0⟩ := at_L3 (Kd.S_reads' HO_276000.out).2.2 x58_2 p285 q285
       obtain rfl : ad276 = ad285 := (by injection e285)
       obtain ⟨ce285, hce285, hMe285, hcc285⟩ := Kd.S_get HO_276000.out [] x58_2 p285 (by first | exact q285 | exact oa_ | (have e_ := (Kd.S_reads' HO_276000.out).1; omega))
       obtain ⟨ve285_0, rfl, ge285_0⟩ := hMe285
       have hv285_0 := hcc285 0 _ rfl
       rw [Nat.add_zero, show ((Kd.slice 3 (Kd.int .i64))).sz = 1 from rfl, Nat.mul_one] at hv285_0
       replace hv285_0 := Option.some.inj (hv285_0.symm.trans hx285_0)
       rw [hv285_0] at ge285_0
       have HL285_0 := Aside0.mk (show Kd.R (Kd.int .i64) 3 _ _ _ _ (rd_L3 t272 x58_2) from ge285_0)
       clear hv285_0 ge285_0
       clear hcc285 hce285
       have HR285_0 := Aside0.mk hi285_0
       have HC285_0 := Aside0.mk hl285_0
       clear hi285_0 hl285_0
       replace p285 := eq_true p285
       replace q285 := eq_true q285
       have p286 : 0 ≤ (a2 : Int) := oa_
       have q286 : a2 < ((rd_L3 t272 x58_2).length : Int) := oa_
       obtain ⟨ad286, e286, hx286_0⟩ := Kd.at_int (by repeat (first | (with_reducible exact HR285_0.out) | (with_reducible refine Kd.C_alloc ?_ _) | (with_reducible refine Kd.C_drewN ?_ _) | (with_reducible refine Kd.C_drew ?_) | exact HR285_0.out)) a2 p286 q286
       cases e286
       replace p286 := eq_true p286
       replace q286 := eq_true q286
       refine start_ (n := 13) (S := fun w' => w'.cell? ⟨gb267, 0, none⟩ = some (.int .i64 a2) ∧ w'.cell? ⟨gb275, 0, none⟩ = some (.slice (some ad276) t272.length co64) ∧ w'.cell? (ad276.add (x58_2).toNat) = some (.slice (some ad286) (rd_L3 t272 x58_2).length c285_0) ∧ w'.cell? (ad286.add (a2).toNat) = some (.int .i64 (rd (rd_L3 t272 x58_2) a2))) (ds := []) ba11_9 (by kernel_rfl) rfl rfl ⟨(blk_cell BK267.out 0).trans rfl, (blk_cell BK275.out 0).trans rfl, hx285_0, hx286_0⟩ (fun hHeld => ?_); refine with_tabW impl_Shares.tab12 impl_Shares.bits12 (fun HT_ HW_ => ?_)
       generalize wr.drew = w89 at HO_10 HO_11 HO_276000 BK266 BK267 BK275 HB HL285_0 HR285_0 hx285_0 hx286_0 hHeld ⊢
       refine pz_ 0 61 ba11_10 HT_ ?_
       refine pt_ 1 62 ba11_11 HT_ HW_ hHeld ?_
       refine pz_ 2 63 ba11_12 HT_ ?_
       refine pz_ 3 64 ba11_13 HT_ ?_
       refine pz_ 5 66 ba11_23 HT_ ?_
       refine pt_ 4 65 ba11_15 HT_ HW_ hHeld ?_
       refine pz_ 6 67 ba11_16 HT_ ?_
       refine pt_ 7 68 ba11_17 HT_ HW_ hHeld ?_
       refine pt_ 8 69 ba11_18 HT_ HW_ hHeld ?_
       refine pz_ 9 70 ba11_19 HT_ ?_
       refine pt_ 10 71 ba11_20 HT_ HW_ hHeld ?_
       refine pz_ 11 72 ba11_21 HT_ ?_
       refine pz_ 12 73 ba11_22 HT_ ?_
       refine done_ (done_of HT_.out (by kernel_rfl)) ?_
       try go_wp2
       (try simp only [← hl10_2])
       go_roundg k2
       case measure => have := HJ4.out; have := HK2.out; omega
       case rel => exact ⟨(x11_2), (wrap64 (x58_2 + 1)), er_, H', ⟨by have := HJ4.out; have := HK2.out; omega⟩, ⟨by (try simp only [hl10_2]); (with_reducible repeat (first | apply Kd.R_alloc | apply Kd.R_drewN | apply Kd.R_drew)); exact HO_10.out⟩, ⟨by (try simp only [hl10_2]); (with_reducible repeat (first | apply Kd.R_alloc | apply Kd.R_drewN | apply Kd.R_drew)); exact HO_11.out⟩, ⟨by (try simp only [hl10_2]); (with_reducible repeat (first | apply Kd.S_alloc | apply Kd.S_drewN | apply Kd.S_drew)); exact HO_276000.out⟩, ⟨by (try simp only [hl10_2]); refine bd_ ?_; exact BK266.out⟩, ⟨by (try simp only [hl10_2]); refine bd_ ?_; exact BK267.out⟩, ⟨by (try simp only [hl10_2]); refine bd_ ?_; exact BK275.out⟩, ⟨bw_⟩⟩
      rw [if_pos c85] at H
      have c85b0 : decide ((rd (rd_L3 t272 x58_2) a2) < 1000000) = true := decide_eq_true c85
      clear c85
      by_cases c86 : x11_2.length < 17592186044416
      rotate_left
      ·rw [if_neg c86] at H
       exact absurd H (by simp)
      rw [if_pos c86] at H
      have LMc86 := Aside0.mk c86
      clear c86
      obtain ⟨y287, hy287⟩ : ∃ y_ : List Int, y_ = (x11_2 ++ [x58_2]) := ⟨_, rfl⟩
      replace H : (impl_Shares.l0 k2 y281 y287 a0_0 (wrap64 (x58_2 + 1)) a0_0 l0_1 a2 t272) = some r := by first | (rw [hy287]; with_reducible exact H) | (have H2_ := (Option.bind_some _ _).symm.trans H; rw [hy287]; with_reducible exact H2_) | (have H2_ := (Option.bind_some _ _).symm.trans H; with_reducible exact H2_) | with_reducible exact H | (rw [hy287]; exact H) | exact H
      have Ny287 := Aside0.mk hy287
      clear hy287
      have H' := Aside0.mk H
      clear H
      try go_wp2
      replace HO_10 := Aside0.mk (Kd.R_drew HO_10.out)
      replace HO_11 := Aside0.mk (Kd.R_drew HO_11.out)
      replace HO_276000 := Aside0.mk (Kd.S_drew HO_276000.out)
      replace BK266 := ad_ BK266
      replace BK267 := ad_ BK267
      replace BK275 := ad_ BK275
      replace HB := Aside0.mk (below_drew1 HB.out)
      have p285 : 0 ≤ (x58_2 : Int) := oa_
      have q285 : x58_2 < (t272.length : Int) := oa_
      obtain ⟨ad285, A285_0, c285_0, e285, hx285_0, hl285_0, hi285_0⟩ := at_L3 (Kd.S_reads' HO_276000.out).2.2 x58_2 p285 q285
      obtain rfl : ad276 = ad285 := (by injection e285)
      obtain ⟨ce285, hce285, hMe285, hcc285⟩ := Kd.S_get HO_276000.out [] x58_2 p285 (by first | exact q285 | exact oa_ | (have e_ := (Kd.S_reads' HO_276000.out).1; omega))
      obtain ⟨ve285_0, rfl, ge285_0⟩ := hMe285
      have hv285_0 := hcc285 0 _ rfl
      rw [Nat.add_zero, show ((Kd.slice 3 (Kd.int .i64))).sz = 1 from rfl, Nat.mul_one] at hv285_0
      replace hv285_0 := Option.some.inj (hv285_0.symm.trans hx285_0)
      rw [hv285_0] at ge285_0
      have HL285_0 := Aside0.mk (show Kd.R (Kd.int .i64) 3 _ _ _ _ (rd_L3 t272 x58_2) from ge285_0)
      clear hv285_0 ge285_0
      clear hcc285 hce285
      have HR285_0 := Aside0.mk hi285_0
      have HC285_0 := Aside0.mk hl285_0
      clear hi285_0 hl285_0
      replace p285 := eq_true p285
      replace q285 := eq_true q285
      have p286 : 0 ≤ (a2 : Int) := oa_
      have q286 : a2 < ((rd_L3 t272 x58_2).length : Int) := oa_
      obtain ⟨ad286, e286, hx286_0⟩ := Kd.at_int (by repeat (first | (with_reducible exact HR285_0.out) | (with_reducible refine Kd.C_alloc ?_ _) | (with_reducible refine Kd.C_drewN ?_ _) | (with_reducible refine Kd.C_drew ?_) | exact HR285_0.out)) a2 p286 q286
      cases e286
      replace p286 := eq_true p286
      replace q286 := eq_true q286
      refine start_ (n := 13) (S := fun w' => w'.cell? ⟨gb267, 0, none⟩ = some (.int .i64 a2) ∧ w'.cell? ⟨gb275, 0, none⟩ = some (.slice (some ad276) t272.length co64) ∧ w'.cell? (ad276.add (x58_2).toNat) = some (.slice (some ad286) (rd_L3 t272 x58_2).length c285_0) ∧ w'.cell? (ad286.add (a2).toNat) = some (.int .i64 (rd (rd_L3 t272 x58_2) a2))) (ds := []) ba11_9 (by kernel_rfl) rfl rfl ⟨(blk_cell BK267.out 0).trans rfl, (blk_cell BK275.out 0).trans rfl, hx285_0, hx286_0⟩ (fun hHeld => ?_); refine with_tabW impl_Shares.tab12 impl_Shares.bits12 (fun HT_ HW_ => ?_)
      generalize wr.drew = w87 at HO_10 HO_11 HO_276000 BK266 BK267 BK275 HB HL285_0 HR285_0 hx285_0 hx286_0 hHeld ⊢
      refine pz_ 0 61 ba11_10 HT_ ?_
      refine pt_ 1 62 ba11_11 HT_ HW_ hHeld ?_
      refine pz_ 2 63 ba11_12 HT_ ?_
      refine pz_ 3 64 ba11_13 HT_ ?_
      refine pz_ 5 66 ba11_23 HT_ ?_
      refine pt_ 4 65 ba11_15 HT_ HW_ hHeld ?_
      refine pz_ 6 67 ba11_16 HT_ ?_
      refine pt_ 7 68 ba11_17 HT_ HW_ hHeld ?_
      refine pt_ 8 69 ba11_18 HT_ HW_ hHeld ?_
      refine pz_ 9 70 ba11_19 HT_ ?_
      refine pt_ 10 71 ba11_20 HT_ HW_ hHeld ?_
      refine pz_ 11 72 ba11_21 HT_ ?_
      refine pz_ 12 73 ba11_22 HT_ ?_
      refine done_ (done_of HT_.out (by kernel_rfl)) ?_
      try go_wp2_with ((with_reducible refine gate_builtin (b := .append) (xs := #[.tmp 74, .tmp 76]) rfl ?_); at_builtin; refine Kd.R_append (Kd.int .i64) (w0 := w) w.heap.size rfl (.tmp 74) (.tmp 76) 26 3 (.int .i64 0) 8 rfl Try.underlying26 info3 rfl (by decide) (by omega) u11 x11_2 x58_2 [.int .i64 x58_2] (fun k_ => some k_ ≠ (.slice (some ⟨go59, 0, none⟩) y281.length co59 : Value).ownBlock ∧ k_ ≠ gb267) (fun _ => False) rfl rfl ?aP (fun _ hk => hk.elim) ?aF ?aO ?aB ?aS ?aL ?_; (case aP => exact rfl); (case aB => exact (bw_)); (case aF => exact (fun k_ hk => ⟨Kd.fresh' (Kd.R_lt (hd_ HO_10)) k_ hk, Kd.freshB (g := gb267) (o := .cells #[.int .i64 a2] 3 (0, 0)) (bx_ BK267) k_ hk⟩)); (case aO => exact (hd_ HO_11)); (case aS => exact (bz_ HB)); (case aL => have := LMc86.out; omega); intro v288 w88 ho hb hg hat; rw [← Ny287.out] at ho; have HO289 := Aside0.mk ho; replace HO_10 := Aside0.mk (Kd.R_after (ok := (fun k_ => k_ ≠ gb267)) (by (with_reducible repeat (first | apply Kd.R_alloc | apply Kd.R_drewN | apply Kd.R_drew)); exact Kd.R_mono HO_10.out (fun _ hk => by first | exact ⟨hk.2, hk.1⟩ | grind)) hg hat); replace HO_276000 := Aside0.mk (Kd.S_after (ok := (fun k_ => some k_ ≠ (.slice (some ⟨go59, 0, none⟩) y281.length co59 : Value).ownBlock ∧ k_ ≠ gb267)) (by (with_reducible repeat (first | apply Kd.S_alloc | apply Kd.S_drewN | apply Kd.S_drew)); exact Kd.S_mono HO_276000.out (fun _ hk => ⟨⟨hk.1, hk.2.2⟩, hk.2.1⟩)) hg hat); replace BK266 := Aside0.mk (blk_grown (g := gb266) (o := .cells #[.int .i64 a0_0, .slice A0_1 l0_1.length c0_1] 30 (0, 0)) (bx_ BK266) hg (Kd.R_ne HO_11.out BK266.out (by decide))); replace BK267 := Aside0.mk (blk_grown (g := gb267) (o := .cells #[.int .i64 a2] 3 (0, 0)) (bx_ BK267) hg (Kd.R_away HO_11.out (fun _ hk => hk.2))); replace BK275 := Aside0.mk (blk_grown (g := gb275) (o := .cells #[.slice (some ad276) t272.length co64] 45 (0, 0)) (bx_ BK275) hg (Kd.R_ne HO_11.out BK275.out (by decide))); replace HL285_0 := Aside0.mk (Kd.R_after (ok := (fun k_ => some k_ ≠ (.slice (some ⟨go59, 0, none⟩) y281.length co59 : Value).ownBlock ∧ some k_ ≠ (.slice (some ad276) t272.length co64 : Value).ownBlock ∧ k_ ≠ gb267)) (by (with_reducible repeat (first | apply Kd.R_alloc | apply Kd.R_drewN | apply Kd.R_drew)); exact Kd.R_mono HL285_0.out (fun _ hk => ⟨⟨hk.1.1, ⟨hk.2, hk.1.2.2⟩⟩, hk.1.2.1⟩)) hg hat); replace HB := Aside0.mk (hb); clear HO_11; clear ho hb hg hat)
      (try simp only [← hl10_2])
      go_roundg k2
      case measure => have := HJ4.out; have := HK2.out; omega
      case rel => exact ⟨(y287), (wrap64 (x58_2 + 1)), er_, H', ⟨by have := HJ4.out; have := HK2.out; omega⟩, ⟨by (try simp only [hl10_2]); (with_reducible repeat (first | apply Kd.R_alloc | apply Kd.R_drewN | apply Kd.R_drew)); exact Kd.R_mono HO_10.out (fun _ hk => by first | exact ⟨hk.2, hk.1⟩ | grind)⟩, ⟨by (try simp only [hl10_2]); (with_reducible repeat (first | apply Kd.R_alloc | apply Kd.R_drewN | apply Kd.R_drew)); exact HO289.out⟩, ⟨by (try simp only [hl10_2]); (with_reducible repeat (first | apply Kd.S_alloc | apply Kd.S_drewN | apply Kd.S_drew)); exact Kd.S_mono HO_276000.out (fun _ hk => ⟨hk.1.1, ⟨hk.2, hk.1.2⟩⟩)⟩, ⟨by (try simp only [hl10_2]); refine bd_ ?_; exact BK266.out⟩, ⟨by (try simp only [hl10_2]); refine bd_ ?_; exact BK267.out⟩, ⟨by (try simp only [hl10_2]); refine bd_ ?_; exact BK275.out⟩, ⟨bw_⟩⟩
     rw [if_neg c78] at H
     have c78b0 : decide (x58_2 < a0_0) = false := decide_eq_false c78
     clear c78
     replace H := Option.bind_eq_some_iff.mp H
     obtain ⟨t290, A900, H⟩ := H
     have A90 := Aside0.mk A900
     clear A900
     have H' := Aside0.mk H
     clear H
     obtain ⟨Ao91, co91, eo91⟩ := Kd.R_slice HO_11.out
     subst eo91
     go_wp2_with ((with_reducible refine gate_callee (f := 56) rfl ?_); refine gl_ (some 81) Try.func56 #[.slice Ao91 x11_2.length co91, .func (.func 57) #[] #[.pointer (some ⟨gb275, 0, none⟩), .pointer (some ⟨gb267, 0, none⟩)]] ?_; (with_reducible refine (slices_SortFunc_int_int.calls k2 (fun k_ => some k_ = (.slice Ao91 x11_2.length co91 : Value).ownBlock) (.slice Ao91 x11_2.length co91) x11_2 _ [t272] _ [a2] t290 w _ ?side1 ?side2 ?side3 ?side4 A90.out).mono ?_); (case side1 => exact by_ HB); (case side2 => exact Kd.R_tight rfl HO_11.out); (case side3 => exact C_box1_kept (cs := [.slice (some ad276) t272.length co64]) (bx_ BK275) (fun hs_ => (Kd.R_ne HO_11.out BK275.out (by decide)) hs_) (fun W_ hk_ => ⟨_, _, rfl, ((Kd.S_reads' HO_276000.out).2.1), (Kd.C_kept_own ((Kd.S_R HO_276000.out)) (fun k_ hk_ hs_ => by first | exact (hk_.2.1) hs_ | grind)) _ hk_⟩)); (case side4 => exact C_box1_kept (cs := [.int .i64 a2]) (bx_ BK267) (fun hs_ => (fun e_ => (Kd.R_away HO_11.out (fun _ hk => hk.2)) e_) hs_) (fun W_ hk_ => rfl)); rintro e w92 ⟨rfl, hy0, hb, hkp⟩; refine ⟨_, rfl, ?_⟩; replace HO_10 := kp_ (fun k_ => some k_ ≠ (.slice Ao91 x11_2.length co91 : Value).ownBlock ∧ k_ ≠ gb267) (HO_10.out) hkp; replace HO_276000 := Aside0.mk (Kd.S_mono (ok' := fun k_ => some k_ ≠ (.slice (some ⟨go59, 0, none⟩) y281.length co59 : Value).ownBlock ∧ some k_ ≠ (.slice Ao91 x11_2.length co91 : Value).ownBlock ∧ k_ ≠ gb267) (Kd.S_keptB (HO_276000.out) hkp (fun k_ hk_ hs_ => by first | exact (hk_.2.1) hs_ | grind)) (fun k_ hk_ => by first | exact ⟨hk_.1.1, hk_.1.2.1, hk_.1.2.2⟩ | grind)); replace BK266 := bk_ BK266 hkp (fun hs_ => (Kd.R_ne HO_11.out BK266.out (by decide)) hs_); replace BK267 := bk_ BK267 hkp (fun hs_ => (fun e_ => (Kd.R_away HO_11.out (fun _ hk => hk.2)) e_) hs_); replace BK275 := bk_ BK275 hkp (fun hs_ => (Kd.R_ne HO_11.out BK275.out (by decide)) hs_); replace HO_11 := Aside0.mk (Kd.R_reok rfl hy0 (fun k_ e_ => HO_11.out.1 k_ e_)); replace HB := Aside0.mk (hb); (try clear hb); (try clear hkp); (try clear hy0))
     (try simp only [Act.put, List.setIfInBounds_toArray, List.set_cons_zero, List.set_cons_succ])
     go_loopg [84] k2 (fun kq v84 w' => ∃ (x10_3 : List Int) (x84_3 : Int) (x268000_3 : Int), v84 = .int .i64 x84_3 ∧ Aside0 (impl_Shares.l1 kq x10_3 t290 (x11_2.length : Int) x84_3 a0_0 l0_1 x268000_3 t272 = some r) ∧ Aside0 (kq ≤ k2) ∧ Aside0 (Kd.R (Kd.int .i64) 3 w' w.heap.size (fun k_ => some k_ ≠ ((.slice Ao91 x11_2.length co91) : Value).ownBlock ∧ k_ ≠ gb267) (.slice (some ⟨go59, 0, none⟩) y281.length co59) x10_3) ∧ Aside0 (Kd.R (Kd.int .i64) 3 w' w.heap.size (fun k_ => some k_ ≠ ((.slice (some ⟨go59, 0, none⟩) y281.length co59) : Value).ownBlock ∧ k_ ≠ gb267) (.slice Ao91 x11_2.length co91) t290) ∧ Aside0 (Kd.S (Kd.slice 3 (Kd.int .i64)) 26 w' w.heap.size (fun k_ => some k_ ≠ ((.slice (some ⟨go59, 0, none⟩) y281.length co59) : Value).ownBlock ∧ some k_ ≠ ((.slice Ao91 x11_2.length co91) : Value).ownBlock ∧ k_ ≠ gb267) (.slice (some ad276) t272.length co64) t272) ∧ Aside0 (w'.heap[gb266]? = some (.cells #[.int .i64 a0_0, (.slice A0_1 l0_1.length c0_1)] 30 (0, 0))) ∧ Aside0 (w'.heap[gb267]? = some (.cells #[.int .i64 x268000_3] 3 (0, 0))) ∧ Aside0 (w'.heap[gb275]? = some (.cells #[(.slice (some ad276) t272.length co64)] 45 (0, 0))) ∧ Aside0 (Below w.heap.size w w'))
     case atStart => exact ⟨(y281), (0), (a2), er_, H', ⟨Nat.le_refl _⟩, ⟨by (try simp only [hl10_2]); (with_reducible repeat (first | apply Kd.R_alloc | apply Kd.R_drewN | apply Kd.R_drew)); exact HO_10.out⟩, ⟨by (try simp only [hl10_2]); (with_reducible repeat (first | apply Kd.R_alloc | apply Kd.R_drewN | apply Kd.R_drew)); exact HO_11.out⟩, ⟨by (try simp only [hl10_2]); (with_reducible repeat (first | apply Kd.S_alloc | apply Kd.S_drewN | apply Kd.S_drew)); exact HO_276000.out⟩, ⟨by (try simp only [hl10_2]); refine bd_ ?_; exact BK266.out⟩, ⟨by (try simp only [hl10_2]); refine bd_ ?_; exact BK267.out⟩, ⟨by (try simp only [hl10_2]); refine bd_ ?_; exact BK275.out⟩, ⟨bw_⟩⟩
     case round =>
      clear H'
      try clear c2
      try clear p2
      try clear q2
      try clear hx2
      try clear c5
      try clear p5
      try clear q5
      try clear hx5
      try clear hf5
      try clear c6
      try clear p6
      try clear c7
      try clear c8
      try clear p27
      try clear q27
      try clear hx27
      try clear c28
      try clear p28
      try clear q28
      try clear hx28
      try clear c51
      try clear c52
      try clear c55
      try clear c56
      try clear c56b0
      try clear c56b1
      try clear c57
      try clear c57b0
      try clear c57b1
      try clear c58
      try clear c58b0
      try clear p59
      try clear q59
      try clear hx59
      try clear hf59
      try clear c60
      try clear p64
      try clear c65
      try clear c66
      try clear c78
      try clear c78b0
      try clear c79
      try clear c79b0
      try clear c79b1
      try clear c81
      try clear c81b0
      try clear c82
      try clear c82b0
      try clear c83
      try clear c83b0
      try clear c84
      try clear c84b0
      try clear c85
      try clear c85b0
      try clear c86
      try clear hcz16_0
      try clear hcz16_1
      try clear hcz18_0
      try clear hcz18_1
      try clear hcz20_0
      try clear hcz20_1
      try clear hcz21_0
      try clear hcz24_0
      try clear hcz24_1
      try clear hcz26_0
      try clear hcz26_1
      try clear hcz28_0
      try clear hcz28_1
      try clear hcz29_0
      try clear hcz32_0
      try clear hcz32_1
      try clear hcz34_0
      try clear hcz34_1
      try clear hcz37_0
      try clear hcz37_1
      try clear hcz47_0
      try clear hcz47_1
      try clear hcz53_0
      try clear hcz61_0
      try clear hcz61_1
      try clear hcz67_0
      try clear hcz70_0
      try clear hcz70_1
      try clear hcz77_0
      try clear hcz77_1
      try clear hfz16_0
      try clear hfz16_1
      try clear hfz18_0
      try clear hfz18_1
      try clear hfz20_0
      try clear hfz20_1
      try clear hfz21_0
      try clear hfz24_0
      try clear hfz24_1
      try clear hfz26_0
      try clear hfz26_1
      try clear hfz28_0
      try clear hfz28_1
      try clear hfz29_0
      try clear hfz32_0
      try clear hfz32_1
      try clear hfz34_0
      try clear hfz34_1
      try clear hfz37_0
      try clear hfz37_1
      try clear hfz47_0
      try clear hfz47_1
      try clear hfz53_0
      try clear hfz61_0
      try clear hfz61_1
      try clear hfz67_0
      try clear hfz70_0
      try clear hfz70_1
      try clear hfz77_0
      try clear hfz77_1
      try clear hx276_0
      try clear hx277_0
      try clear hx285_0
      try clear hx286_0
      try clear hx59_0
      try clear p2
      try clear p276
      try clear p277
      try clear p285
      try clear p286
      try clear p59
      try clear q276
      try clear q277
      try clear q285
      try clear q286
      try clear q59
      obtain ⟨x10_3, x84_3, x268000_3, rfl, HA, HK3, HO_10, HO_82, HO_276000, BK266, BK267, BK275, HB⟩ := hrel
      have hl10_3 := (Kd.R_reads' HO_10.out).1
      rw [hl10_3] at HO_10
      (try simp only [hl10_3])
      (try simp only [hl10_3] at BK266)
      (try simp only [hl10_3] at BK267)
      (try simp only [hl10_3] at BK275)
      (try simp only [hl10_3] at HO_82)
      (try simp only [hl10_3] at HO_276000)
      have hl82_3 := (Kd.R_reads' HO_82.out).1
      rw [hl82_3] at HO_82
      (try simp only [hl82_3])
      (try simp only [hl82_3] at BK266)
      (try simp only [hl82_3] at BK267)
      (try simp only [hl82_3] at BK275)
      (try simp only [hl82_3] at HO_10)
      (try simp only [hl82_3] at HO_276000)
      cases gk with
      | zero => exact absurd HA.out (by simp [impl_Shares.l1])
      | succ k3 =>
       have H := HA.out
       clear HA
       simp only [impl_Shares.l1] at H
       by_cases c93 : x84_3 < (x11_2.length : Int)
       rotate_left
       ·rw [if_neg c93] at H
        have c93b0 : decide (x84_3 < (x11_2.length : Int)) = false := decide_eq_false c93
        (try simp only [hl10_2] at c93b0)
        (try simp only [hl10_3] at c93b0)
        (try simp only [hl82_3] at c93b0)
        clear c93
        obtain rfl := Option.some.inj H
        go_wp2
        go_ret
        exact ⟨_, by first | rfl | (simp [errW_none, errW_some] <;> rfl) | (simp [*, errW_none, errW_some] <;> rfl), by (with_reducible repeat (first | apply Kd.R_alloc | apply Kd.R_drewN | apply Kd.R_drew)); exact Kd.R_mono HO_10.out (fun _ hk => trivial), bw_⟩
       rw [if_pos c93] at H
       have c93b0 : decide (x84_3 < (x11_2.length : Int)) = true := decide_eq_true c93
       clear c93
       obtain ⟨c94b0, H⟩ := iq_ H
       obtain ⟨c95b0, H⟩ := iq_ H
       replace H := Option.bind_eq_some_iff.mp H
       obtain ⟨t292, A960, H⟩ := H
       have A96 := Aside0.mk A960
       clear A960
       have H' := Aside0.mk H
       clear H
       have p291 : 0 ≤ (x84_3 : Int) := oa_
       have q291 : x84_3 < (t290.length : Int) := oa_
       obtain ⟨ad291, e291, hx291_0⟩ := Kd.at_int (Kd.R_reads' HO_82.out).2.2 x84_3 p291 q291
       cases e291
       replace p291 := eq_true p291
       replace q291 := eq_true q291
       have hnb97 := NB266_267.out
       have hnc97 := NB267_266.out
       have hnb98 := NB266_275.out
       have hnc98 := NB275_266.out
       have hcz99_0 := cz_ BK266 0 (.int .i64 a0_0)
       have hcz99_1 := cz_ BK266 1 (.slice A0_1 l0_1.length c0_1)
       have hfz99_0 := fz_ BK266 0
       have hfz99_1 := fz_ BK266 1
       have hnb100 := NB267_275.out
       have hnc100 := NB275_267.out
       have hcz101_0 := cz_ BK267 0 (.int .i64 x268000_3)
       have hfz101_0 := fz_ BK267 0
       have hcz102_0 := cz_ BK275 0 (.slice (some ad276) t272.length co64)
       have hfz102_0 := fz_ BK275 0
       go_wp2_with ((with_reducible refine gate_callee (f := 58) rfl ?_); refine gl_ (some 92) Try.func58 #[.agg #[.int .i64 a0_0, .slice A0_1 l0_1.length c0_1], .int .i64 (rd t290 x84_3), .int .i64 x268000_3, .slice (some ad276) t272.length co64] ?_; (with_reducible refine (impl_Graph_hopsTo.calls k3 a0_0 _ _ l0_1 (rd t290 x84_3) x268000_3 _ _ t272 t292 _ ?side1 ?side2 ?side3 ?side4 A96.out).mono ?_); (case side1 => exact cb_ HR0_1 HB); (case side2 => exact HC0_1.out); (case side3 => repeat (first | exact (Kd.S_reads' HO_276000.out).2.2 | (with_reducible refine Kd.C_alloc ?_ _) | (with_reducible refine Kd.C_drewN ?_ _) | (with_reducible refine Kd.C_drew ?_))); (case side4 => exact (Kd.S_reads' HO_276000.out).2.1); rintro e w103 ⟨v293, rfl, ho0, hb⟩; refine ⟨_, rfl, ?_⟩; have HO294 := Aside0.mk (Kd.R_lower (Kd.R_newB (Kd.R_new' (Kd.R_new' ho0 (Kd.R_lt (hd_ HO_10))) (Kd.R_lt (hd_ HO_82))) (g := gb267) (o := .cells #[.int .i64 x268000_3] 3 (0, 0)) (bx_ BK267)) (bz_ HB)); replace HO_276000 := Aside0.mk (Kd.S_elder' (hS_ HO_276000) (Kd.R_base ho0) hb); replace HO_10 := Aside0.mk (Kd.R_elder' (hd_ HO_10) (Kd.R_base ho0) hb); replace HO_82 := Aside0.mk (Kd.R_elder' (hd_ HO_82) (Kd.R_base ho0) hb); replace BK266 := ab_ BK266 hb; replace BK267 := ab_ BK267 hb; replace BK275 := ab_ BK275 hb; replace HB := at_ HB hb; (try clear hb); (try clear hb2); (try clear hk); (try clear hi); (try clear ho0); obtain ⟨Ao104, co104, eo104⟩ := Kd.R_slice HO294.out; subst eo104)
       (try simp only [Act.put, List.setIfInBounds_toArray, List.set_cons_zero, List.set_cons_succ])
       go_loopg [95] k3 (fun kq v95 w' => ∃ (x10_4 : List Int) (x95_4 : Int) (x268000_4 : Int), v95 = .int .i64 x95_4 ∧ Aside0 (impl_Shares.l2 kq x10_4 (rd t290 x84_3) t292 t290 (x11_2.length : Int) x84_3 t292 (t292.length : Int) x95_4 a0_0 l0_1 x268000_4 t272 = some r) ∧ Aside0 (kq ≤ k3) ∧ Aside0 (Kd.R (Kd.int .i64) 3 w' w.heap.size (fun k_ => some k_ ≠ ((.slice Ao104 t292.length co104) : Value).ownBlock ∧ some k_ ≠ ((.slice (some ad291) t290.length co91) : Value).ownBlock ∧ some k_ ≠ ((.slice Ao104 t292.length co104) : Value).ownBlock ∧ k_ ≠ gb267) (.slice (some ⟨go59, 0, none⟩) x10_3.length co59) x10_4) ∧ Aside0 (Kd.R (Kd.int .i64) 3 w' w.heap.size (fun k_ => some k_ ≠ ((.slice (some ⟨go59, 0, none⟩) x10_3.length co59) : Value).ownBlock ∧ some k_ ≠ ((.slice (some ad291) t290.length co91) : Value).ownBlock ∧ k_ ≠ gb267) (.slice Ao104 t292.length co104) t292) ∧ Aside0 (Kd.R (Kd.int .i64) 3 w' w.heap.size (fun k_ => some k_ ≠ ((.slice (some ⟨go59, 0, none⟩) x10_3.length co59) : Value).ownBlock ∧ some k_ ≠ ((.slice Ao104 t292.length co104) : Value).ownBlock ∧ some k_ ≠ ((.slice Ao104 t292.length co104) : Value).ownBlock ∧ k_ ≠ gb267) (.slice (some ad291) t290.length co91) t290) ∧ Aside0 (Kd.R (Kd.int .i64) 3 w' w.heap.size (fun k_ => some k_ ≠ ((.slice (some ⟨go59, 0, none⟩) x10_3.length co59) : Value).ownBlock ∧ some k_ ≠ ((.slice (some ad291) t290.length co91) : Value).ownBlock ∧ k_ ≠ gb267) (.slice Ao104 t292.length co104) t292) ∧ Aside0 (Kd.S (Kd.slice 3 (Kd.int .i64)) 26 w' w.heap.size (fun k_ => some k_ ≠ ((.slice (some ⟨go59, 0, none⟩) x10_3.length co59) : Value).ownBlock ∧ some k_ ≠ ((.slice Ao104 t292.length co104) : Value).ownBlock ∧ some k_ ≠ ((.slice (some ad291) t290.length co91) : Value).ownBlock ∧ some k_ ≠ ((.slice Ao104 t292.length co104) : Value).ownBlock ∧ k_ ≠ gb267) (.slice (some ad276) t272.length co64) t272) ∧ Aside0 (w'.heap[gb266]? = some (.cells #[.int .i64 a0_0, (.slice A0_1 l0_1.length c0_1)] 30 (0, 0))) ∧ Aside0 (w'.heap[gb267]? = some (.cells #[.int .i64 x268000_4] 3 (0, 0))) ∧ Aside0 (w'.heap[gb275]? = some (.cells #[(.slice (some ad276) t272.length co64)] 45 (0, 0))) ∧ Aside0 (Below w.heap.size w w'))
       case atStart => exact ⟨(x10_3), (0), (x268000_3), er_, H', ⟨Nat.le_refl _⟩, ⟨by (try simp only [hl10_2]); (try simp only [hl10_3]); (try simp only [hl82_3]); (with_reducible repeat (first | apply Kd.R_alloc | apply Kd.R_drewN | apply Kd.R_drew)); exact Kd.R_mono HO_10.out (fun _ hk => ⟨hk.2, ⟨hk.1.1, ⟨hk.2, hk.1.2⟩⟩⟩)⟩, ⟨by (try simp only [hl10_2]); (try simp only [hl10_3]); (try simp only [hl82_3]); (with_reducible repeat (first | apply Kd.R_alloc | apply Kd.R_drewN | apply Kd.R_drew)); exact Kd.R_mono HO294.out (fun _ hk => ⟨hk.1.1.2, ⟨hk.1.2, hk.2⟩⟩)⟩, ⟨by (try simp only [hl10_2]); (try simp only [hl10_3]); (try simp only [hl82_3]); (with_reducible repeat (first | apply Kd.R_alloc | apply Kd.R_drewN | apply Kd.R_drew)); exact Kd.R_mono HO_82.out (fun _ hk => ⟨hk.1.1, ⟨hk.2, ⟨hk.2, hk.1.2⟩⟩⟩)⟩, ⟨by (try simp only [hl10_2]); (try simp only [hl10_3]); (try simp only [hl82_3]); (with_reducible repeat (first | apply Kd.R_alloc | apply Kd.R_drewN | apply Kd.R_drew)); exact Kd.R_mono HO294.out (fun _ hk => ⟨hk.1.1.2, ⟨hk.1.2, hk.2⟩⟩)⟩, ⟨by (try simp only [hl10_2]); (try simp only [hl10_3]); (try simp only [hl82_3]); (with_reducible repeat (first | apply Kd.S_alloc | apply Kd.S_drewN | apply Kd.S_drew)); exact Kd.S_mono HO_276000.out (fun _ hk => ⟨hk.1.1, ⟨hk.2, ⟨hk.1.2.1, ⟨hk.2, hk.1.2.2⟩⟩⟩⟩)⟩, ⟨by (try simp only [hl10_2]); (try simp only [hl10_3]); (try simp only [hl82_3]); refine bd_ ?_; exact BK266.out⟩, ⟨by (try simp only [hl10_2]); (try simp only [hl10_3]); (try simp only [hl82_3]); refine bd_ ?_; exact BK267.out⟩, ⟨by (try simp only [hl10_2]); (try simp only [hl10_3]); (try simp only [hl82_3]); refine bd_ ?_; exact BK275.out⟩, ⟨bw_⟩⟩
       case round =>
        clear H'
        try clear c1
        try clear c2
        try clear p2
        try clear q2
        try clear hx2
        try clear c5
        try clear p5
        try clear q5
        try clear hx5
        try clear hf5
        try clear c6
        try clear p6
        try clear c7
        try clear c8
        try clear c9
        try clear c10
        try clear p27
        try clear q27
        try clear hx27
        try clear c28
        try clear p28
        try clear q28
        try clear hx28
        try clear p29
        try clear q29
        try clear hx29
        try clear c51
        try clear c52
        try clear c55
        try clear c56
        try clear c56b0
        try clear c56b1
        try clear c57
        try clear c57b0
        try clear c57b1
        try clear c58
        try clear c58b0
        try clear p59
        try clear q59
        try clear hx59
        try clear hf59
        try clear c60
        try clear p64
        try clear c65
        try clear c66
        try clear c78
        try clear c78b0
        try clear c79
        try clear c79b0
        try clear c79b1
        try clear c81
        try clear c81b0
        try clear c82
        try clear c82b0
        try clear c83
        try clear c83b0
        try clear c84
        try clear c84b0
        try clear c85
        try clear c85b0
        try clear c86
        try clear c93
        try clear c93b0
        try clear c94
        try clear c94b0
        try clear c95
        try clear c95b0
        try clear c97
        try clear c98
        try clear c100
        try clear hcz101_0
        try clear hcz102_0
        try clear hcz16_0
        try clear hcz16_1
        try clear hcz18_0
        try clear hcz18_1
        try clear hcz20_0
        try clear hcz20_1
        try clear hcz21_0
        try clear hcz24_0
        try clear hcz24_1
        try clear hcz26_0
        try clear hcz26_1
        try clear hcz28_0
        try clear hcz28_1
        try clear hcz29_0
        try clear hcz32_0
        try clear hcz32_1
        try clear hcz34_0
        try clear hcz34_1
        try clear hcz37_0
        try clear hcz37_1
        try clear hcz47_0
        try clear hcz47_1
        try clear hcz53_0
        try clear hcz61_0
        try clear hcz61_1
        try clear hcz67_0
        try clear hcz70_0
        try clear hcz70_1
        try clear hcz77_0
        try clear hcz77_1
        try clear hcz99_0
        try clear hcz99_1
        try clear hfz101_0
        try clear hfz102_0
        try clear hfz16_0
        try clear hfz16_1
        try clear hfz18_0
        try clear hfz18_1
        try clear hfz20_0
        try clear hfz20_1
        try clear hfz21_0
        try clear hfz24_0
        try clear hfz24_1
        try clear hfz26_0
        try clear hfz26_1
        try clear hfz28_0
        try clear hfz28_1
        try clear hfz29_0
        try clear hfz32_0
        try clear hfz32_1
        try clear hfz34_0
        try clear hfz34_1
        try clear hfz37_0
        try clear hfz37_1
        try clear hfz47_0
        try clear hfz47_1
        try clear hfz53_0
        try clear hfz61_0
        try clear hfz61_1
        try clear hfz67_0
        try clear hfz70_0
        try clear hfz70_1
        try clear hfz77_0
        try clear hfz77_1
        try clear hfz99_0
        try clear hfz99_1
        try clear hx276_0
        try clear hx277_0
        try clear hx285_0
        try clear hx286_0
        try clear hx291_0
        try clear hx59_0
        try clear p2
        try clear p27
        try clear p276
        try clear p277
        try clear p28
        try clear p285
        try clear p286
        try clear p291
        try clear p5
        try clear p59
        try clear p6
        try clear p64
        try clear q2
        try clear q27
        try clear q276
        try clear q277
        try clear q28
        try clear q285
        try clear q286
        try clear q291
        try clear q5
        try clear q59
        obtain ⟨x10_4, x95_4, x268000_4, rfl, HA, HK4, HO_10, HO_15, HO_82, HO_93, HO_276000, BK266, BK267, BK275, HB⟩ := hrel
        have hl10_4 := (Kd.R_reads' HO_10.out).1
        rw [hl10_4] at HO_10
        (try simp only [hl10_4])
        (try simp only [hl10_4] at BK266)
        (try simp only [hl10_4] at BK267)
        (try simp only [hl10_4] at BK275)
        (try simp only [hl10_4] at HO_15)
        (try simp only [hl10_4] at HO_82)
        (try simp only [hl10_4] at HO_93)
        (try simp only [hl10_4] at HO_276000)
        cases gk with
        | zero => exact absurd HA.out (by simp [impl_Shares.l2])
        | succ k4 =>
         have H := HA.out
         clear HA
         simp only [impl_Shares.l2] at H
         by_cases c105 : x95_4 < (t292.length : Int)
         rotate_left
         ·rw [if_neg c105] at H
          have c105b0 : decide (x95_4 < (t292.length : Int)) = false := decide_eq_false c105
          (try simp only [hl10_2] at c105b0)
          (try simp only [hl10_3] at c105b0)
          (try simp only [hl82_3] at c105b0)
          (try simp only [hl10_4] at c105b0)
          clear c105
          have H' := Aside0.mk H
          clear H
          go_wp2
          (try simp only [← hl10_3, ← hl82_3, ← hl10_4])
          go_roundg k4
          case measure => have := HJ4.out; have := HK2.out; have := HK3.out; have := HK4.out; omega
          case rel => exact ⟨(x10_4), (wrap64 (x84_3 + 1)), (x268000_4), er_, H', ⟨by have := HJ4.out; have := HK2.out; have := HK3.out; have := HK4.out; omega⟩, ⟨by (try simp only [hl10_2]); (try simp only [hl10_3]); (try simp only [hl82_3]); (try simp only [hl10_4]); (with_reducible repeat (first | apply Kd.R_alloc | apply Kd.R_drewN | apply Kd.R_drew)); exact Kd.R_mono HO_10.out (fun _ hk => by first | exact ⟨hk.2.1, hk.2.2.2⟩ | grind)⟩, ⟨by (try simp only [hl10_2]); (try simp only [hl10_3]); (try simp only [hl82_3]); (try simp only [hl10_4]); (with_reducible repeat (first | apply Kd.R_alloc | apply Kd.R_drewN | apply Kd.R_drew)); exact Kd.R_mono HO_82.out (fun _ hk => by first | exact ⟨hk.1, hk.2.2.2⟩ | grind)⟩, ⟨by (try simp only [hl10_2]); (try simp only [hl10_3]); (try simp only [hl82_3]); (try simp only [hl10_4]); (with_reducible repeat (first | apply Kd.S_alloc | apply Kd.S_drewN | apply Kd.S_drew)); exact Kd.S_mono HO_276000.out (fun _ hk => ⟨hk.1, ⟨hk.2.2.1, hk.2.2.2.2⟩⟩)⟩, ⟨by (try simp only [hl10_2]); (try simp only [hl10_3]); (try simp only [hl82_3]); (try simp only [hl10_4]); refine bd_ ?_; exact BK266.out⟩, ⟨by (try simp only [hl10_2]); (try simp only [hl10_3]); (try simp only [hl82_3]); (try simp only [hl10_4]); refine bd_ ?_; exact BK267.out⟩, ⟨by (try simp only [hl10_2]); (try simp only [hl10_3]); (try simp only [hl82_3]); (try simp only [hl10_4]); refine bd_ ?_; exact BK275.out⟩, ⟨bw_⟩⟩
         rw [if_pos c105] at H
         have c105b0 : decide (x95_4 < (t292.length : Int)) = true := decide_eq_true c105
         clear c105
         obtain ⟨c106b0, H⟩ := iq_ H
         obtain ⟨c107b0, H⟩ := iq_ H
         obtain ⟨c108b0, H⟩ := iq_ H
         obtain ⟨c109b0, H⟩ := iq_ H
         obtain ⟨c110b0, H⟩ := iq_ H
         obtain ⟨c111b0, H⟩ := iq_ H
         by_cases c112 : (t292.length : Int) = 0
         ·rw [if_pos c112] at H
          exact absurd H (by simp)
         rw [if_neg c112] at H
         have c112b0 : ((t292.length : Int) == 0) = false := beq_eq_false_iff_ne.mpr c112
         have c112b1 : ((t292.length : Int) != 0) = true := bne_iff_ne.mpr c112
         have c112b2 : ¬ (t292 = []) := fun h_ => c112 (by rw [h_]; rfl)
         obtain ⟨y298, hy298⟩ : ∃ y_ : List Int, y_ = (x10_4.set ((rd t292 x95_4) : Int).toNat (wrap64 ((rd x10_4 (rd t292 x95_4)) + (wrap64 (Int.tdiv (rd x10_4 (rd t290 x84_3)) (t292.length : Int)))))) := ⟨_, rfl⟩
         replace H : (if x95_4 < (Int.tmod (rd y298 (rd t290 x84_3)) (t292.length : Int)) then (impl_Shares.l2 k4 (y298.set ((rd t292 x95_4) : Int).toNat (wrap64 ((wrap64 ((rd x10_4 (rd t292 x95_4)) + (wrap64 (Int.tdiv (rd x10_4 (rd t290 x84_3)) (t292.length : Int))))) + 1))) (rd t290 x84_3) t292 t290 (x11_2.length : Int) x84_3 t292 (t292.length : Int) (wrap64 (x95_4 + 1)) a0_0 l0_1 x268000_4 t272) else (impl_Shares.l2 k4 y298 (rd t290 x84_3) t292 t290 (x11_2.length : Int) x84_3 t292 (t292.length : Int) (wrap64 (x95_4 + 1)) a0_0 l0_1 x268000_4 t272)) = some r := by first | (rw [hy298]; with_reducible exact H) | (have H2_ := (Option.bind_some _ _).symm.trans H; rw [hy298]; with_reducible exact H2_) | (have H2_ := (Option.bind_some _ _).symm.trans H; with_reducible exact H2_) | with_reducible exact H | (rw [hy298]; exact H) | exact H
         have Ny298 := Aside0.mk hy298
         clear hy298
         by_cases c114 : x95_4 < (Int.tmod (rd y298 (rd t290 x84_3)) (t292.length : Int))
         rotate_left
         ·rw [if_neg c114] at H
          have c114b0 : decide (x95_4 < (Int.tmod (rd y298 (rd t290 x84_3)) (t292.length : Int))) = false := decide_eq_false c114
          clear c114
          have H' := Aside0.mk H
          clear H
          have p295 : 0 ≤ (x95_4 : Int) := oa_
          have q295 : x95_4 < (t292.length : Int) := oa_
          obtain ⟨ad295, e295, hx295_0⟩ := Kd.at_int (Kd.R_reads' HO_93.out).2.2 x95_4 p295 q295
          cases e295
          replace p295 := eq_true p295
          replace q295 := eq_true q295
          try go_wp2
          replace HO_10 := Aside0.mk (Kd.R_drew HO_10.out)
          replace HO_15 := Aside0.mk (Kd.R_drew HO_15.out)
          replace HO_82 := Aside0.mk (Kd.R_drew HO_82.out)
          replace HO_93 := Aside0.mk (Kd.R_drew HO_93.out)
          replace HO_276000 := Aside0.mk (Kd.S_drew HO_276000.out)
          replace BK266 := ad_ BK266
          replace BK267 := ad_ BK267
          replace BK275 := ad_ BK275
          replace HB := Aside0.mk (below_drew1 HB.out)
          have p296 : 0 ≤ ((rd t292 x95_4) : Int) := oa_
          have q296 : (rd t292 x95_4) < (x10_4.length : Int) := oa_
          obtain ⟨ad296, e296, hx296_0⟩ := Kd.at_int (Kd.R_reads' HO_10.out).2.2 (rd t292 x95_4) p296 q296
          obtain rfl : (⟨go59, 0, none⟩ : Addr) = ad296 := (by injection e296)
          (first | simp only [add_plain] at hx296_0 | simp only [add_at] at hx296_0 | simp only [Addr.add, Nat.zero_add] at hx296_0 | skip)
          replace p296 := eq_true p296
          replace q296 := eq_true q296
          have p297 : 0 ≤ ((rd t290 x84_3) : Int) := oa_
          have q297 : (rd t290 x84_3) < (x10_4.length : Int) := oa_
          obtain ⟨ad297, e297, hx297_0⟩ := Kd.at_int (Kd.R_reads' HO_10.out).2.2 (rd t290 x84_3) p297 q297
          obtain rfl : (⟨go59, 0, none⟩ : Addr) = ad297 := (by injection e297)
          (first | simp only [add_plain] at hx297_0 | simp only [add_at] at hx297_0 | simp only [Addr.add, Nat.zero_add] at hx297_0 | skip)
          replace p297 := eq_true p297
          replace q297 := eq_true q297
          have p113 : 0 ≤ ((rd t292 x95_4) : Int) := oa_
          have q113 : ((rd t292 x95_4) : Int) < ((x10_4.length : Int) : Int) := oa_
          obtain ⟨hx113_0, hf113_0⟩ := Kd.R_celln 0 HO_10.out ((rd t292 x95_4) : Int) p113 q113
          replace p113 := eq_true p113
          replace q113 := eq_true q113
          have HP123 := Kd.R_putn HO_10.out ((rd t292 x95_4) : Int) (wrap64 ((rd x10_4 (rd t292 x95_4)) + (wrap64 (Int.tdiv (rd x10_4 (rd t290 x84_3)) (t292.length : Int)))))
          rw [← Ny298.out] at HP123
          have HQ123 := Aside0.mk HP123
          clear HP123
          refine start_ (n := 14) (S := fun w' => w'.cell? ⟨go59, ((rd t292 x95_4)).toNat, none⟩ = some (.int .i64 (rd x10_4 (rd t292 x95_4))) ∧ w'.cell? ⟨go59, ((rd t290 x84_3)).toNat, none⟩ = some (.int .i64 (rd x10_4 (rd t290 x84_3)))) (ds := [13]) ba11_24 (by kernel_rfl) rfl rfl ⟨hx296_0, hx297_0⟩ (fun hHeld => ?_); refine with_tabW impl_Shares.tab23 impl_Shares.bits23 (fun HT_ HW_ => ?_)
          generalize wr.drew = w122 at HO_10 HO_15 HO_82 HO_93 HO_276000 BK266 BK267 BK275 HB HQ123 hf113_0 hx113_0 hx296_0 hx297_0 hHeld ⊢
          refine pz_ 0 100 ba11_25 HT_ ?_
          refine pz_ 1 101 ba11_26 HT_ ?_
          refine pz_ 2 102 ba11_27 HT_ ?_
          refine pz_ 4 104 ba11_28 HT_ ?_
          refine pz_ 5 105 ba11_29 HT_ ?_
          refine pz_ 6 106 ba11_30 HT_ ?_
          refine pz_ 8 108 ba11_31 HT_ ?_
          refine pz_ 9 109 ba11_32 HT_ ?_
          refine pt_ 3 103 ba11_33 HT_ HW_ hHeld ?_
          refine pt_ 7 107 ba11_34 HT_ HW_ hHeld ?_
          refine pz_ 10 110 ba11_35 HT_ ?_
          refine pz_ 11 111 ba11_36 HT_ ?_
          refine pz_ 12 112 ba11_37 HT_ ?_
          refine last_ (i := 13) (N := none) ba11_38 rfl rfl (one_of HT_.out (by kernel_rfl)) (by decide) (fun K hK => ?_)
          refine skip_ (w1 := ?_) (by rfl) rfl ?_ ?_
          rotate_left; · go_simp; rfl
          refine hK.out _ _ ?_
          clear hK K
          refine done_ (done_of HT_.out (by kernel_rfl)) ?_
          have p299 : 0 ≤ ((rd t290 x84_3) : Int) := oa_
          have q299 : (rd t290 x84_3) < (y298.length : Int) := (by have h_ : ((rd t290 x84_3) : Int) < ((x10_4.length : Int) : Int) := oa_; first | (have e_ := (Kd.R_reads' HO_10.out).1; omega) | simpa only [Ny298.out, List.length_set] using h_)
          have ql299 : (((rd t290 x84_3) : Int) < ((x10_4.length : Int) : Int)) = True := eq_true oa_
          obtain ⟨ad299, e299, hx299_0⟩ := Kd.at_int (Kd.R_reads' HQ123.out).2.2 (rd t290 x84_3) p299 q299
          obtain rfl : (⟨go59, 0, none⟩ : Addr) = ad299 := (by injection e299)
          (first | simp only [add_plain] at hx299_0 | simp only [add_at] at hx299_0 | simp only [Addr.add, Nat.zero_add] at hx299_0 | skip)
          replace p299 := eq_true p299
          replace q299 := eq_true q299
          try go_wp2
          (try simp only [← hl10_4])
          go_roundg k4
          case measure => have := HJ4.out; have := HK2.out; have := HK3.out; have := HK4.out; omega
          case rel => exact ⟨(y298), (wrap64 (x95_4 + 1)), (x268000_4), er_, H', ⟨by have := HJ4.out; have := HK2.out; have := HK3.out; have := HK4.out; omega⟩, ⟨by (try simp only [hl10_2]); (try simp only [hl10_3]); (try simp only [hl82_3]); (try simp only [hl10_4]); (with_reducible repeat (first | apply Kd.R_alloc | apply Kd.R_drewN | apply Kd.R_drew)); exact HQ123.out⟩, ⟨by (try simp only [hl10_2]); (try simp only [hl10_3]); (try simp only [hl82_3]); (try simp only [hl10_4]); (with_reducible repeat (first | apply Kd.R_alloc | apply Kd.R_drewN | apply Kd.R_drew)); exact Kd.R_mono (Kd.R_far (p := ⟨go59, ((rd t292 x95_4) : Int).toNat, none⟩) (Kd.R_mono HO_15.out (fun k_ hk => (⟨hk, fun e_ => hk.1 (by rw [e_]; rfl)⟩ : _ ∧ k_ ≠ go59))) (fun _ hk => hk.2) (.int .i64 (wrap64 ((rd x10_4 (rd t292 x95_4)) + (wrap64 (Int.tdiv (rd x10_4 (rd t290 x84_3)) (t292.length : Int))))))) (fun _ hk => ⟨hk.1.1, ⟨hk.1.2.1, hk.1.2.2⟩⟩)⟩, ⟨by (try simp only [hl10_2]); (try simp only [hl10_3]); (try simp only [hl82_3]); (try simp only [hl10_4]); (with_reducible repeat (first | apply Kd.R_alloc | apply Kd.R_drewN | apply Kd.R_drew)); exact Kd.R_mono (Kd.R_far (p := ⟨go59, ((rd t292 x95_4) : Int).toNat, none⟩) (Kd.R_mono HO_82.out (fun k_ hk => (⟨hk, fun e_ => hk.1 (by rw [e_]; rfl)⟩ : _ ∧ k_ ≠ go59))) (fun _ hk => hk.2) (.int .i64 (wrap64 ((rd x10_4 (rd t292 x95_4)) + (wrap64 (Int.tdiv (rd x10_4 (rd t290 x84_3)) (t292.length : Int))))))) (fun _ hk => ⟨hk.1.1, ⟨hk.1.2.1, ⟨hk.1.2.2.1, hk.1.2.2.2⟩⟩⟩)⟩, ⟨by (try simp only [hl10_2]); (try simp only [hl10_3]); (try simp only [hl82_3]); (try simp only [hl10_4]); (with_reducible repeat (first | apply Kd.R_alloc | apply Kd.R_drewN | apply Kd.R_drew)); exact Kd.R_mono (Kd.R_far (p := ⟨go59, ((rd t292 x95_4) : Int).toNat, none⟩) (Kd.R_mono HO_93.out (fun k_ hk => (⟨hk, fun e_ => hk.1 (by rw [e_]; rfl)⟩ : _ ∧ k_ ≠ go59))) (fun _ hk => hk.2) (.int .i64 (wrap64 ((rd x10_4 (rd t292 x95_4)) + (wrap64 (Int.tdiv (rd x10_4 (rd t290 x84_3)) (t292.length : Int))))))) (fun _ hk => ⟨hk.1.1, ⟨hk.1.2.1, hk.1.2.2⟩⟩)⟩, ⟨by (try simp only [hl10_2]); (try simp only [hl10_3]); (try simp only [hl82_3]); (try simp only [hl10_4]); (with_reducible repeat (first | apply Kd.S_alloc | apply Kd.S_drewN | apply Kd.S_drew)); exact Kd.S_mono (Kd.S_far (p := ⟨go59, ((rd t292 x95_4) : Int).toNat, none⟩) (Kd.S_mono HO_276000.out (fun k_ hk => (⟨hk, fun e_ => hk.1 (by rw [e_]; rfl)⟩ : _ ∧ k_ ≠ go59))) (fun _ hk => hk.2) (.int .i64 (wrap64 ((rd x10_4 (rd t292 x95_4)) + (wrap64 (Int.tdiv (rd x10_4 (rd t290 x84_3)) (t292.length : Int))))))) (fun _ hk => ⟨hk.1.1, ⟨hk.1.2.1, ⟨hk.1.2.2.1, ⟨hk.1.2.2.2.1, hk.1.2.2.2.2⟩⟩⟩⟩)⟩, ⟨by (try simp only [hl10_2]); (try simp only [hl10_3]); (try simp only [hl82_3]); (try simp only [hl10_4]); refine bd_ ?_; refine blk_far ?_ (by have h_ := Kd.R_ne HO_10.out BK266.out (by decide); intro e_; exact h_ (by rw [e_]; rfl)) _; refine bd_ ?_; exact BK266.out⟩, ⟨by (try simp only [hl10_2]); (try simp only [hl10_3]); (try simp only [hl82_3]); (try simp only [hl10_4]); refine bd_ ?_; refine blk_far ?_ (by have h_ := Kd.R_away HO_10.out (fun _ hk => hk.2.2.2); intro e_; exact h_ (by rw [e_]; rfl)) _; refine bd_ ?_; exact BK267.out⟩, ⟨by (try simp only [hl10_2]); (try simp only [hl10_3]); (try simp only [hl82_3]); (try simp only [hl10_4]); refine bd_ ?_; refine blk_far ?_ (by have h_ := Kd.R_ne HO_10.out BK275.out (by decide); intro e_; exact h_ (by rw [e_]; rfl)) _; refine bd_ ?_; exact BK275.out⟩, ⟨by repeat (first | (with_reducible first | exact HB.out | apply below_alloc | apply pw_below_drewN | apply below_drew1 | refine below_set ?_ GB59.out | refine below_set ?_ GE266.out | refine below_set ?_ GE267.out | refine below_set ?_ GE275.out) | exact HB.out)⟩⟩
         rw [if_pos c114] at H
         have c114b0 : decide (x95_4 < (Int.tmod (rd y298 (rd t290 x84_3)) (t292.length : Int))) = true := decide_eq_true c114
         clear c114
         obtain ⟨y301, hy301⟩ : ∃ y_ : List Int, y_ = (y298.set ((rd t292 x95_4) : Int).toNat (wrap64 ((wrap64 ((rd x10_4 (rd t292 x95_4)) + (wrap64 (Int.tdiv (rd x10_4 (rd t290 x84_3)) (t292.length : Int))))) + 1))) := ⟨_, rfl⟩
         replace H : (impl_Shares.l2 k4 y301 (rd t290 x84_3) t292 t290 (x11_2.length : Int) x84_3 t292 (t292.length : Int) (wrap64 (x95_4 + 1)) a0_0 l0_1 x268000_4 t272) = some r := by first | (rw [hy301]; with_reducible exact H) | (have H2_ := (Option.bind_some _ _).symm.trans H; rw [hy301]; with_reducible exact H2_) | (have H2_ := (Option.bind_some _ _).symm.trans H; with_reducible exact H2_) | with_reducible exact H | (rw [hy301]; exact H) | exact H
         have Ny301 := Aside0.mk hy301
         clear hy301
         have H' := Aside0.mk H
         clear H
         have p295 : 0 ≤ (x95_4 : Int) := oa_
         have q295 : x95_4 < (t292.length : Int) := oa_
         obtain ⟨ad295, e295, hx295_0⟩ := Kd.at_int (Kd.R_reads' HO_93.out).2.2 x95_4 p295 q295
         cases e295
         replace p295 := eq_true p295
         replace q295 := eq_true q295
         try go_wp2
         replace HO_10 := Aside0.mk (Kd.R_drew HO_10.out)
         replace HO_15 := Aside0.mk (Kd.R_drew HO_15.out)
         replace HO_82 := Aside0.mk (Kd.R_drew HO_82.out)
         replace HO_93 := Aside0.mk (Kd.R_drew HO_93.out)
         replace HO_276000 := Aside0.mk (Kd.S_drew HO_276000.out)
         replace BK266 := ad_ BK266
         replace BK267 := ad_ BK267
         replace BK275 := ad_ BK275
         replace HB := Aside0.mk (below_drew1 HB.out)
         have p296 : 0 ≤ ((rd t292 x95_4) : Int) := oa_
         have q296 : (rd t292 x95_4) < (x10_4.length : Int) := oa_
         obtain ⟨ad296, e296, hx296_0⟩ := Kd.at_int (Kd.R_reads' HO_10.out).2.2 (rd t292 x95_4) p296 q296
         obtain rfl : (⟨go59, 0, none⟩ : Addr) = ad296 := (by injection e296)
         (first | simp only [add_plain] at hx296_0 | simp only [add_at] at hx296_0 | simp only [Addr.add, Nat.zero_add] at hx296_0 | skip)
         replace p296 := eq_true p296
         replace q296 := eq_true q296
         have p297 : 0 ≤ ((rd t290 x84_3) : Int) := oa_
         have q297 : (rd t290 x84_3) < (x10_4.length : Int) := oa_
         obtain ⟨ad297, e297, hx297_0⟩ := Kd.at_int (Kd.R_reads' HO_10.out).2.2 (rd t290 x84_3) p297 q297
         obtain rfl : (⟨go59, 0, none⟩ : Addr) = ad297 := (by injection e297)
         (first | simp only [add_plain] at hx297_0 | simp only [add_at] at hx297_0 | simp only [Addr.add, Nat.zero_add] at hx297_0 | skip)
         replace p297 := eq_true p297
         replace q297 := eq_true q297
         have p113 : 0 ≤ ((rd t292 x95_4) : Int) := oa_
         have q113 : ((rd t292 x95_4) : Int) < ((x10_4.length : Int) : Int) := oa_
         obtain ⟨hx113_0, hf113_0⟩ := Kd.R_celln 0 HO_10.out ((rd t292 x95_4) : Int) p113 q113
         replace p113 := eq_true p113
         replace q113 := eq_true q113
         have HP118 := Kd.R_putn HO_10.out ((rd t292 x95_4) : Int) (wrap64 ((rd x10_4 (rd t292 x95_4)) + (wrap64 (Int.tdiv (rd x10_4 (rd t290 x84_3)) (t292.length : Int)))))
         rw [← Ny298.out] at HP118
         have HQ118 := Aside0.mk HP118
         clear HP118
         refine start_ (n := 14) (S := fun w' => w'.cell? ⟨go59, ((rd t292 x95_4)).toNat, none⟩ = some (.int .i64 (rd x10_4 (rd t292 x95_4))) ∧ w'.cell? ⟨go59, ((rd t290 x84_3)).toNat, none⟩ = some (.int .i64 (rd x10_4 (rd t290 x84_3)))) (ds := [13]) ba11_24 (by kernel_rfl) rfl rfl ⟨hx296_0, hx297_0⟩ (fun hHeld => ?_); refine with_tabW impl_Shares.tab23 impl_Shares.bits23 (fun HT_ HW_ => ?_)
         generalize wr.drew = w117 at HO_10 HO_15 HO_82 HO_93 HO_276000 BK266 BK267 BK275 HB HQ118 hf113_0 hx113_0 hx296_0 hx297_0 hHeld ⊢
         refine pz_ 0 100 ba11_25 HT_ ?_
         refine pz_ 1 101 ba11_26 HT_ ?_
         refine pz_ 2 102 ba11_27 HT_ ?_
         refine pz_ 4 104 ba11_28 HT_ ?_
         refine pz_ 5 105 ba11_29 HT_ ?_
         refine pz_ 6 106 ba11_30 HT_ ?_
         refine pz_ 8 108 ba11_31 HT_ ?_
         refine pz_ 9 109 ba11_32 HT_ ?_
         refine pt_ 3 103 ba11_33 HT_ HW_ hHeld ?_
         refine pt_ 7 107 ba11_34 HT_ HW_ hHeld ?_
         refine pz_ 10 110 ba11_35 HT_ ?_
         refine pz_ 11 111 ba11_36 HT_ ?_
         refine pz_ 12 112 ba11_37 HT_ ?_
         refine last_ (i := 13) (N := none) ba11_38 rfl rfl (one_of HT_.out (by kernel_rfl)) (by decide) (fun K hK => ?_)
         refine skip_ (w1 := ?_) (by rfl) rfl ?_ ?_
         rotate_left; · go_simp; rfl
         refine hK.out _ _ ?_
         clear hK K
         refine done_ (done_of HT_.out (by kernel_rfl)) ?_
         have n0_ : Aside0 (Kd.R (Kd.int .i64) 3 (w117.setCell ⟨go59, ((rd t292 x95_4) : Int).toNat, none⟩ (.int .i64 (wrap64 ((rd x10_4 (rd t292 x95_4)) + (wrap64 (Int.tdiv (rd x10_4 (rd t290 x84_3)) (t292.length : Int))))))) w.heap.size (fun k_ => some k_ ≠ (.slice (some ad295) t292.length co104 : Value).ownBlock ∧ some k_ ≠ (.slice (some ad291) t290.length co91 : Value).ownBlock ∧ some k_ ≠ (.slice (some ad295) t292.length co104 : Value).ownBlock ∧ k_ ≠ gb267) (.slice (some ⟨go59, 0, none⟩) x10_4.length co59) y298) := ⟨by (with_reducible repeat (first | apply Kd.R_alloc | apply Kd.R_drewN | apply Kd.R_drew)); exact HQ118.out⟩
         have n1_ : Aside0 (Kd.R (Kd.int .i64) 3 (w117.setCell ⟨go59, ((rd t292 x95_4) : Int).toNat, none⟩ (.int .i64 (wrap64 ((rd x10_4 (rd t292 x95_4)) + (wrap64 (Int.tdiv (rd x10_4 (rd t290 x84_3)) (t292.length : Int))))))) w.heap.size (fun k_ => some k_ ≠ (.slice (some ⟨go59, 0, none⟩) x10_4.length co59 : Value).ownBlock ∧ some k_ ≠ (.slice (some ad291) t290.length co91 : Value).ownBlock ∧ k_ ≠ gb267) (.slice (some ad295) t292.length co104) t292) := ⟨by (with_reducible repeat (first | apply Kd.R_alloc | apply Kd.R_drewN | apply Kd.R_drew)); exact Kd.R_mono (Kd.R_far (p := ⟨go59, ((rd t292 x95_4) : Int).toNat, none⟩) (Kd.R_mono HO_15.out (fun k_ hk => (⟨hk, fun e_ => hk.1 (by rw [e_]; rfl)⟩ : _ ∧ k_ ≠ go59))) (fun _ hk => hk.2) (.int .i64 (wrap64 ((rd x10_4 (rd t292 x95_4)) + (wrap64 (Int.tdiv (rd x10_4 (rd t290 x84_3)) (t292.length : Int))))))) (fun _ hk => ⟨hk.1.1, ⟨hk.1.2.1, hk.1.2.2⟩⟩)⟩
         have n2_ : Aside0 (Kd.R (Kd.int .i64) 3 (w117.setCell ⟨go59, ((rd t292 x95_4) : Int).toNat, none⟩ (.int .i64 (wrap64 ((rd x10_4 (rd t292 x95_4)) + (wrap64 (Int.tdiv (rd x10_4 (rd t290 x84_3)) (t292.length : Int))))))) w.heap.size (fun k_ => some k_ ≠ (.slice (some ⟨go59, 0, none⟩) x10_4.length co59 : Value).ownBlock ∧ some k_ ≠ (.slice (some ad295) t292.length co104 : Value).ownBlock ∧ some k_ ≠ (.slice (some ad295) t292.length co104 : Value).ownBlock ∧ k_ ≠ gb267) (.slice (some ad291) t290.length co91) t290) := ⟨by (with_reducible repeat (first | apply Kd.R_alloc | apply Kd.R_drewN | apply Kd.R_drew)); exact Kd.R_mono (Kd.R_far (p := ⟨go59, ((rd t292 x95_4) : Int).toNat, none⟩) (Kd.R_mono HO_82.out (fun k_ hk => (⟨hk, fun e_ => hk.1 (by rw [e_]; rfl)⟩ : _ ∧ k_ ≠ go59))) (fun _ hk => hk.2) (.int .i64 (wrap64 ((rd x10_4 (rd t292 x95_4)) + (wrap64 (Int.tdiv (rd x10_4 (rd t290 x84_3)) (t292.length : Int))))))) (fun _ hk => ⟨hk.1.1, ⟨hk.1.2.1, ⟨hk.1.2.2.1, hk.1.2.2.2⟩⟩⟩)⟩
         have n3_ : Aside0 (Kd.R (Kd.int .i64) 3 (w117.setCell ⟨go59, ((rd t292 x95_4) : Int).toNat, none⟩ (.int .i64 (wrap64 ((rd x10_4 (rd t292 x95_4)) + (wrap64 (Int.tdiv (rd x10_4 (rd t290 x84_3)) (t292.length : Int))))))) w.heap.size (fun k_ => some k_ ≠ (.slice (some ⟨go59, 0, none⟩) x10_4.length co59 : Value).ownBlock ∧ some k_ ≠ (.slice (some ad291) t290.length co91 : Value).ownBlock ∧ k_ ≠ gb267) (.slice (some ad295) t292.length co104) t292) := ⟨by (with_reducible repeat (first | apply Kd.R_alloc | apply Kd.R_drewN | apply Kd.R_drew)); exact Kd.R_mono (Kd.R_far (p := ⟨go59, ((rd t292 x95_4) : Int).toNat, none⟩) (Kd.R_mono HO_93.out (fun k_ hk => (⟨hk, fun e_ => hk.1 (by rw [e_]; rfl)⟩ : _ ∧ k_ ≠ go59))) (fun _ hk => hk.2) (.int .i64 (wrap64 ((rd x10_4 (rd t292 x95_4)) + (wrap64 (Int.tdiv (rd x10_4 (rd t290 x84_3)) (t292.length : Int))))))) (fun _ hk => ⟨hk.1.1, ⟨hk.1.2.1, hk.1.2.2⟩⟩)⟩
         have n4_ : Aside0 (Kd.S (Kd.slice 3 (Kd.int .i64)) 26 (w117.setCell ⟨go59, ((rd t292 x95_4) : Int).toNat, none⟩ (.int .i64 (wrap64 ((rd x10_4 (rd t292 x95_4)) + (wrap64 (Int.tdiv (rd x10_4 (rd t290 x84_3)) (t292.length : Int))))))) w.heap.size (fun k_ => some k_ ≠ (.slice (some ⟨go59, 0, none⟩) x10_4.length co59 : Value).ownBlock ∧ some k_ ≠ (.slice (some ad295) t292.length co104 : Value).ownBlock ∧ some k_ ≠ (.slice (some ad291) t290.length co91 : Value).ownBlock ∧ some k_ ≠ (.slice (some ad295) t292.length co104 : Value).ownBlock ∧ k_ ≠ gb267) (.slice (some ad276) t272.length co64) t272) := ⟨by (with_reducible repeat (first | apply Kd.S_alloc | apply Kd.S_drewN | apply Kd.S_drew)); exact Kd.S_mono (Kd.S_far (p := ⟨go59, ((rd t292 x95_4) : Int).toNat, none⟩) (Kd.S_mono HO_276000.out (fun k_ hk => (⟨hk, fun e_ => hk.1 (by rw [e_]; rfl)⟩ : _ ∧ k_ ≠ go59))) (fun _ hk => hk.2) (.int .i64 (wrap64 ((rd x10_4 (rd t292 x95_4)) + (wrap64 (Int.tdiv (rd x10_4 (rd t290 x84_3)) (t292.length : Int))))))) (fun _ hk => ⟨hk.1.1, ⟨hk.1.2.1, ⟨hk.1.2.2.1, ⟨hk.1.2.2.2.1, hk.1.2.2.2.2⟩⟩⟩⟩)⟩
         have n5_ : Aside0 ((w117.setCell ⟨go59, ((rd t292 x95_4) : Int).toNat, none⟩ (.int .i64 (wrap64 ((rd x10_4 (rd t292 x95_4)) + (wrap64 (Int.tdiv (rd x10_4 (rd t290 x84_3)) (t292.length : Int))))))).heap[gb266]? = some (.cells #[.int .i64 a0_0, .slice A0_1 l0_1.length c0_1] 30 (0, 0))) := ⟨by refine bd_ ?_; refine blk_far ?_ (by have h_ := Kd.R_ne HO_10.out BK266.out (by decide); intro e_; exact h_ (by rw [e_]; rfl)) _; refine bd_ ?_; exact BK266.out⟩
         have n6_ : Aside0 ((w117.setCell ⟨go59, ((rd t292 x95_4) : Int).toNat, none⟩ (.int .i64 (wrap64 ((rd x10_4 (rd t292 x95_4)) + (wrap64 (Int.tdiv (rd x10_4 (rd t290 x84_3)) (t292.length : Int))))))).heap[gb267]? = some (.cells #[.int .i64 x268000_4] 3 (0, 0))) := ⟨by refine bd_ ?_; refine blk_far ?_ (by have h_ := Kd.R_away HO_10.out (fun _ hk => hk.2.2.2); intro e_; exact h_ (by rw [e_]; rfl)) _; refine bd_ ?_; exact BK267.out⟩
         have n7_ : Aside0 ((w117.setCell ⟨go59, ((rd t292 x95_4) : Int).toNat, none⟩ (.int .i64 (wrap64 ((rd x10_4 (rd t292 x95_4)) + (wrap64 (Int.tdiv (rd x10_4 (rd t290 x84_3)) (t292.length : Int))))))).heap[gb275]? = some (.cells #[.slice (some ad276) t272.length co64] 45 (0, 0))) := ⟨by refine bd_ ?_; refine blk_far ?_ (by have h_ := Kd.R_ne HO_10.out BK275.out (by decide); intro e_; exact h_ (by rw [e_]; rfl)) _; refine bd_ ?_; exact BK275.out⟩
         have n8_ : Aside0 (Below w.heap.size w (w117.setCell ⟨go59, ((rd t292 x95_4) : Int).toNat, none⟩ (.int .i64 (wrap64 ((rd x10_4 (rd t292 x95_4)) + (wrap64 (Int.tdiv (rd x10_4 (rd t290 x84_3)) (t292.length : Int)))))))) := ⟨by repeat (first | (with_reducible first | exact HB.out | apply below_alloc | apply pw_below_drewN | apply below_drew1 | refine below_set ?_ GB59.out | refine below_set ?_ GE266.out | refine below_set ?_ GE267.out | refine below_set ?_ GE275.out) | exact HB.out)⟩
         (try clear HO_10)
         (try clear HO_15)
         (try clear HO_82)
         (try clear HO_93)
         (try clear HO_276000)
         (try clear BK266)
         (try clear BK267)
         (try clear BK275)
         (try clear HB)
         generalize (w117.setCell ⟨go59, ((rd t292 x95_4) : Int).toNat, none⟩ (.int .i64 (wrap64 ((rd x10_4 (rd t292 x95_4)) + (wrap64 (Int.tdiv (rd x10_4 (rd t290 x84_3)) (t292.length : Int))))))) = w119 at n0_ n1_ n2_ n3_ n4_ n5_ n6_ n7_ n8_ ⊢
         have HO_10 := n0_
         have HO_15 := n1_
         have HO_82 := n2_
         have HO_93 := n3_
         have HO_276000 := n4_
         have BK266 := n5_
         have BK267 := n6_
         have BK275 := n7_
         have HB := n8_
         clear n0_ n1_ n2_ n3_ n4_ n5_ n6_ n7_ n8_
         have p299 : 0 ≤ ((rd t290 x84_3) : Int) := oa_
         have q299 : (rd t290 x84_3) < (y298.length : Int) := (by have h_ : ((rd t290 x84_3) : Int) < ((x10_4.length : Int) : Int) := oa_; first | (have e_ := (Kd.R_reads' HO_10.out).1; omega) | simpa only [Ny298.out, List.length_set] using h_)
         have ql299 : (((rd t290 x84_3) : Int) < ((x10_4.length : Int) : Int)) = True := eq_true oa_
         obtain ⟨ad299, e299, hx299_0⟩ := Kd.at_int (Kd.R_reads' HO_10.out).2.2 (rd t290 x84_3) p299 q299
         obtain rfl : (⟨go59, 0, none⟩ : Addr) = ad299 := (by injection e299)
         (first | simp only [add_plain] at hx299_0 | simp only [add_at] at hx299_0 | simp only [Addr.add, Nat.zero_add] at hx299_0 | skip)
         replace p299 := eq_true p299
         replace q299 := eq_true q299
         have p115 : 0 ≤ ((rd t292 x95_4) : Int) := oa_
         have q115 : ((rd t292 x95_4) : Int) < ((x10_4.length : Int) : Int) := oa_
         replace p115 := eq_true p115
         replace q115 := eq_true q115
         have p116 : 0 ≤ ((rd t292 x95_4) : Int) := oa_
         have q116 : ((rd t292 x95_4) : Int) < ((x10_4.length : Int) : Int) := oa_
         replace p116 := eq_true p116
         replace q116 := eq_true q116
         obtain ⟨hy120_, hz120_⟩ := Kd.R_celln 0 HO_10.out ((rd t292 x95_4) : Int) oa_ oa_
         have hrd_ : rdOf 0 y298 (rd t292 x95_4) = (wrap64 ((rd x10_4 (rd t292 x95_4)) + (wrap64 (Int.tdiv (rd x10_4 (rd t290 x84_3)) (t292.length : Int))))) := (by have a_ := of_eq_true p116; have b_ := of_eq_true q116; unfold rdOf; rw [Ny298.out, List.getD_eq_getElem?_getD, List.getElem?_set, if_pos rfl, if_pos (by omega)]; rfl)
         rw [hrd_] at hy120_
         have HP120 := Kd.R_putg HO_10.out ((rd t292 x95_4) : Int) (wrap64 ((wrap64 ((rd x10_4 (rd t292 x95_4)) + (wrap64 (Int.tdiv (rd x10_4 (rd t290 x84_3)) (t292.length : Int))))) + 1))
         try go_wp2_with ((with_reducible refine gate_store (t := 3) (p := 127) rfl ?_); refine store_event (t := 3) (p := 127) (v := ?vo_w121) (w1 := (w119.setCell ⟨go59, ((rd t292 x95_4) : Int).toNat, none⟩ (.int .i64 (wrap64 ((wrap64 ((rd x10_4 (rd t292 x95_4)) + (wrap64 (Int.tdiv (rd x10_4 (rd t290 x84_3)) (t292.length : Int))))) + 1))))) ?hg ?ho ?hn ?hr ?_; (case ho => rfl); (case hg => rfl); (case hn => rfl); (case hr => first | (go_simp; done) | (go_simp; rfl)); intro w121 hw; have hg : w119.grownBy w121 (some go59) := (by rw [hw]; exact HP120.2); have hp_ : Kd.R (Kd.int .i64) 3 w121 w.heap.size (fun k_ => some k_ ≠ (.slice (some ad295) t292.length co104 : Value).ownBlock ∧ some k_ ≠ (.slice (some ad291) t290.length co91 : Value).ownBlock ∧ some k_ ≠ (.slice (some ad295) t292.length co104 : Value).ownBlock ∧ k_ ≠ gb267) (.slice (some ⟨go59, 0, none⟩) x10_4.length co59) y301 := (by rw [hw, Ny301.out]; exact HP120.1); clear HP120; replace HO_15 := Aside0.mk (Kd.R_after (v := (.slice (some ⟨go59, 0, none⟩) x10_4.length co59)) (v1 := (.slice (some ⟨go59, 0, none⟩) x10_4.length co59)) (ok := (fun k_ => some k_ ≠ (.slice (some ad291) t290.length co91 : Value).ownBlock ∧ k_ ≠ gb267)) (by (with_reducible repeat (first | apply Kd.R_alloc | apply Kd.R_drewN | apply Kd.R_drew)); exact Kd.R_mono HO_15.out (fun _ hk => ⟨⟨hk.2.1, hk.2.2⟩, hk.1⟩)) hg (.inl rfl)); replace HO_82 := Aside0.mk (Kd.R_after (v := (.slice (some ⟨go59, 0, none⟩) x10_4.length co59)) (v1 := (.slice (some ⟨go59, 0, none⟩) x10_4.length co59)) (ok := (fun k_ => some k_ ≠ (.slice (some ad295) t292.length co104 : Value).ownBlock ∧ some k_ ≠ (.slice (some ad295) t292.length co104 : Value).ownBlock ∧ k_ ≠ gb267)) (by (with_reducible repeat (first | apply Kd.R_alloc | apply Kd.R_drewN | apply Kd.R_drew)); exact Kd.R_mono HO_82.out (fun _ hk => ⟨⟨hk.2.1, ⟨hk.2.2.1, hk.2.2.2⟩⟩, hk.1⟩)) hg (.inl rfl)); replace HO_93 := Aside0.mk (Kd.R_after (v := (.slice (some ⟨go59, 0, none⟩) x10_4.length co59)) (v1 := (.slice (some ⟨go59, 0, none⟩) x10_4.length co59)) (ok := (fun k_ => some k_ ≠ (.slice (some ad291) t290.length co91 : Value).ownBlock ∧ k_ ≠ gb267)) (by (with_reducible repeat (first | apply Kd.R_alloc | apply Kd.R_drewN | apply Kd.R_drew)); exact Kd.R_mono HO_93.out (fun _ hk => ⟨⟨hk.2.1, hk.2.2⟩, hk.1⟩)) hg (.inl rfl)); replace HO_276000 := Aside0.mk (Kd.S_after (v := (.slice (some ⟨go59, 0, none⟩) x10_4.length co59)) (v1 := (.slice (some ⟨go59, 0, none⟩) x10_4.length co59)) (ok := (fun k_ => some k_ ≠ (.slice (some ad295) t292.length co104 : Value).ownBlock ∧ some k_ ≠ (.slice (some ad291) t290.length co91 : Value).ownBlock ∧ some k_ ≠ (.slice (some ad295) t292.length co104 : Value).ownBlock ∧ k_ ≠ gb267)) (by (with_reducible repeat (first | apply Kd.S_alloc | apply Kd.S_drewN | apply Kd.S_drew)); exact Kd.S_mono HO_276000.out (fun _ hk => ⟨⟨hk.2.1, ⟨hk.2.2.1, ⟨hk.2.2.2.1, hk.2.2.2.2⟩⟩⟩, hk.1⟩)) hg (.inl rfl)); replace BK266 := Aside0.mk (blk_grown (g := gb266) (o := .cells #[.int .i64 a0_0, .slice A0_1 l0_1.length c0_1] 30 (0, 0)) (bx_ BK266) hg (Kd.R_ne HO_10.out BK266.out (by decide))); replace BK267 := Aside0.mk (blk_grown (g := gb267) (o := .cells #[.int .i64 x268000_4] 3 (0, 0)) (bx_ BK267) hg (Kd.R_away HO_10.out (fun _ hk => hk.2.2.2))); replace BK275 := Aside0.mk (blk_grown (g := gb275) (o := .cells #[.slice (some ad276) t272.length co64] 45 (0, 0)) (bx_ BK275) hg (Kd.R_ne HO_10.out BK275.out (by decide))); replace HO_10 := Aside0.mk (hp_); replace HB := Aside0.mk ((by rw [hw]; exact below_set (HB.out) GB59.out : Below w.heap.size w w121)); clear hg hw hp_)
         (try simp only [← hl10_4])
         go_roundg k4
         case measure => have := HJ4.out; have := HK2.out; have := HK3.out; have := HK4.out; omega
         case rel => exact ⟨(y301), (wrap64 (x95_4 + 1)), (x268000_4), er_, H', ⟨by have := HJ4.out; have := HK2.out; have := HK3.out; have := HK4.out; omega⟩, ⟨by (try simp only [hl10_2]); (try simp only [hl10_3]); (try simp only [hl82_3]); (try simp only [hl10_4]); (with_reducible repeat (first | apply Kd.R_alloc | apply Kd.R_drewN | apply Kd.R_drew)); exact HO_10.out⟩, ⟨by (try simp only [hl10_2]); (try simp only [hl10_3]); (try simp only [hl82_3]); (try simp only [hl10_4]); (with_reducible repeat (first | apply Kd.R_alloc | apply Kd.R_drewN | apply Kd.R_drew)); exact Kd.R_mono HO_15.out (fun _ hk => ⟨hk.2, ⟨hk.1.1, hk.1.2⟩⟩)⟩, ⟨by (try simp only [hl10_2]); (try simp only [hl10_3]); (try simp only [hl82_3]); (try simp only [hl10_4]); (with_reducible repeat (first | apply Kd.R_alloc | apply Kd.R_drewN | apply Kd.R_drew)); exact Kd.R_mono HO_82.out (fun _ hk => ⟨hk.2, ⟨hk.1.1, ⟨hk.1.2.1, hk.1.2.2⟩⟩⟩)⟩, ⟨by (try simp only [hl10_2]); (try simp only [hl10_3]); (try simp only [hl82_3]); (try simp only [hl10_4]); (with_reducible repeat (first | apply Kd.R_alloc | apply Kd.R_drewN | apply Kd.R_drew)); exact Kd.R_mono HO_93.out (fun _ hk => ⟨hk.2, ⟨hk.1.1, hk.1.2⟩⟩)⟩, ⟨by (try simp only [hl10_2]); (try simp only [hl10_3]); (try simp only [hl82_3]); (try simp only [hl10_4]); (with_reducible repeat (first | apply Kd.S_alloc | apply Kd.S_drewN | apply Kd.S_drew)); exact Kd.S_mono HO_276000.out (fun _ hk => ⟨hk.2, ⟨hk.1.1, ⟨hk.1.2.1, ⟨hk.1.2.2.1, hk.1.2.2.2⟩⟩⟩⟩)⟩, ⟨by (try simp only [hl10_2]); (try simp only [hl10_3]); (try simp only [hl82_3]); (try simp only [hl10_4]); refine bd_ ?_; exact BK266.out⟩, ⟨by (try simp only [hl10_2]); (try simp only [hl10_3]); (try simp only [hl82_3]); (try simp only [hl10_4]); refine bd_ ?_; exact BK267.out⟩, ⟨by (try simp only [hl10_2]); (try simp only [hl10_3]); (try simp only [hl82_3]); (try simp only [hl10_4]); refine bd_ ?_; exact BK275.out⟩, ⟨bw_⟩⟩

end Go.Proofs.Ythmahcohcphljaa.QFnShares
