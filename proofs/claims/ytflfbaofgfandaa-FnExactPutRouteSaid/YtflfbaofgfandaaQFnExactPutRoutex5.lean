/- Contracts of functions that the law reaches: what each call returns and what it leaves in memory. Made by this session over the print of the kit. -/
import Derived.Test.YtflfbaofgfandaaQFnExactPutRoutex0
import Derived.Test.YtflfbaofgfandaaQFnExactPutRoutex4
namespace Go.Proofs.Ytflfbaofgfandaa.QFnExactPutRoute
open Go.RowKit Go.Proofs.YtflfbaofgfandaaP.PrintWords Go.Proofs.YtflfbaofgfandaaP.PrintLast Go.Proofs.YtflfbaofgfandaaP.PrintMore
attribute [local go_sem] max2_int min2_int max_two min_two max_three min_three max_four min_four   -- for this text's walks alone
set_option linter.unusedVariables false
set_option linter.unusedSimpArgs false
def ba5_0 : Array Bool := #[false, false, false, false, false, false, false, false, false, false, false, false, false, false, false, false, false, false, false, false, false, false, false, false, false, false, false, false, false, false, false, false, false, false, false, false, false, false, false]
def ba5_1 : Array Bool := #[true, false, false, false, false, false, false, false, false, false, false, false, false, false, false, false, false, false, false, false, false, false, false, false, false, false, false, false, false, false, false, false, false, false, false, false, false, false, false]
def ba5_2 : Array Bool := #[true, false, true, false, false, false, false, false, false, false, false, false, false, false, false, false, false, false, false, false, false, false, false, false, false, false, false, false, false, false, false, false, false, false, false, false, false, false, false]
def ba5_3 : Array Bool := #[true, true, true, false, false, false, false, false, false, false, false, false, false, false, false, false, false, false, false, false, false, false, false, false, false, false, false, false, false, false, false, false, false, false, false, false, false, false, false]
def ba5_4 : Array Bool := #[true, true, true, true, false, false, false, false, false, false, false, false, false, false, false, false, false, false, false, false, false, false, false, false, false, false, false, false, false, false, false, false, false, false, false, false, false, false, false]
def ba5_5 : Array Bool := #[true, true, true, true, true, false, false, false, false, false, false, false, false, false, false, false, false, false, false, false, false, false, false, false, false, false, false, false, false, false, false, false, false, false, false, false, false, false, false]
def ba5_6 : Array Bool := #[true, true, true, true, true, true, false, false, false, false, false, false, false, false, false, false, false, false, false, false, false, false, false, false, false, false, false, false, false, false, false, false, false, false, false, false, false, false, false]
def ba5_7 : Array Bool := #[true, true, true, true, true, true, true, false, false, false, false, false, false, false, false, false, false, false, false, false, false, false, false, false, false, false, false, false, false, false, false, false, false, false, false, false, false, false, false]
def ba5_8 : Array Bool := #[true, true, true, true, true, true, true, true, false, false, false, false, false, false, false, false, false, false, false, false, false, false, false, false, false, false, false, false, false, false, false, false, false, false, false, false, false, false, false]
def ba5_9 : Array Bool := #[true, true, true, true, true, true, true, true, true, false, false, false, false, false, false, false, false, false, false, false, false, false, false, false, false, false, false, false, false, false, false, false, false, false, false, false, false, false, false]
def ba5_10 : Array Bool := #[true, true, true, true, true, true, true, true, true, true, false, false, false, false, false, false, false, false, false, false, false, false, false, false, false, false, false, false, false, false, false, false, false, false, false, false, false, false, false]
def ba5_11 : Array Bool := #[true, true, true, true, true, true, true, true, true, true, false, true, false, false, false, false, false, false, false, false, false, false, false, false, false, false, false, false, false, false, false, false, false, false, false, false, false, false, false]
def ba5_12 : Array Bool := #[true, true, true, true, true, true, true, true, true, true, true, true, false, false, false, false, false, false, false, false, false, false, false, false, false, false, false, false, false, false, false, false, false, false, false, false, false, false, false]
def ba5_13 : Array Bool := #[true, true, true, true, true, true, true, true, true, true, true, true, true, false, false, false, false, false, false, false, false, false, false, false, false, false, false, false, false, false, false, false, false, false, false, false, false, false, false]
def ba5_14 : Array Bool := #[true, true, true, true, true, true, true, true, true, true, true, true, true, true, false, false, false, false, false, false, false, false, false, false, false, false, false, false, false, false, false, false, false, false, false, false, false, false, false]
def ba5_15 : Array Bool := #[true, true, true, true, true, true, true, true, true, true, true, true, true, true, true, false, false, false, false, false, false, false, false, false, false, false, false, false, false, false, false, false, false, false, false, false, false, false, false]
def ba5_16 : Array Bool := #[true, true, true, true, true, true, true, true, true, true, true, true, true, true, true, true, false, false, false, false, false, false, false, false, false, false, false, false, false, false, false, false, false, false, false, false, false, false, false]
def ba5_17 : Array Bool := #[true, true, true, true, true, true, true, true, true, true, true, true, true, true, true, true, true, false, false, false, false, false, false, false, false, false, false, false, false, false, false, false, false, false, false, false, false, false, false]
def ba5_18 : Array Bool := #[true, true, true, true, true, true, true, true, true, true, true, true, true, true, true, true, true, true, false, false, false, false, false, false, false, false, false, false, false, false, false, false, false, false, false, false, false, false, false]
def ba5_19 : Array Bool := #[true, true, true, true, true, true, true, true, true, true, true, true, true, true, true, true, true, true, true, false, false, false, false, false, false, false, false, false, false, false, false, false, false, false, false, false, false, false, false]
def ba5_20 : Array Bool := #[true, true, true, true, true, true, true, true, true, true, true, true, true, true, true, true, true, true, true, true, false, false, false, false, false, false, false, false, false, false, false, false, false, false, false, false, false, false, false]
def ba5_21 : Array Bool := #[true, true, true, true, true, true, true, true, true, true, true, true, true, true, true, true, true, true, true, true, true, false, false, false, false, false, false, false, false, false, false, false, false, false, false, false, false, false, false]
def ba5_22 : Array Bool := #[true, true, true, true, true, true, true, true, true, true, true, true, true, true, true, true, true, true, true, true, true, true, false, false, false, false, false, false, false, false, false, false, false, false, false, false, false, false, false]
def ba5_23 : Array Bool := #[true, true, true, true, true, true, true, true, true, true, true, true, true, true, true, true, true, true, true, true, true, true, true, false, false, false, false, false, false, false, false, false, false, false, false, false, false, false, false]
def ba5_24 : Array Bool := #[true, true, true, true, true, true, true, true, true, true, true, true, true, true, true, true, true, true, true, true, true, true, true, false, true, false, false, false, false, false, false, false, false, false, false, false, false, false, false]
def ba5_25 : Array Bool := #[true, true, true, true, true, true, true, true, true, true, true, true, true, true, true, true, true, true, true, true, true, true, true, false, true, true, false, false, false, false, false, false, false, false, false, false, false, false, false]
def ba5_26 : Array Bool := #[true, true, true, true, true, true, true, true, true, true, true, true, true, true, true, true, true, true, true, true, true, true, true, false, true, true, false, false, false, true, false, false, false, false, false, false, false, false, false]
def ba5_27 : Array Bool := #[true, true, true, true, true, true, true, true, true, true, true, true, true, true, true, true, true, true, true, true, true, true, true, false, true, true, false, false, false, true, false, true, false, false, false, false, false, false, false]
def ba5_28 : Array Bool := #[true, true, true, true, true, true, true, true, true, true, true, true, true, true, true, true, true, true, true, true, true, true, true, true, true, true, false, false, false, true, false, true, false, false, false, false, false, false, false]
def ba5_29 : Array Bool := #[true, true, true, true, true, true, true, true, true, true, true, true, true, true, true, true, true, true, true, true, true, true, true, true, true, true, true, false, false, true, false, true, false, false, false, false, false, false, false]
def ba5_30 : Array Bool := #[true, true, true, true, true, true, true, true, true, true, true, true, true, true, true, true, true, true, true, true, true, true, true, true, true, true, true, true, false, true, false, true, false, false, false, false, false, false, false]
def ba5_31 : Array Bool := #[true, true, true, true, true, true, true, true, true, true, true, true, true, true, true, true, true, true, true, true, true, true, true, true, true, true, true, true, true, true, false, true, false, false, false, false, false, false, false]
def ba5_32 : Array Bool := #[true, true, true, true, true, true, true, true, true, true, true, true, true, true, true, true, true, true, true, true, true, true, true, true, true, true, true, true, true, true, true, true, false, false, false, false, false, false, false]
def ba5_33 : Array Bool := #[true, true, true, true, true, true, true, true, true, true, true, true, true, true, true, true, true, true, true, true, true, true, true, true, true, true, true, true, true, true, true, true, true, false, false, false, false, false, false]
def ba5_34 : Array Bool := #[true, true, true, true, true, true, true, true, true, true, true, true, true, true, true, true, true, true, true, true, true, true, true, true, true, true, true, true, true, true, true, true, true, true, false, false, false, false, false]
def ba5_35 : Array Bool := #[true, true, true, true, true, true, true, true, true, true, true, true, true, true, true, true, true, true, true, true, true, true, true, true, true, true, true, true, true, true, true, true, true, true, true, false, false, false, false]
def ba5_36 : Array Bool := #[true, true, true, true, true, true, true, true, true, true, true, true, true, true, true, true, true, true, true, true, true, true, true, true, true, true, true, true, true, true, true, true, true, true, true, true, false, false, false]
def ba5_37 : Array Bool := #[true, true, true, true, true, true, true, true, true, true, true, true, true, true, true, true, true, true, true, true, true, true, true, true, true, true, true, true, true, true, true, true, true, true, true, true, true, false, false]
def ba5_38 : Array Bool := #[true, true, true, true, true, true, true, true, true, true, true, true, true, true, true, true, true, true, true, true, true, true, true, true, true, true, true, true, true, true, true, true, true, true, true, true, true, true, false]
def ba5_39 : Array Bool := #[true, true, true, true, true, true, true, true, true, true, true, true, true, true, true, true, true, true, true, true, true, true, true, true, true, true, true, true, true, true, true, true, true, true, true, true, true, true, true]
def ba5_40 : Array Bool := #[true, true, true, true, true, true, true, true, true, true, true, true, true, true, true, true, true, true, true, true, true, true, true, true, false, false, false, false, false, false, false, false, false, false, false, false, false, false, false]
def ba5_41 : Array Bool := #[true, true, true, true, true, true, true, true, true, true, true, true, true, true, true, true, true, true, true, true, true, true, true, true, true, false, false, false, false, false, false, false, false, false, false, false, false, false, false]
def ba5_42 : Array Bool := #[true, true, true, true, true, true, true, true, true, true, true, true, true, true, true, true, true, true, true, true, true, true, true, true, true, true, false, false, false, false, false, false, false, false, false, false, false, false, false]
def ba5_43 : Array Bool := #[true, true, true, true, true, true, true, true, true, true, true, true, true, true, true, true, true, true, true, true, true, true, true, true, true, true, true, false, false, false, false, false, false, false, false, false, false, false, false]
def ba5_44 : Array Bool := #[true, true, true, true, true, true, true, true, true, true, true, true, true, true, true, true, true, true, true, true, true, true, true, true, true, true, true, true, false, false, false, false, false, false, false, false, false, false, false]
def ba5_45 : Array Bool := #[true, true, true, true, true, true, true, true, true, true, true, true, true, true, true, true, true, true, true, true, true, true, true, true, true, true, true, true, true, false, false, false, false, false, false, false, false, false, false]
def ba5_46 : Array Bool := #[true, true, true, true, true, true, true, true, true, true, true, true, true, true, true, true, true, true, true, true, true, true, true, true, true, true, true, true, true, true, false, false, false, false, false, false, false, false, false]
def ba5_47 : Array Bool := #[true, true, true, true, true, true, true, true, true, true, true, true, true, true, true, true, true, true, true, true, true, true, true, true, true, true, true, true, true, true, true, false, false, false, false, false, false, false, false]
def ba5_48 : Array Bool := #[true, true, true, true, true, true, true, true, true, true, true, false, false, false, false, false, false, false, false, false, false, false, false, false, false, false, false, false, false, false, false, false, false, false, false, false, false, false, false]

/-! ### spec_TableOk: function 27 -/
def spec_TableOk.l0 : Nat → Int → List (S43) → Option (Bool)
 | 0, _, _ => none
 | k + 1, x3, x164000 => if x3 < (x164000.length : Int) then (if 0 ≤ x3 then ((spec_PrefixOk.f ((rd_T43 x164000 x3).f0.f0) ((rd_T43 x164000 x3).f0.f1)).bind fun t165 => (if t165 = true then ((spec_l01In.f ((rd_T43 x164000 x3).f1) 0 999).bind fun t167 => (if t167 = true then (if x3 > 0 then (if 0 ≤ (wrap64 (x3 - 1)) then (if (wrap64 (x3 - 1)) < (x164000.length : Int) then ((spec_l02Ahead.f ((rd_T43 x164000 (wrap64 (x3 - 1))).f0.f0) ((rd_T43 x164000 (wrap64 (x3 - 1))).f0.f1) ((rd_T43 x164000 x3).f0.f0) ((rd_T43 x164000 x3).f0.f1)).bind fun t170 => (if t170 = true then (spec_TableOk.l0 k (wrap64 (x3 + 1)) x164000) else (some false))) else (none)) else (none)) else (spec_TableOk.l0 k (wrap64 (x3 + 1)) x164000)) else (some false))) else (some false))) else (none)) else (some true)
def spec_TableOk.f (k : Nat) (l0_0 : List (S43)) : Option (Bool) := if (l0_0.length : Int) > 120 then (some false) else (spec_TableOk.l0 k 0 l0_0)
theorem spec_TableOk.mono_l : ∀ k, (∀ y0 y1, LeO (spec_TableOk.l0 k y0 y1) (spec_TableOk.l0 (k + 1) y0 y1))
 | 0 => fun _ _ r h => by simp [spec_TableOk.l0] at h
 | k + 1 => by
  have ih0 := spec_TableOk.mono_l k
  ·intro y0 y1
   unfold spec_TableOk.l0
   repeat' first
   | (with_reducible exact ih0 _ _)
   | (with_reducible exact LeO.refl _)
   | (with_reducible exact LeO.none _)
   | (with_reducible refine LeO.ite ?_ ?_)
   | (with_reducible refine LeO.bind ?_ (fun _ => ?_))
   | exact ih0 _ _
   | exact LeO.none _
   | refine LeO.ite ?_ ?_
   | refine LeO.bind ?_ (fun _ => ?_)
theorem spec_TableOk.mono : ∀ a0 k, LeO (spec_TableOk.f k a0) (spec_TableOk.f (k + 1) a0) := by
 intro a0 k
 have ih0 := spec_TableOk.mono_l k
 unfold spec_TableOk.f
 repeat' first
   | (with_reducible exact ih0 _ _)
   | (with_reducible exact LeO.refl _)
   | (with_reducible exact LeO.none _)
   | (with_reducible refine LeO.ite ?_ ?_)
   | (with_reducible refine LeO.bind ?_ (fun _ => ?_))
   | exact ih0 _ _
   | exact LeO.none _
   | refine LeO.ite ?_ ?_
   | refine LeO.bind ?_ (fun _ => ?_)
def spec_TableOk.T6 : Bool × List (List Nat × List Nat) := (true, [([], []), ([0], [0]), ([], []), ([1, 2], [1, 2]), ([3], [3]), ([4], [4]), ([5], [5]), ([6], [6]), ([7, 6], [7]), ([8], [8]), ([9, 8], [8, 9]), ([8], [8]), ([10, 11, 8], [8, 10, 11]), ([12, 8], [8, 12]), ([13, 8], [8, 13]), ([14, 8, 8], [8, 14]), ([15, 8], [8, 15]), ([8, 16], [8, 16]), ([17, 15], [17]), ([18], [18]), ([19, 18], [18, 19]), ([20, 18, 18], [18, 20]), ([21], [21]), ([22, 21], [21, 22]), ([21], [21]), ([24, 21], [21, 24]), ([23, 25, 21], [21, 23, 25]), ([26, 21], [21, 26]), ([27, 21], [21, 27]), ([21], [21]), ([29, 21], [21, 29]), ([21], [21]), ([30, 31, 21], [21, 30, 31]), ([32, 21], [21, 32]), ([33, 21], [21, 33]), ([28, 34, 21, 21], [21, 28, 34]), ([35, 21], [21, 35]), ([21, 36, 18], [18, 21, 36]), ([18, 37], [18, 37])])
def spec_TableOk.B6 : List Nat := [0, 1, 0, 7, 15, 31, 63, 127, 255, 511, 1023, 511, 4095, 8191, 16383, 32767, 65535, 131071, 262143, 524287, 1048575, 2097151, 4194303, 8388607, 4194303, 20971519, 67108863, 134217727, 268435455, 4194303, 541065215, 4194303, 3762290687, 8057257983, 16647192575, 34359738367, 68719476735, 137438953471, 274877906943]
theorem spec_TableOk.tab6 : rtab .any (opsOf Try.f27 6) = spec_TableOk.T6 := by kernel_rfl
theorem spec_TableOk.bits6 : waitsOk spec_TableOk.T6.2 spec_TableOk.B6 = true := by kernel_rfl
set_option maxHeartbeats 8000000 in
set_option maxRecDepth 100000 in
theorem spec_TableOk.calls (k : Nat) (A0_0 : Option Addr) (c0_0 : Nat) (l0_0 : List (S43)) (r : Bool) (w : World) (hr0_0 : Kd.C k43 w A0_0 l0_0.length l0_0) (hc0_0 : l0_0.length ≤ c0_0) (h : spec_TableOk.f k l0_0 = some r) :
  Calls Try.prog 27 #[.agg #[.slice A0_0 l0_0.length c0_0]] w fun e w' => e = .returned (.bool r) ∧ Below w.heap.size w w' := by
 have hu30 := Try.underlying30
 have hu34 := Try.underlying34
 have HR0_0 := Aside0.mk hr0_0
 have HC0_0 := Aside0.mk hc0_0
 clear hr0_0 hc0_0
 have HB := Aside0.mk (Below.refl w.heap.size w)
 have H : (if (l0_0.length : Int) > 120 then (some false) else (spec_TableOk.l0 k 0 l0_0)) = some r := h
 clear h
 by_cases c2 : (l0_0.length : Int) > 120
 ·rw [if_pos c2] at H
  have c2b0 : decide (120 < (l0_0.length : Int)) = true := decide_eq_true c2
  have c2b1 : decide (120 < l0_0.length) = true := decide_eq_true (by omega)
  clear c2
  obtain rfl := Option.some.inj H
  go_enter Try.func27, Try.ntmps27
  go_wp2_with (first | ((with_reducible refine gate_dst (N := 1) rfl ?_); refine box_event ?hg (N := 1) ?hd (cs := #[.slice A0_0 l0_0.length c0_0]) (t := 30) ?hr ?_; (case hd => rfl); (case hg => rfl); (case hr => first | (go_simp; done) | (go_simp; rfl)); intro gb163 hg w3 hbox hb; have BK163 := Aside0.mk hbox; have GW163 := ge_ HB hg; have GE163 := ge_ HB hg; replace HB := Aside0.mk (bt_ HB hb); clear hb hbox hg; have hcz4_0 := cz_ BK163 0 (.slice A0_0 l0_0.length c0_0); have hfz4_0 := blk_frozen BK163.out 0))
  go_ret
  exact ⟨by first | rfl | (simp [errW_none, errW_some] <;> rfl) | (simp [*, errW_none, errW_some] <;> rfl), by repeat (first | (with_reducible first | exact HB.out | apply below_alloc | apply pw_below_drewN | apply below_drew1 | refine below_set ?_ GE163.out) | exact HB.out)⟩
 ·rw [if_neg c2] at H
  have c2b0 : decide (120 < (l0_0.length : Int)) = false := decide_eq_false c2
  have c2b1 : decide (120 < l0_0.length) = false := decide_eq_false (by omega)
  clear c2
  have H' := Aside0.mk H
  clear H
  go_enter Try.func27, Try.ntmps27
  go_wp2_with (first | ((with_reducible refine gate_dst (N := 1) rfl ?_); refine box_event ?hg (N := 1) ?hd (cs := #[.slice A0_0 l0_0.length c0_0]) (t := 30) ?hr ?_; (case hd => rfl); (case hg => rfl); (case hr => first | (go_simp; done) | (go_simp; rfl)); intro gb163 hg w5 hbox hb; have BK163 := Aside0.mk hbox; have GW163 := ge_ HB hg; have GE163 := ge_ HB hg; replace HB := Aside0.mk (bt_ HB hb); clear hb hbox hg; have hcz6_0 := cz_ BK163 0 (.slice A0_0 l0_0.length c0_0); have hfz6_0 := blk_frozen BK163.out 0))
  go_loopg [3] k (fun kq v3 w' => ∃ (x3_1 : Int), v3 = .int .i64 x3_1 ∧ Aside0 (spec_TableOk.l0 kq x3_1 l0_0 = some r) ∧ Aside0 (kq ≤ k) ∧ Aside0 (w'.heap[gb163]? = some (.cells #[(.slice A0_0 l0_0.length c0_0)] 30 (0, 0))) ∧ Aside0 (Below w.heap.size w w'))
  case atStart => exact ⟨(0), (by first | rfl | (simp; done) | (simp [*]; done)), H', ⟨Nat.le_refl _⟩, ⟨by (with_reducible repeat (first | refine blk_drewN ?_ _ | refine blk_drew ?_ | refine blk_alloc ?_ _)); exact BK163.out⟩, ⟨by repeat (first | (with_reducible first | exact HB.out | apply below_alloc | apply pw_below_drewN | apply below_drew1 | refine below_set ?_ GE163.out) | exact HB.out)⟩⟩
  case round =>
   clear H'
   try clear c2
   try clear c2b0
   try clear c2b1
   try clear p2
   try clear hcz4_0
   try clear hcz6_0
   try clear hfz4_0
   try clear hfz6_0
   obtain ⟨x3_1, rfl, HA, HK1, BK163, HB⟩ := hrel
   cases gk with
   | zero => exact absurd HA.out (by simp [spec_TableOk.l0])
   | succ k1 =>
    have H := HA.out
    clear HA
    simp only [spec_TableOk.l0] at H
    by_cases c7 : x3_1 < (l0_0.length : Int)
    ·rw [if_pos c7] at H
     have c7b0 : decide (x3_1 < (l0_0.length : Int)) = true := decide_eq_true c7
     clear c7
     by_cases c8 : 0 ≤ x3_1
     ·rw [if_pos c8] at H
      have c8b0 : decide (0 ≤ x3_1) = true := decide_eq_true c8
      clear c8
      replace H := Option.bind_eq_some_iff.mp H
      obtain ⟨t165, A90, H⟩ := H
      have A9 := Aside0.mk A90
      clear A90
      by_cases c10 : t165 = true
      ·subst c10
       rw [if_pos rfl] at H
       replace H := Option.bind_eq_some_iff.mp H
       obtain ⟨t167, A110, H⟩ := H
       have A11 := Aside0.mk A110
       clear A110
       by_cases c12 : t167 = true
       ·subst c12
        rw [if_pos rfl] at H
        by_cases c13 : x3_1 > 0
        ·rw [if_pos c13] at H
         have c13b0 : decide (0 < x3_1) = true := decide_eq_true c13
         clear c13
         obtain ⟨ji14, hji14⟩ : ∃ j_ : Int, (wrap64 (x3_1 - 1)) = j_ := ⟨_, rfl⟩
         first | rw [hji14] at H | simp only [hji14] at H
         (try rw [hji14] at A9)
         (try rw [hji14] at A11)
         have hji14w : (IntKind.i64.wrap (x3_1 - 1)) = ji14 := (i64_w _).trans hji14
         by_cases c15 : 0 ≤ (ji14)
         ·rw [if_pos c15] at H
          have c15b0 : decide (0 ≤ (ji14)) = true := decide_eq_true c15
          clear c15
          by_cases c16 : (ji14) < (l0_0.length : Int)
          ·rw [if_pos c16] at H
           have c16b0 : decide ((ji14) < (l0_0.length : Int)) = true := decide_eq_true c16
           clear c16
           replace H := Option.bind_eq_some_iff.mp H
           obtain ⟨t170, A170, H⟩ := H
           have A17 := Aside0.mk A170
           clear A170
           by_cases c18 : t170 = true
           ·subst c18
            rw [if_pos rfl] at H
            have H' := Aside0.mk H
            clear H
            have hcz19_0 := cz_ BK163 0 (.slice A0_0 l0_0.length c0_0)
            have hfz19_0 := blk_frozen BK163.out 0
            try go_wp2
            replace BK163 := Aside0.mk (blk_drew BK163.out)
            replace HB := Aside0.mk (below_drew1 HB.out)
            have p164 : 0 ≤ (x3_1 : Int) := of_decide_eq_true (by first | (with_reducible assumption) | assumption)
            have q164 : x3_1 < (l0_0.length : Int) := of_decide_eq_true (by first | (with_reducible assumption) | assumption)
            obtain ⟨ad164, e164, hx164_0, hx164_1, hx164_2⟩ := at_T43 HR0_0.out x3_1 p164 q164
            have hw164_2 := hx164_2
            have hw164_1 := hx164_1
            have hw164_0 := hx164_0
            cases e164
            replace hx164_0 := (HB.out.cell (World.block_lt_of_cell? w _ hx164_0)).trans hx164_0
            replace hx164_1 := (HB.out.cell (World.block_lt_of_cell? w _ hx164_1)).trans hx164_1
            replace hx164_2 := (HB.out.cell (World.block_lt_of_cell? w _ hx164_2)).trans hx164_2
            replace p164 := eq_true p164
            replace q164 := eq_true q164
            have p166 : 0 ≤ (x3_1 : Int) := of_decide_eq_true (by first | (with_reducible assumption) | assumption)
            have q166 : x3_1 < (l0_0.length : Int) := of_decide_eq_true (by first | (with_reducible assumption) | assumption)
            obtain ⟨ad166, e166, hx166_0, hx166_1, hx166_2⟩ := at_T43 HR0_0.out x3_1 p166 q166
            have hw166_2 := hx166_2
            have hw166_1 := hx166_1
            have hw166_0 := hx166_0
            obtain rfl : ad164 = ad166 := (by injection e166)
            replace hx166_0 := (HB.out.cell (World.block_lt_of_cell? w _ hx166_0)).trans hx166_0
            replace hx166_1 := (HB.out.cell (World.block_lt_of_cell? w _ hx166_1)).trans hx166_1
            replace hx166_2 := (HB.out.cell (World.block_lt_of_cell? w _ hx166_2)).trans hx166_2
            replace p166 := eq_true p166
            replace q166 := eq_true q166
            have p168 : 0 ≤ ((ji14) : Int) := of_decide_eq_true (by first | (with_reducible assumption) | assumption)
            have q168 : (ji14) < (l0_0.length : Int) := of_decide_eq_true (by first | (with_reducible assumption) | assumption)
            obtain ⟨ad168, e168, hx168_0, hx168_1, hx168_2⟩ := at_T43 HR0_0.out (ji14) p168 q168
            have hw168_2 := hx168_2
            have hw168_1 := hx168_1
            have hw168_0 := hx168_0
            obtain rfl : ad164 = ad168 := (by injection e168)
            replace hx168_0 := (HB.out.cell (World.block_lt_of_cell? w _ hx168_0)).trans hx168_0
            replace hx168_1 := (HB.out.cell (World.block_lt_of_cell? w _ hx168_1)).trans hx168_1
            replace hx168_2 := (HB.out.cell (World.block_lt_of_cell? w _ hx168_2)).trans hx168_2
            replace p168 := eq_true p168
            replace q168 := eq_true q168
            have p169 : 0 ≤ (x3_1 : Int) := of_decide_eq_true (by first | (with_reducible assumption) | assumption)
            have q169 : x3_1 < (l0_0.length : Int) := of_decide_eq_true (by first | (with_reducible assumption) | assumption)
            obtain ⟨ad169, e169, hx169_0, hx169_1, hx169_2⟩ := at_T43 HR0_0.out x3_1 p169 q169
            have hw169_2 := hx169_2
            have hw169_1 := hx169_1
            have hw169_0 := hx169_0
            obtain rfl : ad164 = ad169 := (by injection e169)
            replace hx169_0 := (HB.out.cell (World.block_lt_of_cell? w _ hx169_0)).trans hx169_0
            replace hx169_1 := (HB.out.cell (World.block_lt_of_cell? w _ hx169_1)).trans hx169_1
            replace hx169_2 := (HB.out.cell (World.block_lt_of_cell? w _ hx169_2)).trans hx169_2
            replace p169 := eq_true p169
            replace q169 := eq_true q169
            refine start_ (n := 39) (S := fun w' => w'.cell? ⟨gb163, 0, none⟩ = some (.slice (some ad164) l0_0.length c0_0) ∧ w'.cell? (ad164.add ((x3_1).toNat * 3)) = some (.int .i64 ((rd_T43 l0_0 x3_1).f0.f0)) ∧ w'.cell? ⟨(ad164.add ((x3_1).toNat * 3)).block, (ad164.add ((x3_1).toNat * 3)).off + 1, none⟩ = some (.int .i64 ((rd_T43 l0_0 x3_1).f0.f1)) ∧ w'.cell? ⟨(ad164.add ((x3_1).toNat * 3)).block, (ad164.add ((x3_1).toNat * 3)).off + 2, none⟩ = some (.int .i64 ((rd_T43 l0_0 x3_1).f1)) ∧ w'.cell? (ad164.add ((x3_1).toNat * 3)) = some (.int .i64 ((rd_T43 l0_0 x3_1).f0.f0)) ∧ w'.cell? ⟨(ad164.add ((x3_1).toNat * 3)).block, (ad164.add ((x3_1).toNat * 3)).off + 1, none⟩ = some (.int .i64 ((rd_T43 l0_0 x3_1).f0.f1)) ∧ w'.cell? ⟨(ad164.add ((x3_1).toNat * 3)).block, (ad164.add ((x3_1).toNat * 3)).off + 2, none⟩ = some (.int .i64 ((rd_T43 l0_0 x3_1).f1)) ∧ w'.cell? (ad164.add (((ji14)).toNat * 3)) = some (.int .i64 ((rd_T43 l0_0 (ji14)).f0.f0)) ∧ w'.cell? ⟨(ad164.add (((ji14)).toNat * 3)).block, (ad164.add (((ji14)).toNat * 3)).off + 1, none⟩ = some (.int .i64 ((rd_T43 l0_0 (ji14)).f0.f1)) ∧ w'.cell? ⟨(ad164.add (((ji14)).toNat * 3)).block, (ad164.add (((ji14)).toNat * 3)).off + 2, none⟩ = some (.int .i64 ((rd_T43 l0_0 (ji14)).f1)) ∧ w'.cell? (ad164.add ((x3_1).toNat * 3)) = some (.int .i64 ((rd_T43 l0_0 x3_1).f0.f0)) ∧ w'.cell? ⟨(ad164.add ((x3_1).toNat * 3)).block, (ad164.add ((x3_1).toNat * 3)).off + 1, none⟩ = some (.int .i64 ((rd_T43 l0_0 x3_1).f0.f1)) ∧ w'.cell? ⟨(ad164.add ((x3_1).toNat * 3)).block, (ad164.add ((x3_1).toNat * 3)).off + 2, none⟩ = some (.int .i64 ((rd_T43 l0_0 x3_1).f1))) (ds := []) ba5_0 (by kernel_rfl) rfl rfl ⟨(blk_cell BK163.out 0).trans rfl, (hc_ HB hw164_0), (hc_ HB hw164_1), (hc_ HB hw164_2), (hc_ HB hw166_0), (hc_ HB hw166_1), (hc_ HB hw166_2), (hc_ HB hw168_0), (hc_ HB hw168_1), (hc_ HB hw168_2), (hc_ HB hw169_0), (hc_ HB hw169_1), (hc_ HB hw169_2)⟩ (fun hHeld => ?_); refine with_tabW spec_TableOk.tab6 spec_TableOk.bits6 (fun HT_ HW_ => ?_)
            generalize wr.drew = w20 at BK163 HB hx164_0 hx164_1 hx164_2 hx166_0 hx166_1 hx166_2 hx168_0 hx168_1 hx168_2 hx169_0 hx169_1 hx169_2 hHeld ⊢
            refine pz_ 0 15 ba5_1 HT_ ?_
            refine pz_ 2 17 ba5_2 HT_ ?_
            refine pt_ 1 16 ba5_3 HT_ HW_ hHeld ?_
            refine pz_ 3 18 ba5_4 HT_ ?_
            refine pz_ 4 19 ba5_5 HT_ ?_
            refine pt_ 5 20 ba5_6 HT_ HW_ hHeld ?_
            refine one_ (i := 6) (N := some 21) ba5_7 rfl rfl (one_of HT_.out (by kernel_rfl)) (by decide) (fun K hK => ?_)
            refine gz_ Try.func49 #[.agg #[.int .i64 ((rd_T43 l0_0 x3_1).f0.f0), .int .i64 ((rd_T43 l0_0 x3_1).f0.f1)]] ?_
            with_reducible refine (spec_PrefixOk.calls ((rd_T43 l0_0 x3_1).f0.f0) ((rd_T43 l0_0 x3_1).f0.f1) true _ A9.out).mono ?_
            rintro e w21 ⟨rfl, hb⟩
            refine ⟨_, rfl, ?_⟩
            replace BK163 := Aside0.mk (bb_ BK163 hb)
            replace HB := Aside0.mk (bt_ HB hb)
            (try clear hb)
            (try clear hb2)
            (try clear hk)
            (try clear hi)
            refine hK.out _ _ ⟨(blk_cell BK163.out 0).trans rfl, (hc_ HB hw164_0), (hc_ HB hw164_1), (hc_ HB hw164_2), (hc_ HB hw166_0), (hc_ HB hw166_1), (hc_ HB hw166_2), (hc_ HB hw168_0), (hc_ HB hw168_1), (hc_ HB hw168_2), (hc_ HB hw169_0), (hc_ HB hw169_1), (hc_ HB hw169_2)⟩ (fun hHeld => ?_)
            clear hK K
            refine nz_ 21 ?_
            refine pz_ 7 22 ba5_8 HT_ ?_
            refine pz_ 8 23 ba5_9 HT_ ?_
            refine pz_ 9 24 ba5_10 HT_ ?_
            refine pz_ 11 26 ba5_11 HT_ ?_
            refine pt_ 10 25 ba5_12 HT_ HW_ hHeld ?_
            refine pz_ 12 27 ba5_13 HT_ ?_
            refine pz_ 13 28 ba5_14 HT_ ?_
            refine pt_ 14 29 ba5_15 HT_ HW_ hHeld ?_
            refine one_ (i := 15) (N := some 30) ba5_16 rfl rfl (one_of HT_.out (by kernel_rfl)) (by decide) (fun K hK => ?_)
            refine gz_ Try.func50 #[.int .i64 ((rd_T43 l0_0 x3_1).f1), .int .i64 0, .int .i64 999] ?_
            with_reducible refine (spec_l01In.calls ((rd_T43 l0_0 x3_1).f1) 0 999 true _ A11.out).mono ?_
            rintro e w' ⟨rfl, ⟨nd, rfl⟩⟩
            refine ⟨_, rfl, ?_⟩
            refine hK.out _ _ ⟨(blk_cell BK163.out 0).trans rfl, (hc_ HB hw164_0), (hc_ HB hw164_1), (hc_ HB hw164_2), (hc_ HB hw166_0), (hc_ HB hw166_1), (hc_ HB hw166_2), (hc_ HB hw168_0), (hc_ HB hw168_1), (hc_ HB hw168_2), (hc_ HB hw169_0), (hc_ HB hw169_1), (hc_ HB hw169_2)⟩ (fun hHeld => ?_)
            clear hK K
            refine nz_ 30 ?_
            refine pz_ 16 31 ba5_17 HT_ ?_
            refine pz_ 17 32 ba5_18 HT_ ?_
            refine pz_ 18 33 ba5_19 HT_ ?_
            refine pz_ 19 34 ba5_20 HT_ ?_
            refine pz_ 20 35 ba5_21 HT_ ?_
            refine pz_ 21 36 ba5_22 HT_ ?_
            refine pz_ 22 37 ba5_23 HT_ ?_
            refine pz_ 24 39 ba5_24 HT_ ?_
            refine pz_ 25 40 ba5_25 HT_ ?_
            refine pz_ 29 44 ba5_26 HT_ ?_
            refine pz_ 31 46 ba5_27 HT_ ?_
            refine pt_ 23 38 ba5_28 HT_ HW_ hHeld ?_
            refine pz_ 26 41 ba5_29 HT_ ?_
            refine pz_ 27 42 ba5_30 HT_ ?_
            refine pt_ 28 43 ba5_31 HT_ HW_ hHeld ?_
            refine pt_ 30 45 ba5_32 HT_ HW_ hHeld ?_
            refine pz_ 32 47 ba5_33 HT_ ?_
            refine pz_ 33 48 ba5_34 HT_ ?_
            refine pt_ 34 49 ba5_35 HT_ HW_ hHeld ?_
            refine one_ (i := 35) (N := some 50) ba5_36 rfl rfl (one_of HT_.out (by kernel_rfl)) (by decide) (fun K hK => ?_)
            refine goes_ Try.func37 (by kernel_rfl) rfl #[.agg #[.int .i64 ((rd_T43 l0_0 (ji14)).f0.f0), .int .i64 ((rd_T43 l0_0 (ji14)).f0.f1)], .agg #[.int .i64 ((rd_T43 l0_0 x3_1).f0.f0), .int .i64 ((rd_T43 l0_0 x3_1).f0.f1)]] (by rfl) rfl rfl (by (try simp only [List.map_toArray, List.map_cons, List.map_nil]); first | done | (simp only [hji14]; rfl) | rfl | (simp only [List.length_drop, List.length_take]; rfl)) ?_
            with_reducible refine (spec_l02Ahead.calls ((rd_T43 l0_0 (ji14)).f0.f0) ((rd_T43 l0_0 (ji14)).f0.f1) ((rd_T43 l0_0 x3_1).f0.f0) ((rd_T43 l0_0 x3_1).f0.f1) true _ A17.out).mono ?_
            rintro e w22 ⟨rfl, hb⟩
            refine ⟨_, rfl, ?_⟩
            replace BK163 := Aside0.mk (bb_ BK163 hb)
            replace HB := Aside0.mk (bt_ HB hb)
            (try clear hb)
            (try clear hb2)
            (try clear hk)
            (try clear hi)
            refine hK.out _ _ ⟨(blk_cell BK163.out 0).trans rfl, (hc_ HB hw164_0), (hc_ HB hw164_1), (hc_ HB hw164_2), (hc_ HB hw166_0), (hc_ HB hw166_1), (hc_ HB hw166_2), (hc_ HB hw168_0), (hc_ HB hw168_1), (hc_ HB hw168_2), (hc_ HB hw169_0), (hc_ HB hw169_1), (hc_ HB hw169_2)⟩ (fun hHeld => ?_)
            clear hK K
            refine nz_ 50 ?_
            refine pz_ 36 51 ba5_37 HT_ ?_
            refine pz_ 37 52 ba5_38 HT_ ?_
            refine pz_ 38 53 ba5_39 HT_ ?_
            refine done_ (done_of HT_.out (by kernel_rfl)) ?_
            try go_wp2
            go_roundg k1
            case measure => have := HK1.out; omega
            case rel => exact ⟨(wrap64 (x3_1 + 1)), (by first | rfl | (simp; done) | (simp [*]; done)), H', ⟨by have := HK1.out; omega⟩, ⟨by (with_reducible repeat (first | refine blk_drewN ?_ _ | refine blk_drew ?_ | refine blk_alloc ?_ _)); exact BK163.out⟩, ⟨by repeat (first | (with_reducible first | exact HB.out | apply below_alloc | apply pw_below_drewN | apply below_drew1 | refine below_set ?_ GE163.out) | exact HB.out)⟩⟩
           ·replace c18 := Bool.eq_false_iff.mpr c18
            subst c18
            rw [if_neg (show ¬ (false = true) by decide)] at H
            obtain rfl := Option.some.inj H
            have hcz23_0 := cz_ BK163 0 (.slice A0_0 l0_0.length c0_0)
            have hfz23_0 := blk_frozen BK163.out 0
            try go_wp2
            replace BK163 := Aside0.mk (blk_drew BK163.out)
            replace HB := Aside0.mk (below_drew1 HB.out)
            have p164 : 0 ≤ (x3_1 : Int) := of_decide_eq_true (by first | (with_reducible assumption) | assumption)
            have q164 : x3_1 < (l0_0.length : Int) := of_decide_eq_true (by first | (with_reducible assumption) | assumption)
            obtain ⟨ad164, e164, hx164_0, hx164_1, hx164_2⟩ := at_T43 HR0_0.out x3_1 p164 q164
            have hw164_2 := hx164_2
            have hw164_1 := hx164_1
            have hw164_0 := hx164_0
            cases e164
            replace hx164_0 := (HB.out.cell (World.block_lt_of_cell? w _ hx164_0)).trans hx164_0
            replace hx164_1 := (HB.out.cell (World.block_lt_of_cell? w _ hx164_1)).trans hx164_1
            replace hx164_2 := (HB.out.cell (World.block_lt_of_cell? w _ hx164_2)).trans hx164_2
            replace p164 := eq_true p164
            replace q164 := eq_true q164
            have p166 : 0 ≤ (x3_1 : Int) := of_decide_eq_true (by first | (with_reducible assumption) | assumption)
            have q166 : x3_1 < (l0_0.length : Int) := of_decide_eq_true (by first | (with_reducible assumption) | assumption)
            obtain ⟨ad166, e166, hx166_0, hx166_1, hx166_2⟩ := at_T43 HR0_0.out x3_1 p166 q166
            have hw166_2 := hx166_2
            have hw166_1 := hx166_1
            have hw166_0 := hx166_0
            obtain rfl : ad164 = ad166 := (by injection e166)
            replace hx166_0 := (HB.out.cell (World.block_lt_of_cell? w _ hx166_0)).trans hx166_0
            replace hx166_1 := (HB.out.cell (World.block_lt_of_cell? w _ hx166_1)).trans hx166_1
            replace hx166_2 := (HB.out.cell (World.block_lt_of_cell? w _ hx166_2)).trans hx166_2
            replace p166 := eq_true p166
            replace q166 := eq_true q166
            have p168 : 0 ≤ ((ji14) : Int) := of_decide_eq_true (by first | (with_reducible assumption) | assumption)
            have q168 : (ji14) < (l0_0.length : Int) := of_decide_eq_true (by first | (with_reducible assumption) | assumption)
            obtain ⟨ad168, e168, hx168_0, hx168_1, hx168_2⟩ := at_T43 HR0_0.out (ji14) p168 q168
            have hw168_2 := hx168_2
            have hw168_1 := hx168_1
            have hw168_0 := hx168_0
            obtain rfl : ad164 = ad168 := (by injection e168)
            replace hx168_0 := (HB.out.cell (World.block_lt_of_cell? w _ hx168_0)).trans hx168_0
            replace hx168_1 := (HB.out.cell (World.block_lt_of_cell? w _ hx168_1)).trans hx168_1
            replace hx168_2 := (HB.out.cell (World.block_lt_of_cell? w _ hx168_2)).trans hx168_2
            replace p168 := eq_true p168
            replace q168 := eq_true q168
            have p169 : 0 ≤ (x3_1 : Int) := of_decide_eq_true (by first | (with_reducible assumption) | assumption)
            have q169 : x3_1 < (l0_0.length : Int) := of_decide_eq_true (by first | (with_reducible assumption) | assumption)
            obtain ⟨ad169, e169, hx169_0, hx169_1, hx169_2⟩ := at_T43 HR0_0.out x3_1 p169 q169
            have hw169_2 := hx169_2
            have hw169_1 := hx169_1
            have hw169_0 := hx169_0
            obtain rfl : ad164 = ad169 := (by injection e169)
            replace hx169_0 := (HB.out.cell (World.block_lt_of_cell? w _ hx169_0)).trans hx169_0
            replace hx169_1 := (HB.out.cell (World.block_lt_of_cell? w _ hx169_1)).trans hx169_1
            replace hx169_2 := (HB.out.cell (World.block_lt_of_cell? w _ hx169_2)).trans hx169_2
            replace p169 := eq_true p169
            replace q169 := eq_true q169
            refine start_ (n := 39) (S := fun w' => w'.cell? ⟨gb163, 0, none⟩ = some (.slice (some ad164) l0_0.length c0_0) ∧ w'.cell? (ad164.add ((x3_1).toNat * 3)) = some (.int .i64 ((rd_T43 l0_0 x3_1).f0.f0)) ∧ w'.cell? ⟨(ad164.add ((x3_1).toNat * 3)).block, (ad164.add ((x3_1).toNat * 3)).off + 1, none⟩ = some (.int .i64 ((rd_T43 l0_0 x3_1).f0.f1)) ∧ w'.cell? ⟨(ad164.add ((x3_1).toNat * 3)).block, (ad164.add ((x3_1).toNat * 3)).off + 2, none⟩ = some (.int .i64 ((rd_T43 l0_0 x3_1).f1)) ∧ w'.cell? (ad164.add ((x3_1).toNat * 3)) = some (.int .i64 ((rd_T43 l0_0 x3_1).f0.f0)) ∧ w'.cell? ⟨(ad164.add ((x3_1).toNat * 3)).block, (ad164.add ((x3_1).toNat * 3)).off + 1, none⟩ = some (.int .i64 ((rd_T43 l0_0 x3_1).f0.f1)) ∧ w'.cell? ⟨(ad164.add ((x3_1).toNat * 3)).block, (ad164.add ((x3_1).toNat * 3)).off + 2, none⟩ = some (.int .i64 ((rd_T43 l0_0 x3_1).f1)) ∧ w'.cell? (ad164.add (((ji14)).toNat * 3)) = some (.int .i64 ((rd_T43 l0_0 (ji14)).f0.f0)) ∧ w'.cell? ⟨(ad164.add (((ji14)).toNat * 3)).block, (ad164.add (((ji14)).toNat * 3)).off + 1, none⟩ = some (.int .i64 ((rd_T43 l0_0 (ji14)).f0.f1)) ∧ w'.cell? ⟨(ad164.add (((ji14)).toNat * 3)).block, (ad164.add (((ji14)).toNat * 3)).off + 2, none⟩ = some (.int .i64 ((rd_T43 l0_0 (ji14)).f1)) ∧ w'.cell? (ad164.add ((x3_1).toNat * 3)) = some (.int .i64 ((rd_T43 l0_0 x3_1).f0.f0)) ∧ w'.cell? ⟨(ad164.add ((x3_1).toNat * 3)).block, (ad164.add ((x3_1).toNat * 3)).off + 1, none⟩ = some (.int .i64 ((rd_T43 l0_0 x3_1).f0.f1)) ∧ w'.cell? ⟨(ad164.add ((x3_1).toNat * 3)).block, (ad164.add ((x3_1).toNat * 3)).off + 2, none⟩ = some (.int .i64 ((rd_T43 l0_0 x3_1).f1))) (ds := []) ba5_0 (by kernel_rfl) rfl rfl ⟨(blk_cell BK163.out 0).trans rfl, (hc_ HB hw164_0), (hc_ HB hw164_1), (hc_ HB hw164_2), (hc_ HB hw166_0), (hc_ HB hw166_1), (hc_ HB hw166_2), (hc_ HB hw168_0), (hc_ HB hw168_1), (hc_ HB hw168_2), (hc_ HB hw169_0), (hc_ HB hw169_1), (hc_ HB hw169_2)⟩ (fun hHeld => ?_); refine with_tabW spec_TableOk.tab6 spec_TableOk.bits6 (fun HT_ HW_ => ?_)
            generalize wr.drew = w24 at BK163 HB hx164_0 hx164_1 hx164_2 hx166_0 hx166_1 hx166_2 hx168_0 hx168_1 hx168_2 hx169_0 hx169_1 hx169_2 hHeld ⊢
            refine pz_ 0 15 ba5_1 HT_ ?_
            refine pz_ 2 17 ba5_2 HT_ ?_
            refine pt_ 1 16 ba5_3 HT_ HW_ hHeld ?_
            refine pz_ 3 18 ba5_4 HT_ ?_
            refine pz_ 4 19 ba5_5 HT_ ?_
            refine pt_ 5 20 ba5_6 HT_ HW_ hHeld ?_
            refine one_ (i := 6) (N := some 21) ba5_7 rfl rfl (one_of HT_.out (by kernel_rfl)) (by decide) (fun K hK => ?_)
            refine gz_ Try.func49 #[.agg #[.int .i64 ((rd_T43 l0_0 x3_1).f0.f0), .int .i64 ((rd_T43 l0_0 x3_1).f0.f1)]] ?_
            with_reducible refine (spec_PrefixOk.calls ((rd_T43 l0_0 x3_1).f0.f0) ((rd_T43 l0_0 x3_1).f0.f1) true _ A9.out).mono ?_
            rintro e w25 ⟨rfl, hb⟩
            refine ⟨_, rfl, ?_⟩
            replace BK163 := Aside0.mk (bb_ BK163 hb)
            replace HB := Aside0.mk (bt_ HB hb)
            (try clear hb)
            (try clear hb2)
            (try clear hk)
            (try clear hi)
            refine hK.out _ _ ⟨(blk_cell BK163.out 0).trans rfl, (hc_ HB hw164_0), (hc_ HB hw164_1), (hc_ HB hw164_2), (hc_ HB hw166_0), (hc_ HB hw166_1), (hc_ HB hw166_2), (hc_ HB hw168_0), (hc_ HB hw168_1), (hc_ HB hw168_2), (hc_ HB hw169_0), (hc_ HB hw169_1), (hc_ HB hw169_2)⟩ (fun hHeld => ?_)
            clear hK K
            refine nz_ 21 ?_
            refine pz_ 7 22 ba5_8 HT_ ?_
            refine pz_ 8 23 ba5_9 HT_ ?_
            refine pz_ 9 24 ba5_10 HT_ ?_
            refine pz_ 11 26 ba5_11 HT_ ?_
            refine pt_ 10 25 ba5_12 HT_ HW_ hHeld ?_
            refine pz_ 12 27 ba5_13 HT_ ?_
            refine pz_ 13 28 ba5_14 HT_ ?_
            refine pt_ 14 29 ba5_15 HT_ HW_ hHeld ?_
            refine one_ (i := 15) (N := some 30) ba5_16 rfl rfl (one_of HT_.out (by kernel_rfl)) (by decide) (fun K hK => ?_)
            refine gz_ Try.func50 #[.int .i64 ((rd_T43 l0_0 x3_1).f1), .int .i64 0, .int .i64 999] ?_
            with_reducible refine (spec_l01In.calls ((rd_T43 l0_0 x3_1).f1) 0 999 true _ A11.out).mono ?_
            rintro e w' ⟨rfl, ⟨nd, rfl⟩⟩
            refine ⟨_, rfl, ?_⟩
            refine hK.out _ _ ⟨(blk_cell BK163.out 0).trans rfl, (hc_ HB hw164_0), (hc_ HB hw164_1), (hc_ HB hw164_2), (hc_ HB hw166_0), (hc_ HB hw166_1), (hc_ HB hw166_2), (hc_ HB hw168_0), (hc_ HB hw168_1), (hc_ HB hw168_2), (hc_ HB hw169_0), (hc_ HB hw169_1), (hc_ HB hw169_2)⟩ (fun hHeld => ?_)
            clear hK K
            refine nz_ 30 ?_
            refine pz_ 16 31 ba5_17 HT_ ?_
            refine pz_ 17 32 ba5_18 HT_ ?_
            refine pz_ 18 33 ba5_19 HT_ ?_
            refine pz_ 19 34 ba5_20 HT_ ?_
            refine pz_ 20 35 ba5_21 HT_ ?_
            refine pz_ 21 36 ba5_22 HT_ ?_
            refine pz_ 22 37 ba5_23 HT_ ?_
            refine pz_ 24 39 ba5_24 HT_ ?_
            refine pz_ 25 40 ba5_25 HT_ ?_
            refine pz_ 29 44 ba5_26 HT_ ?_
            refine pz_ 31 46 ba5_27 HT_ ?_
            refine pt_ 23 38 ba5_28 HT_ HW_ hHeld ?_
            refine pz_ 26 41 ba5_29 HT_ ?_
            refine pz_ 27 42 ba5_30 HT_ ?_
            refine pt_ 28 43 ba5_31 HT_ HW_ hHeld ?_
            refine pt_ 30 45 ba5_32 HT_ HW_ hHeld ?_
            refine pz_ 32 47 ba5_33 HT_ ?_
            refine pz_ 33 48 ba5_34 HT_ ?_
            refine pt_ 34 49 ba5_35 HT_ HW_ hHeld ?_
            refine one_ (i := 35) (N := some 50) ba5_36 rfl rfl (one_of HT_.out (by kernel_rfl)) (by decide) (fun K hK => ?_)
            refine goes_ Try.func37 (by kernel_rfl) rfl #[.agg #[.int .i64 ((rd_T43 l0_0 (ji14)).f0.f0), .int .i64 ((rd_T43 l0_0 (ji14)).f0.f1)], .agg #[.int .i64 ((rd_T43 l0_0 x3_1).f0.f0), .int .i64 ((rd_T43 l0_0 x3_1).f0.f1)]] (by rfl) rfl rfl (by (try simp only [List.map_toArray, List.map_cons, List.map_nil]); first | done | (simp only [hji14]; rfl) | rfl | (simp only [List.length_drop, List.length_take]; rfl)) ?_
            with_reducible refine (spec_l02Ahead.calls ((rd_T43 l0_0 (ji14)).f0.f0) ((rd_T43 l0_0 (ji14)).f0.f1) ((rd_T43 l0_0 x3_1).f0.f0) ((rd_T43 l0_0 x3_1).f0.f1) false _ A17.out).mono ?_
            rintro e w26 ⟨rfl, hb⟩
            refine ⟨_, rfl, ?_⟩
            replace BK163 := Aside0.mk (bb_ BK163 hb)
            replace HB := Aside0.mk (bt_ HB hb)
            (try clear hb)
            (try clear hb2)
            (try clear hk)
            (try clear hi)
            refine hK.out _ _ ⟨(blk_cell BK163.out 0).trans rfl, (hc_ HB hw164_0), (hc_ HB hw164_1), (hc_ HB hw164_2), (hc_ HB hw166_0), (hc_ HB hw166_1), (hc_ HB hw166_2), (hc_ HB hw168_0), (hc_ HB hw168_1), (hc_ HB hw168_2), (hc_ HB hw169_0), (hc_ HB hw169_1), (hc_ HB hw169_2)⟩ (fun hHeld => ?_)
            clear hK K
            refine nz_ 50 ?_
            refine pz_ 36 51 ba5_37 HT_ ?_
            refine pz_ 37 52 ba5_38 HT_ ?_
            refine pz_ 38 53 ba5_39 HT_ ?_
            refine done_ (done_of HT_.out (by kernel_rfl)) ?_
            try go_wp2
            go_ret
            exact ⟨by first | rfl | (simp [errW_none, errW_some] <;> rfl) | (simp only [← hji14]; first | rfl | (simp [errW_none, errW_some] <;> rfl)) | (simp [*, errW_none, errW_some] <;> rfl), by repeat (first | (with_reducible first | exact HB.out | apply below_alloc | apply pw_below_drewN | apply below_drew1 | refine below_set ?_ GE163.out) | exact HB.out)⟩
          ·rw [if_neg c16] at H
           exact absurd H (by simp)
         ·rw [if_neg c15] at H
          exact absurd H (by simp)
        ·rw [if_neg c13] at H
         have c13b0 : decide (0 < x3_1) = false := decide_eq_false c13
         clear c13
         have H' := Aside0.mk H
         clear H
         have hcz27_0 := cz_ BK163 0 (.slice A0_0 l0_0.length c0_0)
         have hfz27_0 := blk_frozen BK163.out 0
         try go_wp2
         replace BK163 := Aside0.mk (blk_drew BK163.out)
         replace HB := Aside0.mk (below_drew1 HB.out)
         have p164 : 0 ≤ (x3_1 : Int) := of_decide_eq_true (by first | (with_reducible assumption) | assumption)
         have q164 : x3_1 < (l0_0.length : Int) := of_decide_eq_true (by first | (with_reducible assumption) | assumption)
         obtain ⟨ad164, e164, hx164_0, hx164_1, hx164_2⟩ := at_T43 HR0_0.out x3_1 p164 q164
         have hw164_2 := hx164_2
         have hw164_1 := hx164_1
         have hw164_0 := hx164_0
         cases e164
         replace hx164_0 := (HB.out.cell (World.block_lt_of_cell? w _ hx164_0)).trans hx164_0
         replace hx164_1 := (HB.out.cell (World.block_lt_of_cell? w _ hx164_1)).trans hx164_1
         replace hx164_2 := (HB.out.cell (World.block_lt_of_cell? w _ hx164_2)).trans hx164_2
         replace p164 := eq_true p164
         replace q164 := eq_true q164
         have p166 : 0 ≤ (x3_1 : Int) := of_decide_eq_true (by first | (with_reducible assumption) | assumption)
         have q166 : x3_1 < (l0_0.length : Int) := of_decide_eq_true (by first | (with_reducible assumption) | assumption)
         obtain ⟨ad166, e166, hx166_0, hx166_1, hx166_2⟩ := at_T43 HR0_0.out x3_1 p166 q166
         have hw166_2 := hx166_2
         have hw166_1 := hx166_1
         have hw166_0 := hx166_0
         obtain rfl : ad164 = ad166 := (by injection e166)
         replace hx166_0 := (HB.out.cell (World.block_lt_of_cell? w _ hx166_0)).trans hx166_0
         replace hx166_1 := (HB.out.cell (World.block_lt_of_cell? w _ hx166_1)).trans hx166_1
         replace hx166_2 := (HB.out.cell (World.block_lt_of_cell? w _ hx166_2)).trans hx166_2
         replace p166 := eq_true p166
         replace q166 := eq_true q166
         refine start_ (n := 39) (S := fun w' => w'.cell? ⟨gb163, 0, none⟩ = some (.slice (some ad164) l0_0.length c0_0) ∧ w'.cell? (ad164.add ((x3_1).toNat * 3)) = some (.int .i64 ((rd_T43 l0_0 x3_1).f0.f0)) ∧ w'.cell? ⟨(ad164.add ((x3_1).toNat * 3)).block, (ad164.add ((x3_1).toNat * 3)).off + 1, none⟩ = some (.int .i64 ((rd_T43 l0_0 x3_1).f0.f1)) ∧ w'.cell? ⟨(ad164.add ((x3_1).toNat * 3)).block, (ad164.add ((x3_1).toNat * 3)).off + 2, none⟩ = some (.int .i64 ((rd_T43 l0_0 x3_1).f1)) ∧ w'.cell? (ad164.add ((x3_1).toNat * 3)) = some (.int .i64 ((rd_T43 l0_0 x3_1).f0.f0)) ∧ w'.cell? ⟨(ad164.add ((x3_1).toNat * 3)).block, (ad164.add ((x3_1).toNat * 3)).off + 1, none⟩ = some (.int .i64 ((rd_T43 l0_0 x3_1).f0.f1)) ∧ w'.cell? ⟨(ad164.add ((x3_1).toNat * 3)).block, (ad164.add ((x3_1).toNat * 3)).off + 2, none⟩ = some (.int .i64 ((rd_T43 l0_0 x3_1).f1))) (ds := []) ba5_0 (by kernel_rfl) rfl rfl ⟨(blk_cell BK163.out 0).trans rfl, (hc_ HB hw164_0), (hc_ HB hw164_1), (hc_ HB hw164_2), (hc_ HB hw166_0), (hc_ HB hw166_1), (hc_ HB hw166_2)⟩ (fun hHeld => ?_); refine with_tabW spec_TableOk.tab6 spec_TableOk.bits6 (fun HT_ HW_ => ?_)
         generalize wr.drew = w28 at BK163 HB hx164_0 hx164_1 hx164_2 hx166_0 hx166_1 hx166_2 hHeld ⊢
         refine pz_ 0 15 ba5_1 HT_ ?_
         refine pz_ 2 17 ba5_2 HT_ ?_
         refine pt_ 1 16 ba5_3 HT_ HW_ hHeld ?_
         refine pz_ 3 18 ba5_4 HT_ ?_
         refine pz_ 4 19 ba5_5 HT_ ?_
         refine pt_ 5 20 ba5_6 HT_ HW_ hHeld ?_
         refine one_ (i := 6) (N := some 21) ba5_7 rfl rfl (one_of HT_.out (by kernel_rfl)) (by decide) (fun K hK => ?_)
         refine gz_ Try.func49 #[.agg #[.int .i64 ((rd_T43 l0_0 x3_1).f0.f0), .int .i64 ((rd_T43 l0_0 x3_1).f0.f1)]] ?_
         with_reducible refine (spec_PrefixOk.calls ((rd_T43 l0_0 x3_1).f0.f0) ((rd_T43 l0_0 x3_1).f0.f1) true _ A9.out).mono ?_
         rintro e w29 ⟨rfl, hb⟩
         refine ⟨_, rfl, ?_⟩
         replace BK163 := Aside0.mk (bb_ BK163 hb)
         replace HB := Aside0.mk (bt_ HB hb)
         (try clear hb)
         (try clear hb2)
         (try clear hk)
         (try clear hi)
         refine hK.out _ _ ⟨(blk_cell BK163.out 0).trans rfl, (hc_ HB hw164_0), (hc_ HB hw164_1), (hc_ HB hw164_2), (hc_ HB hw166_0), (hc_ HB hw166_1), (hc_ HB hw166_2)⟩ (fun hHeld => ?_)
         clear hK K
         refine nz_ 21 ?_
         refine pz_ 7 22 ba5_8 HT_ ?_
         refine pz_ 8 23 ba5_9 HT_ ?_
         refine pz_ 9 24 ba5_10 HT_ ?_
         refine pz_ 11 26 ba5_11 HT_ ?_
         refine pt_ 10 25 ba5_12 HT_ HW_ hHeld ?_
         refine pz_ 12 27 ba5_13 HT_ ?_
         refine pz_ 13 28 ba5_14 HT_ ?_
         refine pt_ 14 29 ba5_15 HT_ HW_ hHeld ?_
         refine one_ (i := 15) (N := some 30) ba5_16 rfl rfl (one_of HT_.out (by kernel_rfl)) (by decide) (fun K hK => ?_)
         refine gz_ Try.func50 #[.int .i64 ((rd_T43 l0_0 x3_1).f1), .int .i64 0, .int .i64 999] ?_
         with_reducible refine (spec_l01In.calls ((rd_T43 l0_0 x3_1).f1) 0 999 true _ A11.out).mono ?_
         rintro e w' ⟨rfl, ⟨nd, rfl⟩⟩
         refine ⟨_, rfl, ?_⟩
         refine hK.out _ _ ⟨(blk_cell BK163.out 0).trans rfl, (hc_ HB hw164_0), (hc_ HB hw164_1), (hc_ HB hw164_2), (hc_ HB hw166_0), (hc_ HB hw166_1), (hc_ HB hw166_2)⟩ (fun hHeld => ?_)
         clear hK K
         refine nz_ 30 ?_
         refine pz_ 16 31 ba5_17 HT_ ?_
         refine pz_ 17 32 ba5_18 HT_ ?_
         refine pz_ 18 33 ba5_19 HT_ ?_
         refine pz_ 19 34 ba5_20 HT_ ?_
         refine pz_ 20 35 ba5_21 HT_ ?_
         refine pz_ 21 36 ba5_22 HT_ ?_
         refine pu_ 22 37 ba5_23 HT_ ?_
         refine pu_ 23 38 ba5_40 HT_ ?_
         refine pu_ 24 39 ba5_41 HT_ ?_
         refine pu_ 25 40 ba5_42 HT_ ?_
         refine pu_ 26 41 ba5_43 HT_ ?_
         refine pu_ 27 42 ba5_44 HT_ ?_
         refine pu_ 28 43 ba5_45 HT_ ?_
         refine pu_ 29 44 ba5_46 HT_ ?_
         refine pu_ 30 45 ba5_47 HT_ ?_
         refine pu_ 31 46 ba5_32 HT_ ?_
         refine pu_ 32 47 ba5_33 HT_ ?_
         refine pu_ 33 48 ba5_34 HT_ ?_
         refine pu_ 34 49 ba5_35 HT_ ?_
         refine pu_ 35 50 ba5_36 HT_ ?_
         refine pu_ 36 51 ba5_37 HT_ ?_
         refine pz_ 37 52 ba5_38 HT_ ?_
         refine pz_ 38 53 ba5_39 HT_ ?_
         refine done_ (done_of HT_.out (by kernel_rfl)) ?_
         try go_wp2
         go_roundg k1
         case measure => have := HK1.out; omega
         case rel => exact ⟨(wrap64 (x3_1 + 1)), (by first | rfl | (simp; done) | (simp [*]; done)), H', ⟨by have := HK1.out; omega⟩, ⟨by (with_reducible repeat (first | refine blk_drewN ?_ _ | refine blk_drew ?_ | refine blk_alloc ?_ _)); exact BK163.out⟩, ⟨by repeat (first | (with_reducible first | exact HB.out | apply below_alloc | apply pw_below_drewN | apply below_drew1 | refine below_set ?_ GE163.out) | exact HB.out)⟩⟩
       ·replace c12 := Bool.eq_false_iff.mpr c12
        subst c12
        rw [if_neg (show ¬ (false = true) by decide)] at H
        obtain rfl := Option.some.inj H
        have hcz30_0 := cz_ BK163 0 (.slice A0_0 l0_0.length c0_0)
        have hfz30_0 := blk_frozen BK163.out 0
        try go_wp2
        replace BK163 := Aside0.mk (blk_drew BK163.out)
        replace HB := Aside0.mk (below_drew1 HB.out)
        have p164 : 0 ≤ (x3_1 : Int) := of_decide_eq_true (by first | (with_reducible assumption) | assumption)
        have q164 : x3_1 < (l0_0.length : Int) := of_decide_eq_true (by first | (with_reducible assumption) | assumption)
        obtain ⟨ad164, e164, hx164_0, hx164_1, hx164_2⟩ := at_T43 HR0_0.out x3_1 p164 q164
        have hw164_2 := hx164_2
        have hw164_1 := hx164_1
        have hw164_0 := hx164_0
        cases e164
        replace hx164_0 := (HB.out.cell (World.block_lt_of_cell? w _ hx164_0)).trans hx164_0
        replace hx164_1 := (HB.out.cell (World.block_lt_of_cell? w _ hx164_1)).trans hx164_1
        replace hx164_2 := (HB.out.cell (World.block_lt_of_cell? w _ hx164_2)).trans hx164_2
        replace p164 := eq_true p164
        replace q164 := eq_true q164
        have p166 : 0 ≤ (x3_1 : Int) := of_decide_eq_true (by first | (with_reducible assumption) | assumption)
        have q166 : x3_1 < (l0_0.length : Int) := of_decide_eq_true (by first | (with_reducible assumption) | assumption)
        obtain ⟨ad166, e166, hx166_0, hx166_1, hx166_2⟩ := at_T43 HR0_0.out x3_1 p166 q166
        have hw166_2 := hx166_2
        have hw166_1 := hx166_1
        have hw166_0 := hx166_0
        obtain rfl : ad164 = ad166 := (by injection e166)
        replace hx166_0 := (HB.out.cell (World.block_lt_of_cell? w _ hx166_0)).trans hx166_0
        replace hx166_1 := (HB.out.cell (World.block_lt_of_cell? w _ hx166_1)).trans hx166_1
        replace hx166_2 := (HB.out.cell (World.block_lt_of_cell? w _ hx166_2)).trans hx166_2
        replace p166 := eq_true p166
        replace q166 := eq_true q166
        refine start_ (n := 39) (S := fun w' => w'.cell? ⟨gb163, 0, none⟩ = some (.slice (some ad164) l0_0.length c0_0) ∧ w'.cell? (ad164.add ((x3_1).toNat * 3)) = some (.int .i64 ((rd_T43 l0_0 x3_1).f0.f0)) ∧ w'.cell? ⟨(ad164.add ((x3_1).toNat * 3)).block, (ad164.add ((x3_1).toNat * 3)).off + 1, none⟩ = some (.int .i64 ((rd_T43 l0_0 x3_1).f0.f1)) ∧ w'.cell? ⟨(ad164.add ((x3_1).toNat * 3)).block, (ad164.add ((x3_1).toNat * 3)).off + 2, none⟩ = some (.int .i64 ((rd_T43 l0_0 x3_1).f1)) ∧ w'.cell? (ad164.add ((x3_1).toNat * 3)) = some (.int .i64 ((rd_T43 l0_0 x3_1).f0.f0)) ∧ w'.cell? ⟨(ad164.add ((x3_1).toNat * 3)).block, (ad164.add ((x3_1).toNat * 3)).off + 1, none⟩ = some (.int .i64 ((rd_T43 l0_0 x3_1).f0.f1)) ∧ w'.cell? ⟨(ad164.add ((x3_1).toNat * 3)).block, (ad164.add ((x3_1).toNat * 3)).off + 2, none⟩ = some (.int .i64 ((rd_T43 l0_0 x3_1).f1))) (ds := []) ba5_0 (by kernel_rfl) rfl rfl ⟨(blk_cell BK163.out 0).trans rfl, (hc_ HB hw164_0), (hc_ HB hw164_1), (hc_ HB hw164_2), (hc_ HB hw166_0), (hc_ HB hw166_1), (hc_ HB hw166_2)⟩ (fun hHeld => ?_); refine with_tabW spec_TableOk.tab6 spec_TableOk.bits6 (fun HT_ HW_ => ?_)
        generalize wr.drew = w31 at BK163 HB hx164_0 hx164_1 hx164_2 hx166_0 hx166_1 hx166_2 hHeld ⊢
        refine pz_ 0 15 ba5_1 HT_ ?_
        refine pz_ 2 17 ba5_2 HT_ ?_
        refine pt_ 1 16 ba5_3 HT_ HW_ hHeld ?_
        refine pz_ 3 18 ba5_4 HT_ ?_
        refine pz_ 4 19 ba5_5 HT_ ?_
        refine pt_ 5 20 ba5_6 HT_ HW_ hHeld ?_
        refine one_ (i := 6) (N := some 21) ba5_7 rfl rfl (one_of HT_.out (by kernel_rfl)) (by decide) (fun K hK => ?_)
        refine gz_ Try.func49 #[.agg #[.int .i64 ((rd_T43 l0_0 x3_1).f0.f0), .int .i64 ((rd_T43 l0_0 x3_1).f0.f1)]] ?_
        with_reducible refine (spec_PrefixOk.calls ((rd_T43 l0_0 x3_1).f0.f0) ((rd_T43 l0_0 x3_1).f0.f1) true _ A9.out).mono ?_
        rintro e w32 ⟨rfl, hb⟩
        refine ⟨_, rfl, ?_⟩
        replace BK163 := Aside0.mk (bb_ BK163 hb)
        replace HB := Aside0.mk (bt_ HB hb)
        (try clear hb)
        (try clear hb2)
        (try clear hk)
        (try clear hi)
        refine hK.out _ _ ⟨(blk_cell BK163.out 0).trans rfl, (hc_ HB hw164_0), (hc_ HB hw164_1), (hc_ HB hw164_2), (hc_ HB hw166_0), (hc_ HB hw166_1), (hc_ HB hw166_2)⟩ (fun hHeld => ?_)
        clear hK K
        refine nz_ 21 ?_
        refine pz_ 7 22 ba5_8 HT_ ?_
        refine pz_ 8 23 ba5_9 HT_ ?_
        refine pz_ 9 24 ba5_10 HT_ ?_
        refine pz_ 11 26 ba5_11 HT_ ?_
        refine pt_ 10 25 ba5_12 HT_ HW_ hHeld ?_
        refine pz_ 12 27 ba5_13 HT_ ?_
        refine pz_ 13 28 ba5_14 HT_ ?_
        refine pt_ 14 29 ba5_15 HT_ HW_ hHeld ?_
        refine one_ (i := 15) (N := some 30) ba5_16 rfl rfl (one_of HT_.out (by kernel_rfl)) (by decide) (fun K hK => ?_)
        refine gz_ Try.func50 #[.int .i64 ((rd_T43 l0_0 x3_1).f1), .int .i64 0, .int .i64 999] ?_
        with_reducible refine (spec_l01In.calls ((rd_T43 l0_0 x3_1).f1) 0 999 false _ A11.out).mono ?_
        rintro e w' ⟨rfl, ⟨nd, rfl⟩⟩
        refine ⟨_, rfl, ?_⟩
        refine hK.out _ _ ⟨(blk_cell BK163.out 0).trans rfl, (hc_ HB hw164_0), (hc_ HB hw164_1), (hc_ HB hw164_2), (hc_ HB hw166_0), (hc_ HB hw166_1), (hc_ HB hw166_2)⟩ (fun hHeld => ?_)
        clear hK K
        refine nz_ 30 ?_
        refine pz_ 16 31 ba5_17 HT_ ?_
        refine pz_ 17 32 ba5_18 HT_ ?_
        refine pz_ 18 33 ba5_19 HT_ ?_
        refine pu_ 19 34 ba5_20 HT_ ?_
        refine pu_ 20 35 ba5_21 HT_ ?_
        refine pu_ 21 36 ba5_22 HT_ ?_
        refine pu_ 22 37 ba5_23 HT_ ?_
        refine pu_ 23 38 ba5_40 HT_ ?_
        refine pu_ 24 39 ba5_41 HT_ ?_
        refine pu_ 25 40 ba5_42 HT_ ?_
        refine pu_ 26 41 ba5_43 HT_ ?_
        refine pu_ 27 42 ba5_44 HT_ ?_
        refine pu_ 28 43 ba5_45 HT_ ?_
        refine pu_ 29 44 ba5_46 HT_ ?_
        refine pu_ 30 45 ba5_47 HT_ ?_
        refine pu_ 31 46 ba5_32 HT_ ?_
        refine pu_ 32 47 ba5_33 HT_ ?_
        refine pu_ 33 48 ba5_34 HT_ ?_
        refine pu_ 34 49 ba5_35 HT_ ?_
        refine pu_ 35 50 ba5_36 HT_ ?_
        refine pu_ 36 51 ba5_37 HT_ ?_
        refine pu_ 37 52 ba5_38 HT_ ?_
        refine pz_ 38 53 ba5_39 HT_ ?_
        refine done_ (done_of HT_.out (by kernel_rfl)) ?_
        try go_wp2
        go_ret
        exact ⟨by first | rfl | (simp [errW_none, errW_some] <;> rfl) | (simp [*, errW_none, errW_some] <;> rfl), by repeat (first | (with_reducible first | exact HB.out | apply below_alloc | apply pw_below_drewN | apply below_drew1 | refine below_set ?_ GE163.out) | exact HB.out)⟩
      ·replace c10 := Bool.eq_false_iff.mpr c10
       subst c10
       rw [if_neg (show ¬ (false = true) by decide)] at H
       obtain rfl := Option.some.inj H
       have hcz33_0 := cz_ BK163 0 (.slice A0_0 l0_0.length c0_0)
       have hfz33_0 := blk_frozen BK163.out 0
       try go_wp2
       replace BK163 := Aside0.mk (blk_drew BK163.out)
       replace HB := Aside0.mk (below_drew1 HB.out)
       have p164 : 0 ≤ (x3_1 : Int) := of_decide_eq_true (by first | (with_reducible assumption) | assumption)
       have q164 : x3_1 < (l0_0.length : Int) := of_decide_eq_true (by first | (with_reducible assumption) | assumption)
       obtain ⟨ad164, e164, hx164_0, hx164_1, hx164_2⟩ := at_T43 HR0_0.out x3_1 p164 q164
       have hw164_2 := hx164_2
       have hw164_1 := hx164_1
       have hw164_0 := hx164_0
       cases e164
       replace hx164_0 := (HB.out.cell (World.block_lt_of_cell? w _ hx164_0)).trans hx164_0
       replace hx164_1 := (HB.out.cell (World.block_lt_of_cell? w _ hx164_1)).trans hx164_1
       replace hx164_2 := (HB.out.cell (World.block_lt_of_cell? w _ hx164_2)).trans hx164_2
       replace p164 := eq_true p164
       replace q164 := eq_true q164
       refine start_ (n := 39) (S := fun w' => w'.cell? ⟨gb163, 0, none⟩ = some (.slice (some ad164) l0_0.length c0_0) ∧ w'.cell? (ad164.add ((x3_1).toNat * 3)) = some (.int .i64 ((rd_T43 l0_0 x3_1).f0.f0)) ∧ w'.cell? ⟨(ad164.add ((x3_1).toNat * 3)).block, (ad164.add ((x3_1).toNat * 3)).off + 1, none⟩ = some (.int .i64 ((rd_T43 l0_0 x3_1).f0.f1)) ∧ w'.cell? ⟨(ad164.add ((x3_1).toNat * 3)).block, (ad164.add ((x3_1).toNat * 3)).off + 2, none⟩ = some (.int .i64 ((rd_T43 l0_0 x3_1).f1))) (ds := []) ba5_0 (by kernel_rfl) rfl rfl ⟨(blk_cell BK163.out 0).trans rfl, (hc_ HB hw164_0), (hc_ HB hw164_1), (hc_ HB hw164_2)⟩ (fun hHeld => ?_); refine with_tabW spec_TableOk.tab6 spec_TableOk.bits6 (fun HT_ HW_ => ?_)
       generalize wr.drew = w34 at BK163 HB hx164_0 hx164_1 hx164_2 hHeld ⊢
       refine pz_ 0 15 ba5_1 HT_ ?_
       refine pz_ 2 17 ba5_2 HT_ ?_
       refine pt_ 1 16 ba5_3 HT_ HW_ hHeld ?_
       refine pz_ 3 18 ba5_4 HT_ ?_
       refine pz_ 4 19 ba5_5 HT_ ?_
       refine pt_ 5 20 ba5_6 HT_ HW_ hHeld ?_
       refine one_ (i := 6) (N := some 21) ba5_7 rfl rfl (one_of HT_.out (by kernel_rfl)) (by decide) (fun K hK => ?_)
       refine gz_ Try.func49 #[.agg #[.int .i64 ((rd_T43 l0_0 x3_1).f0.f0), .int .i64 ((rd_T43 l0_0 x3_1).f0.f1)]] ?_
       with_reducible refine (spec_PrefixOk.calls ((rd_T43 l0_0 x3_1).f0.f0) ((rd_T43 l0_0 x3_1).f0.f1) false _ A9.out).mono ?_
       rintro e w35 ⟨rfl, hb⟩
       refine ⟨_, rfl, ?_⟩
       replace BK163 := Aside0.mk (bb_ BK163 hb)
       replace HB := Aside0.mk (bt_ HB hb)
       (try clear hb)
       (try clear hb2)
       (try clear hk)
       (try clear hi)
       refine hK.out _ _ ⟨(blk_cell BK163.out 0).trans rfl, (hc_ HB hw164_0), (hc_ HB hw164_1), (hc_ HB hw164_2)⟩ (fun hHeld => ?_)
       clear hK K
       refine nz_ 21 ?_
       refine pz_ 7 22 ba5_8 HT_ ?_
       refine pz_ 8 23 ba5_9 HT_ ?_
       refine pu_ 9 24 ba5_10 HT_ ?_
       refine pu_ 10 25 ba5_48 HT_ ?_
       refine pu_ 11 26 ba5_12 HT_ ?_
       refine pu_ 12 27 ba5_13 HT_ ?_
       refine pu_ 13 28 ba5_14 HT_ ?_
       refine pu_ 14 29 ba5_15 HT_ ?_
       refine pu_ 15 30 ba5_16 HT_ ?_
       refine pu_ 16 31 ba5_17 HT_ ?_
       refine pz_ 17 32 ba5_18 HT_ ?_
       refine pz_ 18 33 ba5_19 HT_ ?_
       refine pu_ 19 34 ba5_20 HT_ ?_
       refine pu_ 20 35 ba5_21 HT_ ?_
       refine pu_ 21 36 ba5_22 HT_ ?_
       refine pu_ 22 37 ba5_23 HT_ ?_
       refine pu_ 23 38 ba5_40 HT_ ?_
       refine pu_ 24 39 ba5_41 HT_ ?_
       refine pu_ 25 40 ba5_42 HT_ ?_
       refine pu_ 26 41 ba5_43 HT_ ?_
       refine pu_ 27 42 ba5_44 HT_ ?_
       refine pu_ 28 43 ba5_45 HT_ ?_
       refine pu_ 29 44 ba5_46 HT_ ?_
       refine pu_ 30 45 ba5_47 HT_ ?_
       refine pu_ 31 46 ba5_32 HT_ ?_
       refine pu_ 32 47 ba5_33 HT_ ?_
       refine pu_ 33 48 ba5_34 HT_ ?_
       refine pu_ 34 49 ba5_35 HT_ ?_
       refine pu_ 35 50 ba5_36 HT_ ?_
       refine pu_ 36 51 ba5_37 HT_ ?_
       refine pu_ 37 52 ba5_38 HT_ ?_
       refine pz_ 38 53 ba5_39 HT_ ?_
       refine done_ (done_of HT_.out (by kernel_rfl)) ?_
       try go_wp2
       go_ret
       exact ⟨by first | rfl | (simp [errW_none, errW_some] <;> rfl) | (simp [*, errW_none, errW_some] <;> rfl), by repeat (first | (with_reducible first | exact HB.out | apply below_alloc | apply pw_below_drewN | apply below_drew1 | refine below_set ?_ GE163.out) | exact HB.out)⟩
     ·rw [if_neg c8] at H
      exact absurd H (by simp)
    ·rw [if_neg c7] at H
     have c7b0 : decide (x3_1 < (l0_0.length : Int)) = false := decide_eq_false c7
     clear c7
     obtain rfl := Option.some.inj H
     have hcz36_0 := cz_ BK163 0 (.slice A0_0 l0_0.length c0_0)
     have hfz36_0 := blk_frozen BK163.out 0
     go_wp2
     go_ret
     exact ⟨by first | rfl | (simp [errW_none, errW_some] <;> rfl) | (simp [*, errW_none, errW_some] <;> rfl), by repeat (first | (with_reducible first | exact HB.out | apply below_alloc | apply pw_below_drewN | apply below_drew1 | refine below_set ?_ GE163.out) | exact HB.out)⟩

end Go.Proofs.Ytflfbaofgfandaa.QFnExactPutRoute
