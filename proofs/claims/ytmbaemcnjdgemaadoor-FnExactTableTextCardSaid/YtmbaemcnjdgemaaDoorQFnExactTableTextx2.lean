/- Contracts of functions that the law reaches: what each call returns and what it leaves in memory. Made by this session over the print of the kit. -/
import Derived.Test.YtmbaemcnjdgemaaDoorQFnExactTableTextx0
import Derived.Test.YtmbaemcnjdgemaaDoorQFnExactTableTextx1
namespace Go.Proofs.YtmbaemcnjdgemaaDoor.QFnExactTableText
open Go.RowKit Go.Proofs.YtmbaemcnjdgemaaDoorC.PrintWords Go.Proofs.YtmbaemcnjdgemaaDoorC.PrintLast Go.Proofs.YtmbaemcnjdgemaaDoorC.PrintMore
attribute [local go_sem] max2_int min2_int max_two min_two max_three min_three max_four min_four   -- for this text's walks alone
set_option linter.unusedVariables false
set_option linter.unusedSimpArgs false
def ba2_0 : Array Bool := #[false, false, false, false, false, false, false, false, false, false, false, false, false, false, false, false, false, false, false, false, false, false, false, false, false, false, false, false, false, false, false, false, false, false, false, false, false, false, false]
def ba2_1 : Array Bool := #[true, false, false, false, false, false, false, false, false, false, false, false, false, false, false, false, false, false, false, false, false, false, false, false, false, false, false, false, false, false, false, false, false, false, false, false, false, false, false]
def ba2_2 : Array Bool := #[true, false, true, false, false, false, false, false, false, false, false, false, false, false, false, false, false, false, false, false, false, false, false, false, false, false, false, false, false, false, false, false, false, false, false, false, false, false, false]
def ba2_3 : Array Bool := #[true, true, true, false, false, false, false, false, false, false, false, false, false, false, false, false, false, false, false, false, false, false, false, false, false, false, false, false, false, false, false, false, false, false, false, false, false, false, false]
def ba2_4 : Array Bool := #[true, true, true, true, false, false, false, false, false, false, false, false, false, false, false, false, false, false, false, false, false, false, false, false, false, false, false, false, false, false, false, false, false, false, false, false, false, false, false]
def ba2_5 : Array Bool := #[true, true, true, true, true, false, false, false, false, false, false, false, false, false, false, false, false, false, false, false, false, false, false, false, false, false, false, false, false, false, false, false, false, false, false, false, false, false, false]
def ba2_6 : Array Bool := #[true, true, true, true, true, true, false, false, false, false, false, false, false, false, false, false, false, false, false, false, false, false, false, false, false, false, false, false, false, false, false, false, false, false, false, false, false, false, false]
def ba2_7 : Array Bool := #[true, true, true, true, true, true, true, false, false, false, false, false, false, false, false, false, false, false, false, false, false, false, false, false, false, false, false, false, false, false, false, false, false, false, false, false, false, false, false]
def ba2_8 : Array Bool := #[true, true, true, true, true, true, true, true, false, false, false, false, false, false, false, false, false, false, false, false, false, false, false, false, false, false, false, false, false, false, false, false, false, false, false, false, false, false, false]
def ba2_9 : Array Bool := #[true, true, true, true, true, true, true, true, true, false, false, false, false, false, false, false, false, false, false, false, false, false, false, false, false, false, false, false, false, false, false, false, false, false, false, false, false, false, false]
def ba2_10 : Array Bool := #[true, true, true, true, true, true, true, true, true, true, false, false, false, false, false, false, false, false, false, false, false, false, false, false, false, false, false, false, false, false, false, false, false, false, false, false, false, false, false]
def ba2_11 : Array Bool := #[true, true, true, true, true, true, true, true, true, true, false, true, false, false, false, false, false, false, false, false, false, false, false, false, false, false, false, false, false, false, false, false, false, false, false, false, false, false, false]
def ba2_12 : Array Bool := #[true, true, true, true, true, true, true, true, true, true, true, true, false, false, false, false, false, false, false, false, false, false, false, false, false, false, false, false, false, false, false, false, false, false, false, false, false, false, false]
def ba2_13 : Array Bool := #[true, true, true, true, true, true, true, true, true, true, true, true, true, false, false, false, false, false, false, false, false, false, false, false, false, false, false, false, false, false, false, false, false, false, false, false, false, false, false]
def ba2_14 : Array Bool := #[true, true, true, true, true, true, true, true, true, true, true, true, true, true, false, false, false, false, false, false, false, false, false, false, false, false, false, false, false, false, false, false, false, false, false, false, false, false, false]
def ba2_15 : Array Bool := #[true, true, true, true, true, true, true, true, true, true, true, true, true, true, true, false, false, false, false, false, false, false, false, false, false, false, false, false, false, false, false, false, false, false, false, false, false, false, false]
def ba2_16 : Array Bool := #[true, true, true, true, true, true, true, true, true, true, true, true, true, true, true, true, false, false, false, false, false, false, false, false, false, false, false, false, false, false, false, false, false, false, false, false, false, false, false]
def ba2_17 : Array Bool := #[true, true, true, true, true, true, true, true, true, true, true, true, true, true, true, true, true, false, false, false, false, false, false, false, false, false, false, false, false, false, false, false, false, false, false, false, false, false, false]
def ba2_18 : Array Bool := #[true, true, true, true, true, true, true, true, true, true, true, true, true, true, true, true, true, true, false, false, false, false, false, false, false, false, false, false, false, false, false, false, false, false, false, false, false, false, false]
def ba2_19 : Array Bool := #[true, true, true, true, true, true, true, true, true, true, true, true, true, true, true, true, true, true, true, false, false, false, false, false, false, false, false, false, false, false, false, false, false, false, false, false, false, false, false]
def ba2_20 : Array Bool := #[true, true, true, true, true, true, true, true, true, true, true, true, true, true, true, true, true, true, true, true, false, false, false, false, false, false, false, false, false, false, false, false, false, false, false, false, false, false, false]
def ba2_21 : Array Bool := #[true, true, true, true, true, true, true, true, true, true, true, true, true, true, true, true, true, true, true, true, true, false, false, false, false, false, false, false, false, false, false, false, false, false, false, false, false, false, false]
def ba2_22 : Array Bool := #[true, true, true, true, true, true, true, true, true, true, true, true, true, true, true, true, true, true, true, true, true, true, false, false, false, false, false, false, false, false, false, false, false, false, false, false, false, false, false]
def ba2_23 : Array Bool := #[true, true, true, true, true, true, true, true, true, true, true, true, true, true, true, true, true, true, true, true, true, true, true, false, false, false, false, false, false, false, false, false, false, false, false, false, false, false, false]
def ba2_24 : Array Bool := #[true, true, true, true, true, true, true, true, true, true, true, true, true, true, true, true, true, true, true, true, true, true, true, false, true, false, false, false, false, false, false, false, false, false, false, false, false, false, false]
def ba2_25 : Array Bool := #[true, true, true, true, true, true, true, true, true, true, true, true, true, true, true, true, true, true, true, true, true, true, true, false, true, true, false, false, false, false, false, false, false, false, false, false, false, false, false]
def ba2_26 : Array Bool := #[true, true, true, true, true, true, true, true, true, true, true, true, true, true, true, true, true, true, true, true, true, true, true, false, true, true, false, false, false, true, false, false, false, false, false, false, false, false, false]
def ba2_27 : Array Bool := #[true, true, true, true, true, true, true, true, true, true, true, true, true, true, true, true, true, true, true, true, true, true, true, false, true, true, false, false, false, true, false, true, false, false, false, false, false, false, false]
def ba2_28 : Array Bool := #[true, true, true, true, true, true, true, true, true, true, true, true, true, true, true, true, true, true, true, true, true, true, true, true, true, true, false, false, false, true, false, true, false, false, false, false, false, false, false]
def ba2_29 : Array Bool := #[true, true, true, true, true, true, true, true, true, true, true, true, true, true, true, true, true, true, true, true, true, true, true, true, true, true, true, false, false, true, false, true, false, false, false, false, false, false, false]
def ba2_30 : Array Bool := #[true, true, true, true, true, true, true, true, true, true, true, true, true, true, true, true, true, true, true, true, true, true, true, true, true, true, true, true, false, true, false, true, false, false, false, false, false, false, false]
def ba2_31 : Array Bool := #[true, true, true, true, true, true, true, true, true, true, true, true, true, true, true, true, true, true, true, true, true, true, true, true, true, true, true, true, true, true, false, true, false, false, false, false, false, false, false]
def ba2_32 : Array Bool := #[true, true, true, true, true, true, true, true, true, true, true, true, true, true, true, true, true, true, true, true, true, true, true, true, true, true, true, true, true, true, true, true, false, false, false, false, false, false, false]
def ba2_33 : Array Bool := #[true, true, true, true, true, true, true, true, true, true, true, true, true, true, true, true, true, true, true, true, true, true, true, true, true, true, true, true, true, true, true, true, true, false, false, false, false, false, false]
def ba2_34 : Array Bool := #[true, true, true, true, true, true, true, true, true, true, true, true, true, true, true, true, true, true, true, true, true, true, true, true, true, true, true, true, true, true, true, true, true, true, false, false, false, false, false]
def ba2_35 : Array Bool := #[true, true, true, true, true, true, true, true, true, true, true, true, true, true, true, true, true, true, true, true, true, true, true, true, true, true, true, true, true, true, true, true, true, true, true, false, false, false, false]
def ba2_36 : Array Bool := #[true, true, true, true, true, true, true, true, true, true, true, true, true, true, true, true, true, true, true, true, true, true, true, true, true, true, true, true, true, true, true, true, true, true, true, true, false, false, false]
def ba2_37 : Array Bool := #[true, true, true, true, true, true, true, true, true, true, true, true, true, true, true, true, true, true, true, true, true, true, true, true, true, true, true, true, true, true, true, true, true, true, true, true, true, false, false]
def ba2_38 : Array Bool := #[true, true, true, true, true, true, true, true, true, true, true, true, true, true, true, true, true, true, true, true, true, true, true, true, true, true, true, true, true, true, true, true, true, true, true, true, true, true, false]
def ba2_39 : Array Bool := #[true, true, true, true, true, true, true, true, true, true, true, true, true, true, true, true, true, true, true, true, true, true, true, true, true, true, true, true, true, true, true, true, true, true, true, true, true, true, true]
def ba2_40 : Array Bool := #[true, true, true, true, true, true, true, true, true, true, true, true, true, true, true, true, true, true, true, true, true, true, true, true, false, false, false, false, false, false, false, false, false, false, false, false, false, false, false]
def ba2_41 : Array Bool := #[true, true, true, true, true, true, true, true, true, true, true, true, true, true, true, true, true, true, true, true, true, true, true, true, true, false, false, false, false, false, false, false, false, false, false, false, false, false, false]
def ba2_42 : Array Bool := #[true, true, true, true, true, true, true, true, true, true, true, true, true, true, true, true, true, true, true, true, true, true, true, true, true, true, false, false, false, false, false, false, false, false, false, false, false, false, false]
def ba2_43 : Array Bool := #[true, true, true, true, true, true, true, true, true, true, true, true, true, true, true, true, true, true, true, true, true, true, true, true, true, true, true, false, false, false, false, false, false, false, false, false, false, false, false]
def ba2_44 : Array Bool := #[true, true, true, true, true, true, true, true, true, true, true, true, true, true, true, true, true, true, true, true, true, true, true, true, true, true, true, true, false, false, false, false, false, false, false, false, false, false, false]
def ba2_45 : Array Bool := #[true, true, true, true, true, true, true, true, true, true, true, true, true, true, true, true, true, true, true, true, true, true, true, true, true, true, true, true, true, false, false, false, false, false, false, false, false, false, false]
def ba2_46 : Array Bool := #[true, true, true, true, true, true, true, true, true, true, true, true, true, true, true, true, true, true, true, true, true, true, true, true, true, true, true, true, true, true, false, false, false, false, false, false, false, false, false]
def ba2_47 : Array Bool := #[true, true, true, true, true, true, true, true, true, true, true, true, true, true, true, true, true, true, true, true, true, true, true, true, true, true, true, true, true, true, true, false, false, false, false, false, false, false, false]
def ba2_48 : Array Bool := #[true, true, true, true, true, true, true, true, true, true, true, false, false, false, false, false, false, false, false, false, false, false, false, false, false, false, false, false, false, false, false, false, false, false, false, false, false, false, false]

/-! ### spec_TableOk: function 42 -/
def spec_TableOk.l0 : Nat → Int → List (S73) → Option (Bool)
 | 0, _, _ => none
 | k + 1, x3, x122000 => if x3 < (x122000.length : Int) then (if 0 ≤ x3 then ((spec_PrefixOk.f ((rd_T73 x122000 x3).f0.f0) ((rd_T73 x122000 x3).f0.f1)).bind fun t123 => (if t123 = true then ((spec_l01In.f ((rd_T73 x122000 x3).f1) 0 999).bind fun t125 => (if t125 = true then (if x3 > 0 then (if 0 ≤ (wrap64 (x3 - 1)) then (if (wrap64 (x3 - 1)) < (x122000.length : Int) then ((spec_l02Ahead.f ((rd_T73 x122000 (wrap64 (x3 - 1))).f0.f0) ((rd_T73 x122000 (wrap64 (x3 - 1))).f0.f1) ((rd_T73 x122000 x3).f0.f0) ((rd_T73 x122000 x3).f0.f1)).bind fun t128 => (if t128 = true then (spec_TableOk.l0 k (wrap64 (x3 + 1)) x122000) else (some false))) else (none)) else (none)) else (spec_TableOk.l0 k (wrap64 (x3 + 1)) x122000)) else (some false))) else (some false))) else (none)) else (some true)
def spec_TableOk.f (k : Nat) (l0_0 : List (S73)) : Option (Bool) := if (l0_0.length : Int) > 120 then (some false) else (spec_TableOk.l0 k 0 l0_0)
theorem spec_TableOk.mono_l : ∀ k, (∀ y0 y1, LeO (spec_TableOk.l0 k y0 y1) (spec_TableOk.l0 (k + 1) y0 y1))
 | 0 => fun _ _ r h => by simp [spec_TableOk.l0] at h
 | k + 1 => by
  have ih0 := spec_TableOk.mono_l k
  ·intro y0 y1
   unfold spec_TableOk.l0
   repeat' first
   | (with_reducible exact ih0 _ _)
   | (with_reducible exact LeO.refl _)
   | (with_reducible exact LeO.none _)
   | (with_reducible refine LeO.ite ?_ ?_)
   | (with_reducible refine LeO.bind ?_ (fun _ => ?_))
   | exact ih0 _ _
   | exact LeO.none _
   | refine LeO.ite ?_ ?_
   | refine LeO.bind ?_ (fun _ => ?_)
theorem spec_TableOk.mono : ∀ a0 k, LeO (spec_TableOk.f k a0) (spec_TableOk.f (k + 1) a0) := by
 intro a0 k
 have ih0 := spec_TableOk.mono_l k
 unfold spec_TableOk.f
 repeat' first
   | (with_reducible exact ih0 _ _)
   | (with_reducible exact LeO.refl _)
   | (with_reducible exact LeO.none _)
   | (with_reducible refine LeO.ite ?_ ?_)
   | (with_reducible refine LeO.bind ?_ (fun _ => ?_))
   | exact ih0 _ _
   | exact LeO.none _
   | refine LeO.ite ?_ ?_
   | refine LeO.bind ?_ (fun _ => ?_)
def spec_TableOk.T6 : Bool × List (List Nat × List Nat) := (true, [([], []), ([0], [0]), ([], []), ([1, 2], [1, 2]), ([3], [3]), ([4], [4]), ([5], [5]), ([6], [6]), ([7, 6], [7]), ([8], [8]), ([9, 8], [8, 9]), ([8], [8]), ([10, 11, 8], [8, 10, 11]), ([12, 8], [8, 12]), ([13, 8], [8, 13]), ([14, 8, 8], [8, 14]), ([15, 8], [8, 15]), ([8, 16], [8, 16]), ([17, 15], [17]), ([18], [18]), ([19, 18], [18, 19]), ([20, 18, 18], [18, 20]), ([21], [21]), ([22, 21], [21, 22]), ([21], [21]), ([24, 21], [21, 24]), ([23, 25, 21], [21, 23, 25]), ([26, 21], [21, 26]), ([27, 21], [21, 27]), ([21], [21]), ([29, 21], [21, 29]), ([21], [21]), ([30, 31, 21], [21, 30, 31]), ([32, 21], [21, 32]), ([33, 21], [21, 33]), ([28, 34, 21, 21], [21, 28, 34]), ([35, 21], [21, 35]), ([21, 36, 18], [18, 21, 36]), ([18, 37], [18, 37])])
def spec_TableOk.B6 : List Nat := [0, 1, 0, 7, 15, 31, 63, 127, 255, 511, 1023, 511, 4095, 8191, 16383, 32767, 65535, 131071, 262143, 524287, 1048575, 2097151, 4194303, 8388607, 4194303, 20971519, 67108863, 134217727, 268435455, 4194303, 541065215, 4194303, 3762290687, 8057257983, 16647192575, 34359738367, 68719476735, 137438953471, 274877906943]
theorem spec_TableOk.tab6 : rtab .any (opsOf Tryd.f42 6) = spec_TableOk.T6 := by kernel_rfl
theorem spec_TableOk.bits6 : waitsOk spec_TableOk.T6.2 spec_TableOk.B6 = true := by kernel_rfl
set_option maxHeartbeats 8000000 in
set_option maxRecDepth 100000 in
theorem spec_TableOk.calls (k : Nat) (A0_0 : Option Addr) (c0_0 : Nat) (l0_0 : List (S73)) (r : Bool) (w : World) (hr0_0 : Kd.C k73 w A0_0 l0_0.length l0_0) (hc0_0 : l0_0.length ≤ c0_0) (h : spec_TableOk.f k l0_0 = some r) :
  Calls Tryd.prog 42 #[.agg #[.slice A0_0 l0_0.length c0_0]] w fun e w' => e = .returned (.bool r) ∧ Below w.heap.size w w' := by
 have hu48 := Tryd.underlying48
 have hu25 := Tryd.underlying25
 have HR0_0 := Aside0.mk hr0_0
 have HC0_0 := Aside0.mk hc0_0
 clear hr0_0 hc0_0
 have HB := Aside0.mk (Below.refl w.heap.size w)
 have H : (if (l0_0.length : Int) > 120 then (some false) else (spec_TableOk.l0 k 0 l0_0)) = some r := h
 clear h
 by_cases c2 : (l0_0.length : Int) > 120
 ·rw [if_pos c2] at H
  have c2b0 : decide (120 < (l0_0.length : Int)) = true := decide_eq_true c2
  have c2b1 : decide (120 < l0_0.length) = true := decide_eq_true (by omega)
  clear c2
  obtain rfl := Option.some.inj H
  go_enter Tryd.func42, Tryd.ntmps42
  go_wp2_with (first | ((with_reducible refine gate_dst (N := 1) rfl ?_); refine box_event ?hg (N := 1) ?hd (cs := #[.slice A0_0 l0_0.length c0_0]) (t := 48) ?hr ?_; (case hd => rfl); (case hg => rfl); (case hr => first | (go_simp; done) | (go_simp; rfl)); intro gb121 hg w3 hbox hb; have BK121 := Aside0.mk hbox; have GW121 := ge_ HB hg; have GE121 := ge_ HB hg; replace HB := Aside0.mk (bt_ HB hb); clear hb hbox hg; have hcz4_0 := cz_ BK121 0 (.slice A0_0 l0_0.length c0_0); have hfz4_0 := blk_frozen BK121.out 0))
  go_ret
  exact ⟨by first | rfl | (simp [errW_none, errW_some] <;> rfl) | (simp [*, errW_none, errW_some] <;> rfl), by repeat (first | (with_reducible first | exact HB.out | apply below_alloc | apply pw_below_drewN | apply below_drew1 | refine below_set ?_ GE121.out) | exact HB.out)⟩
 ·rw [if_neg c2] at H
  have c2b0 : decide (120 < (l0_0.length : Int)) = false := decide_eq_false c2
  have c2b1 : decide (120 < l0_0.length) = false := decide_eq_false (by omega)
  clear c2
  have H' := Aside0.mk H
  clear H
  go_enter Tryd.func42, Tryd.ntmps42
  go_wp2_with (first | ((with_reducible refine gate_dst (N := 1) rfl ?_); refine box_event ?hg (N := 1) ?hd (cs := #[.slice A0_0 l0_0.length c0_0]) (t := 48) ?hr ?_; (case hd => rfl); (case hg => rfl); (case hr => first | (go_simp; done) | (go_simp; rfl)); intro gb121 hg w5 hbox hb; have BK121 := Aside0.mk hbox; have GW121 := ge_ HB hg; have GE121 := ge_ HB hg; replace HB := Aside0.mk (bt_ HB hb); clear hb hbox hg; have hcz6_0 := cz_ BK121 0 (.slice A0_0 l0_0.length c0_0); have hfz6_0 := blk_frozen BK121.out 0))
  go_loopg [3] k (fun kq v3 w' => ∃ (x3_1 : Int), v3 = .int .i64 x3_1 ∧ Aside0 (spec_TableOk.l0 kq x3_1 l0_0 = some r) ∧ Aside0 (kq ≤ k) ∧ Aside0 (w'.heap[gb121]? = some (.cells #[(.slice A0_0 l0_0.length c0_0)] 48 (0, 0))) ∧ Aside0 (Below w.heap.size w w'))
  case atStart => exact ⟨(0), (by first | rfl | (simp; done) | (simp [*]; done)), H', ⟨Nat.le_refl _⟩, ⟨by (with_reducible repeat (first | refine blk_drewN ?_ _ | refine blk_drew ?_ | refine blk_alloc ?_ _)); exact BK121.out⟩, ⟨by repeat (first | (with_reducible first | exact HB.out | apply below_alloc | apply pw_below_drewN | apply below_drew1 | refine below_set ?_ GE121.out) | exact HB.out)⟩⟩
  case round =>
   clear H'
   try clear c2
   try clear c2b0
   try clear c2b1
   try clear p2
   try clear c4
   try clear hcz4_0
   try clear hcz6_0
   try clear hfz4_0
   try clear hfz6_0
   obtain ⟨x3_1, rfl, HA, HK1, BK121, HB⟩ := hrel
   cases gk with
   | zero => exact absurd HA.out (by simp [spec_TableOk.l0])
   | succ k1 =>
    have H := HA.out
    clear HA
    simp only [spec_TableOk.l0] at H
    by_cases c7 : x3_1 < (l0_0.length : Int)
    ·rw [if_pos c7] at H
     have c7b0 : decide (x3_1 < (l0_0.length : Int)) = true := decide_eq_true c7
     clear c7
     by_cases c8 : 0 ≤ x3_1
     ·rw [if_pos c8] at H
      have c8b0 : decide (0 ≤ x3_1) = true := decide_eq_true c8
      clear c8
      replace H := Option.bind_eq_some_iff.mp H
      obtain ⟨t123, A90, H⟩ := H
      have A9 := Aside0.mk A90
      clear A90
      by_cases c10 : t123 = true
      ·subst c10
       rw [if_pos rfl] at H
       replace H := Option.bind_eq_some_iff.mp H
       obtain ⟨t125, A110, H⟩ := H
       have A11 := Aside0.mk A110
       clear A110
       by_cases c12 : t125 = true
       ·subst c12
        rw [if_pos rfl] at H
        by_cases c13 : x3_1 > 0
        ·rw [if_pos c13] at H
         have c13b0 : decide (0 < x3_1) = true := decide_eq_true c13
         clear c13
         obtain ⟨ji14, hji14⟩ : ∃ j_ : Int, (wrap64 (x3_1 - 1)) = j_ := ⟨_, rfl⟩
         first | rw [hji14] at H | simp only [hji14] at H
         (try rw [hji14] at A9)
         (try rw [hji14] at A11)
         have hji14w : (IntKind.i64.wrap (x3_1 - 1)) = ji14 := (i64_w _).trans hji14
         by_cases c15 : 0 ≤ (ji14)
         ·rw [if_pos c15] at H
          have c15b0 : decide (0 ≤ (ji14)) = true := decide_eq_true c15
          clear c15
          by_cases c16 : (ji14) < (l0_0.length : Int)
          ·rw [if_pos c16] at H
           have c16b0 : decide ((ji14) < (l0_0.length : Int)) = true := decide_eq_true c16
           clear c16
           replace H := Option.bind_eq_some_iff.mp H
           obtain ⟨t128, A170, H⟩ := H
           have A17 := Aside0.mk A170
           clear A170
           by_cases c18 : t128 = true
           ·subst c18
            rw [if_pos rfl] at H
            have H' := Aside0.mk H
            clear H
            have hcz19_0 := cz_ BK121 0 (.slice A0_0 l0_0.length c0_0)
            have hfz19_0 := blk_frozen BK121.out 0
            try go_wp2
            replace BK121 := Aside0.mk (blk_drew BK121.out)
            replace HB := Aside0.mk (below_drew1 HB.out)
            have p122 : 0 ≤ (x3_1 : Int) := of_decide_eq_true (by first | (with_reducible assumption) | assumption)
            have q122 : x3_1 < (l0_0.length : Int) := of_decide_eq_true (by first | (with_reducible assumption) | assumption)
            obtain ⟨ad122, e122, hx122_0, hx122_1, hx122_2⟩ := at_T73 HR0_0.out x3_1 p122 q122
            have hw122_2 := hx122_2
            have hw122_1 := hx122_1
            have hw122_0 := hx122_0
            cases e122
            replace hx122_0 := (HB.out.cell (World.block_lt_of_cell? w _ hx122_0)).trans hx122_0
            replace hx122_1 := (HB.out.cell (World.block_lt_of_cell? w _ hx122_1)).trans hx122_1
            replace hx122_2 := (HB.out.cell (World.block_lt_of_cell? w _ hx122_2)).trans hx122_2
            replace p122 := eq_true p122
            replace q122 := eq_true q122
            have p124 : 0 ≤ (x3_1 : Int) := of_decide_eq_true (by first | (with_reducible assumption) | assumption)
            have q124 : x3_1 < (l0_0.length : Int) := of_decide_eq_true (by first | (with_reducible assumption) | assumption)
            obtain ⟨ad124, e124, hx124_0, hx124_1, hx124_2⟩ := at_T73 HR0_0.out x3_1 p124 q124
            have hw124_2 := hx124_2
            have hw124_1 := hx124_1
            have hw124_0 := hx124_0
            obtain rfl : ad122 = ad124 := (by injection e124)
            replace hx124_0 := (HB.out.cell (World.block_lt_of_cell? w _ hx124_0)).trans hx124_0
            replace hx124_1 := (HB.out.cell (World.block_lt_of_cell? w _ hx124_1)).trans hx124_1
            replace hx124_2 := (HB.out.cell (World.block_lt_of_cell? w _ hx124_2)).trans hx124_2
            replace p124 := eq_true p124
            replace q124 := eq_true q124
            have p126 : 0 ≤ ((ji14) : Int) := of_decide_eq_true (by first | (with_reducible assumption) | assumption)
            have q126 : (ji14) < (l0_0.length : Int) := of_decide_eq_true (by first | (with_reducible assumption) | assumption)
            obtain ⟨ad126, e126, hx126_0, hx126_1, hx126_2⟩ := at_T73 HR0_0.out (ji14) p126 q126
            have hw126_2 := hx126_2
            have hw126_1 := hx126_1
            have hw126_0 := hx126_0
            obtain rfl : ad122 = ad126 := (by injection e126)
            replace hx126_0 := (HB.out.cell (World.block_lt_of_cell? w _ hx126_0)).trans hx126_0
            replace hx126_1 := (HB.out.cell (World.block_lt_of_cell? w _ hx126_1)).trans hx126_1
            replace hx126_2 := (HB.out.cell (World.block_lt_of_cell? w _ hx126_2)).trans hx126_2
            replace p126 := eq_true p126
            replace q126 := eq_true q126
            have p127 : 0 ≤ (x3_1 : Int) := of_decide_eq_true (by first | (with_reducible assumption) | assumption)
            have q127 : x3_1 < (l0_0.length : Int) := of_decide_eq_true (by first | (with_reducible assumption) | assumption)
            obtain ⟨ad127, e127, hx127_0, hx127_1, hx127_2⟩ := at_T73 HR0_0.out x3_1 p127 q127
            have hw127_2 := hx127_2
            have hw127_1 := hx127_1
            have hw127_0 := hx127_0
            obtain rfl : ad122 = ad127 := (by injection e127)
            replace hx127_0 := (HB.out.cell (World.block_lt_of_cell? w _ hx127_0)).trans hx127_0
            replace hx127_1 := (HB.out.cell (World.block_lt_of_cell? w _ hx127_1)).trans hx127_1
            replace hx127_2 := (HB.out.cell (World.block_lt_of_cell? w _ hx127_2)).trans hx127_2
            replace p127 := eq_true p127
            replace q127 := eq_true q127
            refine start_ (n := 39) (S := fun w' => w'.cell? ⟨gb121, 0, none⟩ = some (.slice (some ad122) l0_0.length c0_0) ∧ w'.cell? (ad122.add ((x3_1).toNat * 3)) = some (.int .i64 ((rd_T73 l0_0 x3_1).f0.f0)) ∧ w'.cell? ⟨(ad122.add ((x3_1).toNat * 3)).block, (ad122.add ((x3_1).toNat * 3)).off + 1, none⟩ = some (.int .i64 ((rd_T73 l0_0 x3_1).f0.f1)) ∧ w'.cell? ⟨(ad122.add ((x3_1).toNat * 3)).block, (ad122.add ((x3_1).toNat * 3)).off + 2, none⟩ = some (.int .i64 ((rd_T73 l0_0 x3_1).f1)) ∧ w'.cell? (ad122.add ((x3_1).toNat * 3)) = some (.int .i64 ((rd_T73 l0_0 x3_1).f0.f0)) ∧ w'.cell? ⟨(ad122.add ((x3_1).toNat * 3)).block, (ad122.add ((x3_1).toNat * 3)).off + 1, none⟩ = some (.int .i64 ((rd_T73 l0_0 x3_1).f0.f1)) ∧ w'.cell? ⟨(ad122.add ((x3_1).toNat * 3)).block, (ad122.add ((x3_1).toNat * 3)).off + 2, none⟩ = some (.int .i64 ((rd_T73 l0_0 x3_1).f1)) ∧ w'.cell? (ad122.add (((ji14)).toNat * 3)) = some (.int .i64 ((rd_T73 l0_0 (ji14)).f0.f0)) ∧ w'.cell? ⟨(ad122.add (((ji14)).toNat * 3)).block, (ad122.add (((ji14)).toNat * 3)).off + 1, none⟩ = some (.int .i64 ((rd_T73 l0_0 (ji14)).f0.f1)) ∧ w'.cell? ⟨(ad122.add (((ji14)).toNat * 3)).block, (ad122.add (((ji14)).toNat * 3)).off + 2, none⟩ = some (.int .i64 ((rd_T73 l0_0 (ji14)).f1)) ∧ w'.cell? (ad122.add ((x3_1).toNat * 3)) = some (.int .i64 ((rd_T73 l0_0 x3_1).f0.f0)) ∧ w'.cell? ⟨(ad122.add ((x3_1).toNat * 3)).block, (ad122.add ((x3_1).toNat * 3)).off + 1, none⟩ = some (.int .i64 ((rd_T73 l0_0 x3_1).f0.f1)) ∧ w'.cell? ⟨(ad122.add ((x3_1).toNat * 3)).block, (ad122.add ((x3_1).toNat * 3)).off + 2, none⟩ = some (.int .i64 ((rd_T73 l0_0 x3_1).f1))) (ds := []) ba2_0 (by kernel_rfl) rfl rfl ⟨(blk_cell BK121.out 0).trans rfl, (hc_ HB hw122_0), (hc_ HB hw122_1), (hc_ HB hw122_2), (hc_ HB hw124_0), (hc_ HB hw124_1), (hc_ HB hw124_2), (hc_ HB hw126_0), (hc_ HB hw126_1), (hc_ HB hw126_2), (hc_ HB hw127_0), (hc_ HB hw127_1), (hc_ HB hw127_2)⟩ (fun hHeld => ?_); refine with_tabW spec_TableOk.tab6 spec_TableOk.bits6 (fun HT_ HW_ => ?_)
            generalize wr.drew = w20 at BK121 HB hx122_0 hx122_1 hx122_2 hx124_0 hx124_1 hx124_2 hx126_0 hx126_1 hx126_2 hx127_0 hx127_1 hx127_2 hHeld ⊢
            refine pz_ 0 15 ba2_1 HT_ ?_
            refine pz_ 2 17 ba2_2 HT_ ?_
            refine pt_ 1 16 ba2_3 HT_ HW_ hHeld ?_
            refine pz_ 3 18 ba2_4 HT_ ?_
            refine pz_ 4 19 ba2_5 HT_ ?_
            refine pt_ 5 20 ba2_6 HT_ HW_ hHeld ?_
            refine one_ (i := 6) (N := some 21) ba2_7 rfl rfl (one_of HT_.out (by kernel_rfl)) (by decide) (fun K hK => ?_)
            refine gz_ Tryd.func9 #[.agg #[.int .i64 ((rd_T73 l0_0 x3_1).f0.f0), .int .i64 ((rd_T73 l0_0 x3_1).f0.f1)]] ?_
            with_reducible refine (spec_PrefixOk.calls ((rd_T73 l0_0 x3_1).f0.f0) ((rd_T73 l0_0 x3_1).f0.f1) true _ A9.out).mono ?_
            rintro e w21 ⟨rfl, hb⟩
            refine ⟨_, rfl, ?_⟩
            replace BK121 := Aside0.mk (bb_ BK121 hb)
            replace HB := Aside0.mk (bt_ HB hb)
            (try clear hb)
            (try clear hb2)
            (try clear hk)
            (try clear hi)
            refine hK.out _ _ ⟨(blk_cell BK121.out 0).trans rfl, (hc_ HB hw122_0), (hc_ HB hw122_1), (hc_ HB hw122_2), (hc_ HB hw124_0), (hc_ HB hw124_1), (hc_ HB hw124_2), (hc_ HB hw126_0), (hc_ HB hw126_1), (hc_ HB hw126_2), (hc_ HB hw127_0), (hc_ HB hw127_1), (hc_ HB hw127_2)⟩ (fun hHeld => ?_)
            clear hK K
            refine nz_ 21 ?_
            refine pz_ 7 22 ba2_8 HT_ ?_
            refine pz_ 8 23 ba2_9 HT_ ?_
            refine pz_ 9 24 ba2_10 HT_ ?_
            refine pz_ 11 26 ba2_11 HT_ ?_
            refine pt_ 10 25 ba2_12 HT_ HW_ hHeld ?_
            refine pz_ 12 27 ba2_13 HT_ ?_
            refine pz_ 13 28 ba2_14 HT_ ?_
            refine pt_ 14 29 ba2_15 HT_ HW_ hHeld ?_
            refine one_ (i := 15) (N := some 30) ba2_16 rfl rfl (one_of HT_.out (by kernel_rfl)) (by decide) (fun K hK => ?_)
            refine gz_ Tryd.func27 #[.int .i64 ((rd_T73 l0_0 x3_1).f1), .int .i64 0, .int .i64 999] ?_
            with_reducible refine (spec_l01In.calls ((rd_T73 l0_0 x3_1).f1) 0 999 true _ A11.out).mono ?_
            rintro e w' ⟨rfl, ⟨nd, rfl⟩⟩
            refine ⟨_, rfl, ?_⟩
            refine hK.out _ _ ⟨(blk_cell BK121.out 0).trans rfl, (hc_ HB hw122_0), (hc_ HB hw122_1), (hc_ HB hw122_2), (hc_ HB hw124_0), (hc_ HB hw124_1), (hc_ HB hw124_2), (hc_ HB hw126_0), (hc_ HB hw126_1), (hc_ HB hw126_2), (hc_ HB hw127_0), (hc_ HB hw127_1), (hc_ HB hw127_2)⟩ (fun hHeld => ?_)
            clear hK K
            refine nz_ 30 ?_
            refine pz_ 16 31 ba2_17 HT_ ?_
            refine pz_ 17 32 ba2_18 HT_ ?_
            refine pz_ 18 33 ba2_19 HT_ ?_
            refine pz_ 19 34 ba2_20 HT_ ?_
            refine pz_ 20 35 ba2_21 HT_ ?_
            refine pz_ 21 36 ba2_22 HT_ ?_
            refine pz_ 22 37 ba2_23 HT_ ?_
            refine pz_ 24 39 ba2_24 HT_ ?_
            refine pz_ 25 40 ba2_25 HT_ ?_
            refine pz_ 29 44 ba2_26 HT_ ?_
            refine pz_ 31 46 ba2_27 HT_ ?_
            refine pt_ 23 38 ba2_28 HT_ HW_ hHeld ?_
            refine pz_ 26 41 ba2_29 HT_ ?_
            refine pz_ 27 42 ba2_30 HT_ ?_
            refine pt_ 28 43 ba2_31 HT_ HW_ hHeld ?_
            refine pt_ 30 45 ba2_32 HT_ HW_ hHeld ?_
            refine pz_ 32 47 ba2_33 HT_ ?_
            refine pz_ 33 48 ba2_34 HT_ ?_
            refine pt_ 34 49 ba2_35 HT_ HW_ hHeld ?_
            refine one_ (i := 35) (N := some 50) ba2_36 rfl rfl (one_of HT_.out (by kernel_rfl)) (by decide) (fun K hK => ?_)
            refine goes_ Tryd.func56 (by kernel_rfl) rfl #[.agg #[.int .i64 ((rd_T73 l0_0 (ji14)).f0.f0), .int .i64 ((rd_T73 l0_0 (ji14)).f0.f1)], .agg #[.int .i64 ((rd_T73 l0_0 x3_1).f0.f0), .int .i64 ((rd_T73 l0_0 x3_1).f0.f1)]] (by rfl) rfl rfl (by (try simp only [List.map_toArray, List.map_cons, List.map_nil]); first | done | (simp only [hji14]; rfl) | rfl | (simp only [List.length_drop, List.length_take]; rfl)) ?_
            with_reducible refine (spec_l02Ahead.calls ((rd_T73 l0_0 (ji14)).f0.f0) ((rd_T73 l0_0 (ji14)).f0.f1) ((rd_T73 l0_0 x3_1).f0.f0) ((rd_T73 l0_0 x3_1).f0.f1) true _ A17.out).mono ?_
            rintro e w22 ⟨rfl, hb⟩
            refine ⟨_, rfl, ?_⟩
            replace BK121 := Aside0.mk (bb_ BK121 hb)
            replace HB := Aside0.mk (bt_ HB hb)
            (try clear hb)
            (try clear hb2)
            (try clear hk)
            (try clear hi)
            refine hK.out _ _ ⟨(blk_cell BK121.out 0).trans rfl, (hc_ HB hw122_0), (hc_ HB hw122_1), (hc_ HB hw122_2), (hc_ HB hw124_0), (hc_ HB hw124_1), (hc_ HB hw124_2), (hc_ HB hw126_0), (hc_ HB hw126_1), (hc_ HB hw126_2), (hc_ HB hw127_0), (hc_ HB hw127_1), (hc_ HB hw127_2)⟩ (fun hHeld => ?_)
            clear hK K
            refine nz_ 50 ?_
            refine pz_ 36 51 ba2_37 HT_ ?_
            refine pz_ 37 52 ba2_38 HT_ ?_
            refine pz_ 38 53 ba2_39 HT_ ?_
            refine done_ (done_of HT_.out (by kernel_rfl)) ?_
            try go_wp2
            go_roundg k1
            case measure => have := HK1.out; omega
            case rel => exact ⟨(wrap64 (x3_1 + 1)), (by first | rfl | (simp; done) | (simp [*]; done)), H', ⟨by have := HK1.out; omega⟩, ⟨by (with_reducible repeat (first | refine blk_drewN ?_ _ | refine blk_drew ?_ | refine blk_alloc ?_ _)); exact BK121.out⟩, ⟨by repeat (first | (with_reducible first | exact HB.out | apply below_alloc | apply pw_below_drewN | apply below_drew1 | refine below_set ?_ GE121.out) | exact HB.out)⟩⟩
           ·replace c18 := Bool.eq_false_iff.mpr c18
            subst c18
            rw [if_neg (show ¬ (false = true) by decide)] at H
            obtain rfl := Option.some.inj H
            have hcz23_0 := cz_ BK121 0 (.slice A0_0 l0_0.length c0_0)
            have hfz23_0 := blk_frozen BK121.out 0
            try go_wp2
            replace BK121 := Aside0.mk (blk_drew BK121.out)
            replace HB := Aside0.mk (below_drew1 HB.out)
            have p122 : 0 ≤ (x3_1 : Int) := of_decide_eq_true (by first | (with_reducible assumption) | assumption)
            have q122 : x3_1 < (l0_0.length : Int) := of_decide_eq_true (by first | (with_reducible assumption) | assumption)
            obtain ⟨ad122, e122, hx122_0, hx122_1, hx122_2⟩ := at_T73 HR0_0.out x3_1 p122 q122
            have hw122_2 := hx122_2
            have hw122_1 := hx122_1
            have hw122_0 := hx122_0
            cases e122
            replace hx122_0 := (HB.out.cell (World.block_lt_of_cell? w _ hx122_0)).trans hx122_0
            replace hx122_1 := (HB.out.cell (World.block_lt_of_cell? w _ hx122_1)).trans hx122_1
            replace hx122_2 := (HB.out.cell (World.block_lt_of_cell? w _ hx122_2)).trans hx122_2
            replace p122 := eq_true p122
            replace q122 := eq_true q122
            have p124 : 0 ≤ (x3_1 : Int) := of_decide_eq_true (by first | (with_reducible assumption) | assumption)
            have q124 : x3_1 < (l0_0.length : Int) := of_decide_eq_true (by first | (with_reducible assumption) | assumption)
            obtain ⟨ad124, e124, hx124_0, hx124_1, hx124_2⟩ := at_T73 HR0_0.out x3_1 p124 q124
            have hw124_2 := hx124_2
            have hw124_1 := hx124_1
            have hw124_0 := hx124_0
            obtain rfl : ad122 = ad124 := (by injection e124)
            replace hx124_0 := (HB.out.cell (World.block_lt_of_cell? w _ hx124_0)).trans hx124_0
            replace hx124_1 := (HB.out.cell (World.block_lt_of_cell? w _ hx124_1)).trans hx124_1
            replace hx124_2 := (HB.out.cell (World.block_lt_of_cell? w _ hx124_2)).trans hx124_2
            replace p124 := eq_true p124
            replace q124 := eq_true q124
            have p126 : 0 ≤ ((ji14) : Int) := of_decide_eq_true (by first | (with_reducible assumption) | assumption)
            have q126 : (ji14) < (l0_0.length : Int) := of_decide_eq_true (by first | (with_reducible assumption) | assumption)
            obtain ⟨ad126, e126, hx126_0, hx126_1, hx126_2⟩ := at_T73 HR0_0.out (ji14) p126 q126
            have hw126_2 := hx126_2
            have hw126_1 := hx126_1
            have hw126_0 := hx126_0
            obtain rfl : ad122 = ad126 := (by injection e126)
            replace hx126_0 := (HB.out.cell (World.block_lt_of_cell? w _ hx126_0)).trans hx126_0
            replace hx126_1 := (HB.out.cell (World.block_lt_of_cell? w _ hx126_1)).trans hx126_1
            replace hx126_2 := (HB.out.cell (World.block_lt_of_cell? w _ hx126_2)).trans hx126_2
            replace p126 := eq_true p126
            replace q126 := eq_true q126
            have p127 : 0 ≤ (x3_1 : Int) := of_decide_eq_true (by first | (with_reducible assumption) | assumption)
            have q127 : x3_1 < (l0_0.length : Int) := of_decide_eq_true (by first | (with_reducible assumption) | assumption)
            obtain ⟨ad127, e127, hx127_0, hx127_1, hx127_2⟩ := at_T73 HR0_0.out x3_1 p127 q127
            have hw127_2 := hx127_2
            have hw127_1 := hx127_1
            have hw127_0 := hx127_0
            obtain rfl : ad122 = ad127 := (by injection e127)
            replace hx127_0 := (HB.out.cell (World.block_lt_of_cell? w _ hx127_0)).trans hx127_0
            replace hx127_1 := (HB.out.cell (World.block_lt_of_cell? w _ hx127_1)).trans hx127_1
            replace hx127_2 := (HB.out.cell (World.block_lt_of_cell? w _ hx127_2)).trans hx127_2
            replace p127 := eq_true p127
            replace q127 := eq_true q127
            refine start_ (n := 39) (S := fun w' => w'.cell? ⟨gb121, 0, none⟩ = some (.slice (some ad122) l0_0.length c0_0) ∧ w'.cell? (ad122.add ((x3_1).toNat * 3)) = some (.int .i64 ((rd_T73 l0_0 x3_1).f0.f0)) ∧ w'.cell? ⟨(ad122.add ((x3_1).toNat * 3)).block, (ad122.add ((x3_1).toNat * 3)).off + 1, none⟩ = some (.int .i64 ((rd_T73 l0_0 x3_1).f0.f1)) ∧ w'.cell? ⟨(ad122.add ((x3_1).toNat * 3)).block, (ad122.add ((x3_1).toNat * 3)).off + 2, none⟩ = some (.int .i64 ((rd_T73 l0_0 x3_1).f1)) ∧ w'.cell? (ad122.add ((x3_1).toNat * 3)) = some (.int .i64 ((rd_T73 l0_0 x3_1).f0.f0)) ∧ w'.cell? ⟨(ad122.add ((x3_1).toNat * 3)).block, (ad122.add ((x3_1).toNat * 3)).off + 1, none⟩ = some (.int .i64 ((rd_T73 l0_0 x3_1).f0.f1)) ∧ w'.cell? ⟨(ad122.add ((x3_1).toNat * 3)).block, (ad122.add ((x3_1).toNat * 3)).off + 2, none⟩ = some (.int .i64 ((rd_T73 l0_0 x3_1).f1)) ∧ w'.cell? (ad122.add (((ji14)).toNat * 3)) = some (.int .i64 ((rd_T73 l0_0 (ji14)).f0.f0)) ∧ w'.cell? ⟨(ad122.add (((ji14)).toNat * 3)).block, (ad122.add (((ji14)).toNat * 3)).off + 1, none⟩ = some (.int .i64 ((rd_T73 l0_0 (ji14)).f0.f1)) ∧ w'.cell? ⟨(ad122.add (((ji14)).toNat * 3)).block, (ad122.add (((ji14)).toNat * 3)).off + 2, none⟩ = some (.int .i64 ((rd_T73 l0_0 (ji14)).f1)) ∧ w'.cell? (ad122.add ((x3_1).toNat * 3)) = some (.int .i64 ((rd_T73 l0_0 x3_1).f0.f0)) ∧ w'.cell? ⟨(ad122.add ((x3_1).toNat * 3)).block, (ad122.add ((x3_1).toNat * 3)).off + 1, none⟩ = some (.int .i64 ((rd_T73 l0_0 x3_1).f0.f1)) ∧ w'.cell? ⟨(ad122.add ((x3_1).toNat * 3)).block, (ad122.add ((x3_1).toNat * 3)).off + 2, none⟩ = some (.int .i64 ((rd_T73 l0_0 x3_1).f1))) (ds := []) ba2_0 (by kernel_rfl) rfl rfl ⟨(blk_cell BK121.out 0).trans rfl, (hc_ HB hw122_0), (hc_ HB hw122_1), (hc_ HB hw122_2), (hc_ HB hw124_0), (hc_ HB hw124_1), (hc_ HB hw124_2), (hc_ HB hw126_0), (hc_ HB hw126_1), (hc_ HB hw126_2), (hc_ HB hw127_0), (hc_ HB hw127_1), (hc_ HB hw127_2)⟩ (fun hHeld => ?_); refine with_tabW spec_TableOk.tab6 spec_TableOk.bits6 (fun HT_ HW_ => ?_)
            generalize wr.drew = w24 at BK121 HB hx122_0 hx122_1 hx122_2 hx124_0 hx124_1 hx124_2 hx126_0 hx126_1 hx126_2 hx127_0 hx127_1 hx127_2 hHeld ⊢
            refine pz_ 0 15 ba2_1 HT_ ?_
            refine pz_ 2 17 ba2_2 HT_ ?_
            refine pt_ 1 16 ba2_3 HT_ HW_ hHeld ?_
            refine pz_ 3 18 ba2_4 HT_ ?_
            refine pz_ 4 19 ba2_5 HT_ ?_
            refine pt_ 5 20 ba2_6 HT_ HW_ hHeld ?_
            refine one_ (i := 6) (N := some 21) ba2_7 rfl rfl (one_of HT_.out (by kernel_rfl)) (by decide) (fun K hK => ?_)
            refine gz_ Tryd.func9 #[.agg #[.int .i64 ((rd_T73 l0_0 x3_1).f0.f0), .int .i64 ((rd_T73 l0_0 x3_1).f0.f1)]] ?_
            with_reducible refine (spec_PrefixOk.calls ((rd_T73 l0_0 x3_1).f0.f0) ((rd_T73 l0_0 x3_1).f0.f1) true _ A9.out).mono ?_
            rintro e w25 ⟨rfl, hb⟩
            refine ⟨_, rfl, ?_⟩
            replace BK121 := Aside0.mk (bb_ BK121 hb)
            replace HB := Aside0.mk (bt_ HB hb)
            (try clear hb)
            (try clear hb2)
            (try clear hk)
            (try clear hi)
            refine hK.out _ _ ⟨(blk_cell BK121.out 0).trans rfl, (hc_ HB hw122_0), (hc_ HB hw122_1), (hc_ HB hw122_2), (hc_ HB hw124_0), (hc_ HB hw124_1), (hc_ HB hw124_2), (hc_ HB hw126_0), (hc_ HB hw126_1), (hc_ HB hw126_2), (hc_ HB hw127_0), (hc_ HB hw127_1), (hc_ HB hw127_2)⟩ (fun hHeld => ?_)
            clear hK K
            refine nz_ 21 ?_
            refine pz_ 7 22 ba2_8 HT_ ?_
            refine pz_ 8 23 ba2_9 HT_ ?_
            refine pz_ 9 24 ba2_10 HT_ ?_
            refine pz_ 11 26 ba2_11 HT_ ?_
            refine pt_ 10 25 ba2_12 HT_ HW_ hHeld ?_
            refine pz_ 12 27 ba2_13 HT_ ?_
            refine pz_ 13 28 ba2_14 HT_ ?_
            refine pt_ 14 29 ba2_15 HT_ HW_ hHeld ?_
            refine one_ (i := 15) (N := some 30) ba2_16 rfl rfl (one_of HT_.out (by kernel_rfl)) (by decide) (fun K hK => ?_)
            refine gz_ Tryd.func27 #[.int .i64 ((rd_T73 l0_0 x3_1).f1), .int .i64 0, .int .i64 999] ?_
            with_reducible refine (spec_l01In.calls ((rd_T73 l0_0 x3_1).f1) 0 999 true _ A11.out).mono ?_
            rintro e w' ⟨rfl, ⟨nd, rfl⟩⟩
            refine ⟨_, rfl, ?_⟩
            refine hK.out _ _ ⟨(blk_cell BK121.out 0).trans rfl, (hc_ HB hw122_0), (hc_ HB hw122_1), (hc_ HB hw122_2), (hc_ HB hw124_0), (hc_ HB hw124_1), (hc_ HB hw124_2), (hc_ HB hw126_0), (hc_ HB hw126_1), (hc_ HB hw126_2), (hc_ HB hw127_0), (hc_ HB hw127_1), (hc_ HB hw127_2)⟩ (fun hHeld => ?_)
            clear hK K
            refine nz_ 30 ?_
            refine pz_ 16 31 ba2_17 HT_ ?_
            refine pz_ 17 32 ba2_18 HT_ ?_
            refine pz_ 18 33 ba2_19 HT_ ?_
            refine pz_ 19 34 ba2_20 HT_ ?_
            refine pz_ 20 35 ba2_21 HT_ ?_
            refine pz_ 21 36 ba2_22 HT_ ?_
            refine pz_ 22 37 ba2_23 HT_ ?_
            refine pz_ 24 39 ba2_24 HT_ ?_
            refine pz_ 25 40 ba2_25 HT_ ?_
            refine pz_ 29 44 ba2_26 HT_ ?_
            refine pz_ 31 46 ba2_27 HT_ ?_
            refine pt_ 23 38 ba2_28 HT_ HW_ hHeld ?_
            refine pz_ 26 41 ba2_29 HT_ ?_
            refine pz_ 27 42 ba2_30 HT_ ?_
            refine pt_ 28 43 ba2_31 HT_ HW_ hHeld ?_
            refine pt_ 30 45 ba2_32 HT_ HW_ hHeld ?_
            refine pz_ 32 47 ba2_33 HT_ ?_
            refine pz_ 33 48 ba2_34 HT_ ?_
            refine pt_ 34 49 ba2_35 HT_ HW_ hHeld ?_
            refine one_ (i := 35) (N := some 50) ba2_36 rfl rfl (one_of HT_.out (by kernel_rfl)) (by decide) (fun K hK => ?_)
            refine goes_ Tryd.func56 (by kernel_rfl) rfl #[.agg #[.int .i64 ((rd_T73 l0_0 (ji14)).f0.f0), .int .i64 ((rd_T73 l0_0 (ji14)).f0.f1)], .agg #[.int .i64 ((rd_T73 l0_0 x3_1).f0.f0), .int .i64 ((rd_T73 l0_0 x3_1).f0.f1)]] (by rfl) rfl rfl (by (try simp only [List.map_toArray, List.map_cons, List.map_nil]); first | done | (simp only [hji14]; rfl) | rfl | (simp only [List.length_drop, List.length_take]; rfl)) ?_
            with_reducible refine (spec_l02Ahead.calls ((rd_T73 l0_0 (ji14)).f0.f0) ((rd_T73 l0_0 (ji14)).f0.f1) ((rd_T73 l0_0 x3_1).f0.f0) ((rd_T73 l0_0 x3_1).f0.f1) false _ A17.out).mono ?_
            rintro e w26 ⟨rfl, hb⟩
            refine ⟨_, rfl, ?_⟩
            replace BK121 := Aside0.mk (bb_ BK121 hb)
            replace HB := Aside0.mk (bt_ HB hb)
            (try clear hb)
            (try clear hb2)
            (try clear hk)
            (try clear hi)
            refine hK.out _ _ ⟨(blk_cell BK121.out 0).trans rfl, (hc_ HB hw122_0), (hc_ HB hw122_1), (hc_ HB hw122_2), (hc_ HB hw124_0), (hc_ HB hw124_1), (hc_ HB hw124_2), (hc_ HB hw126_0), (hc_ HB hw126_1), (hc_ HB hw126_2), (hc_ HB hw127_0), (hc_ HB hw127_1), (hc_ HB hw127_2)⟩ (fun hHeld => ?_)
            clear hK K
            refine nz_ 50 ?_
            refine pz_ 36 51 ba2_37 HT_ ?_
            refine pz_ 37 52 ba2_38 HT_ ?_
            refine pz_ 38 53 ba2_39 HT_ ?_
            refine done_ (done_of HT_.out (by kernel_rfl)) ?_
            try go_wp2
            go_ret
            exact ⟨by first | rfl | (simp [errW_none, errW_some] <;> rfl) | (simp only [← hji14]; first | rfl | (simp [errW_none, errW_some] <;> rfl)) | (simp [*, errW_none, errW_some] <;> rfl), by repeat (first | (with_reducible first | exact HB.out | apply below_alloc | apply pw_below_drewN | apply below_drew1 | refine below_set ?_ GE121.out) | exact HB.out)⟩
          ·rw [if_neg c16] at H
           exact absurd H (by simp)
         ·rw [if_neg c15] at H
          exact absurd H (by simp)
        ·rw [if_neg c13] at H
         have c13b0 : decide (0 < x3_1) = false := decide_eq_false c13
         clear c13
         have H' := Aside0.mk H
         clear H
         have hcz27_0 := cz_ BK121 0 (.slice A0_0 l0_0.length c0_0)
         have hfz27_0 := blk_frozen BK121.out 0
         try go_wp2
         replace BK121 := Aside0.mk (blk_drew BK121.out)
         replace HB := Aside0.mk (below_drew1 HB.out)
         have p122 : 0 ≤ (x3_1 : Int) := of_decide_eq_true (by first | (with_reducible assumption) | assumption)
         have q122 : x3_1 < (l0_0.length : Int) := of_decide_eq_true (by first | (with_reducible assumption) | assumption)
         obtain ⟨ad122, e122, hx122_0, hx122_1, hx122_2⟩ := at_T73 HR0_0.out x3_1 p122 q122
         have hw122_2 := hx122_2
         have hw122_1 := hx122_1
         have hw122_0 := hx122_0
         cases e122
         replace hx122_0 := (HB.out.cell (World.block_lt_of_cell? w _ hx122_0)).trans hx122_0
         replace hx122_1 := (HB.out.cell (World.block_lt_of_cell? w _ hx122_1)).trans hx122_1
         replace hx122_2 := (HB.out.cell (World.block_lt_of_cell? w _ hx122_2)).trans hx122_2
         replace p122 := eq_true p122
         replace q122 := eq_true q122
         have p124 : 0 ≤ (x3_1 : Int) := of_decide_eq_true (by first | (with_reducible assumption) | assumption)
         have q124 : x3_1 < (l0_0.length : Int) := of_decide_eq_true (by first | (with_reducible assumption) | assumption)
         obtain ⟨ad124, e124, hx124_0, hx124_1, hx124_2⟩ := at_T73 HR0_0.out x3_1 p124 q124
         have hw124_2 := hx124_2
         have hw124_1 := hx124_1
         have hw124_0 := hx124_0
         obtain rfl : ad122 = ad124 := (by injection e124)
         replace hx124_0 := (HB.out.cell (World.block_lt_of_cell? w _ hx124_0)).trans hx124_0
         replace hx124_1 := (HB.out.cell (World.block_lt_of_cell? w _ hx124_1)).trans hx124_1
         replace hx124_2 := (HB.out.cell (World.block_lt_of_cell? w _ hx124_2)).trans hx124_2
         replace p124 := eq_true p124
         replace q124 := eq_true q124
         refine start_ (n := 39) (S := fun w' => w'.cell? ⟨gb121, 0, none⟩ = some (.slice (some ad122) l0_0.length c0_0) ∧ w'.cell? (ad122.add ((x3_1).toNat * 3)) = some (.int .i64 ((rd_T73 l0_0 x3_1).f0.f0)) ∧ w'.cell? ⟨(ad122.add ((x3_1).toNat * 3)).block, (ad122.add ((x3_1).toNat * 3)).off + 1, none⟩ = some (.int .i64 ((rd_T73 l0_0 x3_1).f0.f1)) ∧ w'.cell? ⟨(ad122.add ((x3_1).toNat * 3)).block, (ad122.add ((x3_1).toNat * 3)).off + 2, none⟩ = some (.int .i64 ((rd_T73 l0_0 x3_1).f1)) ∧ w'.cell? (ad122.add ((x3_1).toNat * 3)) = some (.int .i64 ((rd_T73 l0_0 x3_1).f0.f0)) ∧ w'.cell? ⟨(ad122.add ((x3_1).toNat * 3)).block, (ad122.add ((x3_1).toNat * 3)).off + 1, none⟩ = some (.int .i64 ((rd_T73 l0_0 x3_1).f0.f1)) ∧ w'.cell? ⟨(ad122.add ((x3_1).toNat * 3)).block, (ad122.add ((x3_1).toNat * 3)).off + 2, none⟩ = some (.int .i64 ((rd_T73 l0_0 x3_1).f1))) (ds := []) ba2_0 (by kernel_rfl) rfl rfl ⟨(blk_cell BK121.out 0).trans rfl, (hc_ HB hw122_0), (hc_ HB hw122_1), (hc_ HB hw122_2), (hc_ HB hw124_0), (hc_ HB hw124_1), (hc_ HB hw124_2)⟩ (fun hHeld => ?_); refine with_tabW spec_TableOk.tab6 spec_TableOk.bits6 (fun HT_ HW_ => ?_)
         generalize wr.drew = w28 at BK121 HB hx122_0 hx122_1 hx122_2 hx124_0 hx124_1 hx124_2 hHeld ⊢
         refine pz_ 0 15 ba2_1 HT_ ?_
         refine pz_ 2 17 ba2_2 HT_ ?_
         refine pt_ 1 16 ba2_3 HT_ HW_ hHeld ?_
         refine pz_ 3 18 ba2_4 HT_ ?_
         refine pz_ 4 19 ba2_5 HT_ ?_
         refine pt_ 5 20 ba2_6 HT_ HW_ hHeld ?_
         refine one_ (i := 6) (N := some 21) ba2_7 rfl rfl (one_of HT_.out (by kernel_rfl)) (by decide) (fun K hK => ?_)
         refine gz_ Tryd.func9 #[.agg #[.int .i64 ((rd_T73 l0_0 x3_1).f0.f0), .int .i64 ((rd_T73 l0_0 x3_1).f0.f1)]] ?_
         with_reducible refine (spec_PrefixOk.calls ((rd_T73 l0_0 x3_1).f0.f0) ((rd_T73 l0_0 x3_1).f0.f1) true _ A9.out).mono ?_
         rintro e w29 ⟨rfl, hb⟩
         refine ⟨_, rfl, ?_⟩
         replace BK121 := Aside0.mk (bb_ BK121 hb)
         replace HB := Aside0.mk (bt_ HB hb)
         (try clear hb)
         (try clear hb2)
         (try clear hk)
         (try clear hi)
         refine hK.out _ _ ⟨(blk_cell BK121.out 0).trans rfl, (hc_ HB hw122_0), (hc_ HB hw122_1), (hc_ HB hw122_2), (hc_ HB hw124_0), (hc_ HB hw124_1), (hc_ HB hw124_2)⟩ (fun hHeld => ?_)
         clear hK K
         refine nz_ 21 ?_
         refine pz_ 7 22 ba2_8 HT_ ?_
         refine pz_ 8 23 ba2_9 HT_ ?_
         refine pz_ 9 24 ba2_10 HT_ ?_
         refine pz_ 11 26 ba2_11 HT_ ?_
         refine pt_ 10 25 ba2_12 HT_ HW_ hHeld ?_
         refine pz_ 12 27 ba2_13 HT_ ?_
         refine pz_ 13 28 ba2_14 HT_ ?_
         refine pt_ 14 29 ba2_15 HT_ HW_ hHeld ?_
         refine one_ (i := 15) (N := some 30) ba2_16 rfl rfl (one_of HT_.out (by kernel_rfl)) (by decide) (fun K hK => ?_)
         refine gz_ Tryd.func27 #[.int .i64 ((rd_T73 l0_0 x3_1).f1), .int .i64 0, .int .i64 999] ?_
         with_reducible refine (spec_l01In.calls ((rd_T73 l0_0 x3_1).f1) 0 999 true _ A11.out).mono ?_
         rintro e w' ⟨rfl, ⟨nd, rfl⟩⟩
         refine ⟨_, rfl, ?_⟩
         refine hK.out _ _ ⟨(blk_cell BK121.out 0).trans rfl, (hc_ HB hw122_0), (hc_ HB hw122_1), (hc_ HB hw122_2), (hc_ HB hw124_0), (hc_ HB hw124_1), (hc_ HB hw124_2)⟩ (fun hHeld => ?_)
         clear hK K
         refine nz_ 30 ?_
         refine pz_ 16 31 ba2_17 HT_ ?_
         refine pz_ 17 32 ba2_18 HT_ ?_
         refine pz_ 18 33 ba2_19 HT_ ?_
         refine pz_ 19 34 ba2_20 HT_ ?_
         refine pz_ 20 35 ba2_21 HT_ ?_
         refine pz_ 21 36 ba2_22 HT_ ?_
         refine pu_ 22 37 ba2_23 HT_ ?_
         refine pu_ 23 38 ba2_40 HT_ ?_
         refine pu_ 24 39 ba2_41 HT_ ?_
         refine pu_ 25 40 ba2_42 HT_ ?_
         refine pu_ 26 41 ba2_43 HT_ ?_
         refine pu_ 27 42 ba2_44 HT_ ?_
         refine pu_ 28 43 ba2_45 HT_ ?_
         refine pu_ 29 44 ba2_46 HT_ ?_
         refine pu_ 30 45 ba2_47 HT_ ?_
         refine pu_ 31 46 ba2_32 HT_ ?_
         refine pu_ 32 47 ba2_33 HT_ ?_
         refine pu_ 33 48 ba2_34 HT_ ?_
         refine pu_ 34 49 ba2_35 HT_ ?_
         refine pu_ 35 50 ba2_36 HT_ ?_
         refine pu_ 36 51 ba2_37 HT_ ?_
         refine pz_ 37 52 ba2_38 HT_ ?_
         refine pz_ 38 53 ba2_39 HT_ ?_
         refine done_ (done_of HT_.out (by kernel_rfl)) ?_
         try go_wp2
         go_roundg k1
         case measure => have := HK1.out; omega
         case rel => exact ⟨(wrap64 (x3_1 + 1)), (by first | rfl | (simp; done) | (simp [*]; done)), H', ⟨by have := HK1.out; omega⟩, ⟨by (with_reducible repeat (first | refine blk_drewN ?_ _ | refine blk_drew ?_ | refine blk_alloc ?_ _)); exact BK121.out⟩, ⟨by repeat (first | (with_reducible first | exact HB.out | apply below_alloc | apply pw_below_drewN | apply below_drew1 | refine below_set ?_ GE121.out) | exact HB.out)⟩⟩
       ·replace c12 := Bool.eq_false_iff.mpr c12
        subst c12
        rw [if_neg (show ¬ (false = true) by decide)] at H
        obtain rfl := Option.some.inj H
        have hcz30_0 := cz_ BK121 0 (.slice A0_0 l0_0.length c0_0)
        have hfz30_0 := blk_frozen BK121.out 0
        try go_wp2
        replace BK121 := Aside0.mk (blk_drew BK121.out)
        replace HB := Aside0.mk (below_drew1 HB.out)
        have p122 : 0 ≤ (x3_1 : Int) := of_decide_eq_true (by first | (with_reducible assumption) | assumption)
        have q122 : x3_1 < (l0_0.length : Int) := of_decide_eq_true (by first | (with_reducible assumption) | assumption)
        obtain ⟨ad122, e122, hx122_0, hx122_1, hx122_2⟩ := at_T73 HR0_0.out x3_1 p122 q122
        have hw122_2 := hx122_2
        have hw122_1 := hx122_1
        have hw122_0 := hx122_0
        cases e122
        replace hx122_0 := (HB.out.cell (World.block_lt_of_cell? w _ hx122_0)).trans hx122_0
        replace hx122_1 := (HB.out.cell (World.block_lt_of_cell? w _ hx122_1)).trans hx122_1
        replace hx122_2 := (HB.out.cell (World.block_lt_of_cell? w _ hx122_2)).trans hx122_2
        replace p122 := eq_true p122
        replace q122 := eq_true q122
        have p124 : 0 ≤ (x3_1 : Int) := of_decide_eq_true (by first | (with_reducible assumption) | assumption)
        have q124 : x3_1 < (l0_0.length : Int) := of_decide_eq_true (by first | (with_reducible assumption) | assumption)
        obtain ⟨ad124, e124, hx124_0, hx124_1, hx124_2⟩ := at_T73 HR0_0.out x3_1 p124 q124
        have hw124_2 := hx124_2
        have hw124_1 := hx124_1
        have hw124_0 := hx124_0
        obtain rfl : ad122 = ad124 := (by injection e124)
        replace hx124_0 := (HB.out.cell (World.block_lt_of_cell? w _ hx124_0)).trans hx124_0
        replace hx124_1 := (HB.out.cell (World.block_lt_of_cell? w _ hx124_1)).trans hx124_1
        replace hx124_2 := (HB.out.cell (World.block_lt_of_cell? w _ hx124_2)).trans hx124_2
        replace p124 := eq_true p124
        replace q124 := eq_true q124
        refine start_ (n := 39) (S := fun w' => w'.cell? ⟨gb121, 0, none⟩ = some (.slice (some ad122) l0_0.length c0_0) ∧ w'.cell? (ad122.add ((x3_1).toNat * 3)) = some (.int .i64 ((rd_T73 l0_0 x3_1).f0.f0)) ∧ w'.cell? ⟨(ad122.add ((x3_1).toNat * 3)).block, (ad122.add ((x3_1).toNat * 3)).off + 1, none⟩ = some (.int .i64 ((rd_T73 l0_0 x3_1).f0.f1)) ∧ w'.cell? ⟨(ad122.add ((x3_1).toNat * 3)).block, (ad122.add ((x3_1).toNat * 3)).off + 2, none⟩ = some (.int .i64 ((rd_T73 l0_0 x3_1).f1)) ∧ w'.cell? (ad122.add ((x3_1).toNat * 3)) = some (.int .i64 ((rd_T73 l0_0 x3_1).f0.f0)) ∧ w'.cell? ⟨(ad122.add ((x3_1).toNat * 3)).block, (ad122.add ((x3_1).toNat * 3)).off + 1, none⟩ = some (.int .i64 ((rd_T73 l0_0 x3_1).f0.f1)) ∧ w'.cell? ⟨(ad122.add ((x3_1).toNat * 3)).block, (ad122.add ((x3_1).toNat * 3)).off + 2, none⟩ = some (.int .i64 ((rd_T73 l0_0 x3_1).f1))) (ds := []) ba2_0 (by kernel_rfl) rfl rfl ⟨(blk_cell BK121.out 0).trans rfl, (hc_ HB hw122_0), (hc_ HB hw122_1), (hc_ HB hw122_2), (hc_ HB hw124_0), (hc_ HB hw124_1), (hc_ HB hw124_2)⟩ (fun hHeld => ?_); refine with_tabW spec_TableOk.tab6 spec_TableOk.bits6 (fun HT_ HW_ => ?_)
        generalize wr.drew = w31 at BK121 HB hx122_0 hx122_1 hx122_2 hx124_0 hx124_1 hx124_2 hHeld ⊢
        refine pz_ 0 15 ba2_1 HT_ ?_
        refine pz_ 2 17 ba2_2 HT_ ?_
        refine pt_ 1 16 ba2_3 HT_ HW_ hHeld ?_
        refine pz_ 3 18 ba2_4 HT_ ?_
        refine pz_ 4 19 ba2_5 HT_ ?_
        refine pt_ 5 20 ba2_6 HT_ HW_ hHeld ?_
        refine one_ (i := 6) (N := some 21) ba2_7 rfl rfl (one_of HT_.out (by kernel_rfl)) (by decide) (fun K hK => ?_)
        refine gz_ Tryd.func9 #[.agg #[.int .i64 ((rd_T73 l0_0 x3_1).f0.f0), .int .i64 ((rd_T73 l0_0 x3_1).f0.f1)]] ?_
        with_reducible refine (spec_PrefixOk.calls ((rd_T73 l0_0 x3_1).f0.f0) ((rd_T73 l0_0 x3_1).f0.f1) true _ A9.out).mono ?_
        rintro e w32 ⟨rfl, hb⟩
        refine ⟨_, rfl, ?_⟩
        replace BK121 := Aside0.mk (bb_ BK121 hb)
        replace HB := Aside0.mk (bt_ HB hb)
        (try clear hb)
        (try clear hb2)
        (try clear hk)
        (try clear hi)
        refine hK.out _ _ ⟨(blk_cell BK121.out 0).trans rfl, (hc_ HB hw122_0), (hc_ HB hw122_1), (hc_ HB hw122_2), (hc_ HB hw124_0), (hc_ HB hw124_1), (hc_ HB hw124_2)⟩ (fun hHeld => ?_)
        clear hK K
        refine nz_ 21 ?_
        refine pz_ 7 22 ba2_8 HT_ ?_
        refine pz_ 8 23 ba2_9 HT_ ?_
        refine pz_ 9 24 ba2_10 HT_ ?_
        refine pz_ 11 26 ba2_11 HT_ ?_
        refine pt_ 10 25 ba2_12 HT_ HW_ hHeld ?_
        refine pz_ 12 27 ba2_13 HT_ ?_
        refine pz_ 13 28 ba2_14 HT_ ?_
        refine pt_ 14 29 ba2_15 HT_ HW_ hHeld ?_
        refine one_ (i := 15) (N := some 30) ba2_16 rfl rfl (one_of HT_.out (by kernel_rfl)) (by decide) (fun K hK => ?_)
        refine gz_ Tryd.func27 #[.int .i64 ((rd_T73 l0_0 x3_1).f1), .int .i64 0, .int .i64 999] ?_
        with_reducible refine (spec_l01In.calls ((rd_T73 l0_0 x3_1).f1) 0 999 false _ A11.out).mono ?_
        rintro e w' ⟨rfl, ⟨nd, rfl⟩⟩
        refine ⟨_, rfl, ?_⟩
        refine hK.out _ _ ⟨(blk_cell BK121.out 0).trans rfl, (hc_ HB hw122_0), (hc_ HB hw122_1), (hc_ HB hw122_2), (hc_ HB hw124_0), (hc_ HB hw124_1), (hc_ HB hw124_2)⟩ (fun hHeld => ?_)
        clear hK K
        refine nz_ 30 ?_
        refine pz_ 16 31 ba2_17 HT_ ?_
        refine pz_ 17 32 ba2_18 HT_ ?_
        refine pz_ 18 33 ba2_19 HT_ ?_
        refine pu_ 19 34 ba2_20 HT_ ?_
        refine pu_ 20 35 ba2_21 HT_ ?_
        refine pu_ 21 36 ba2_22 HT_ ?_
        refine pu_ 22 37 ba2_23 HT_ ?_
        refine pu_ 23 38 ba2_40 HT_ ?_
        refine pu_ 24 39 ba2_41 HT_ ?_
        refine pu_ 25 40 ba2_42 HT_ ?_
        refine pu_ 26 41 ba2_43 HT_ ?_
        refine pu_ 27 42 ba2_44 HT_ ?_
        refine pu_ 28 43 ba2_45 HT_ ?_
        refine pu_ 29 44 ba2_46 HT_ ?_
        refine pu_ 30 45 ba2_47 HT_ ?_
        refine pu_ 31 46 ba2_32 HT_ ?_
        refine pu_ 32 47 ba2_33 HT_ ?_
        refine pu_ 33 48 ba2_34 HT_ ?_
        refine pu_ 34 49 ba2_35 HT_ ?_
        refine pu_ 35 50 ba2_36 HT_ ?_
        refine pu_ 36 51 ba2_37 HT_ ?_
        refine pu_ 37 52 ba2_38 HT_ ?_
        refine pz_ 38 53 ba2_39 HT_ ?_
        refine done_ (done_of HT_.out (by kernel_rfl)) ?_
        try go_wp2
        go_ret
        exact ⟨by first | rfl | (simp [errW_none, errW_some] <;> rfl) | (simp [*, errW_none, errW_some] <;> rfl), by repeat (first | (with_reducible first | exact HB.out | apply below_alloc | apply pw_below_drewN | apply below_drew1 | refine below_set ?_ GE121.out) | exact HB.out)⟩
      ·replace c10 := Bool.eq_false_iff.mpr c10
       subst c10
       rw [if_neg (show ¬ (false = true) by decide)] at H
       obtain rfl := Option.some.inj H
       have hcz33_0 := cz_ BK121 0 (.slice A0_0 l0_0.length c0_0)
       have hfz33_0 := blk_frozen BK121.out 0
       try go_wp2
       replace BK121 := Aside0.mk (blk_drew BK121.out)
       replace HB := Aside0.mk (below_drew1 HB.out)
       have p122 : 0 ≤ (x3_1 : Int) := of_decide_eq_true (by first | (with_reducible assumption) | assumption)
       have q122 : x3_1 < (l0_0.length : Int) := of_decide_eq_true (by first | (with_reducible assumption) | assumption)
       obtain ⟨ad122, e122, hx122_0, hx122_1, hx122_2⟩ := at_T73 HR0_0.out x3_1 p122 q122
       have hw122_2 := hx122_2
       have hw122_1 := hx122_1
       have hw122_0 := hx122_0
       cases e122
       replace hx122_0 := (HB.out.cell (World.block_lt_of_cell? w _ hx122_0)).trans hx122_0
       replace hx122_1 := (HB.out.cell (World.block_lt_of_cell? w _ hx122_1)).trans hx122_1
       replace hx122_2 := (HB.out.cell (World.block_lt_of_cell? w _ hx122_2)).trans hx122_2
       replace p122 := eq_true p122
       replace q122 := eq_true q122
       refine start_ (n := 39) (S := fun w' => w'.cell? ⟨gb121, 0, none⟩ = some (.slice (some ad122) l0_0.length c0_0) ∧ w'.cell? (ad122.add ((x3_1).toNat * 3)) = some (.int .i64 ((rd_T73 l0_0 x3_1).f0.f0)) ∧ w'.cell? ⟨(ad122.add ((x3_1).toNat * 3)).block, (ad122.add ((x3_1).toNat * 3)).off + 1, none⟩ = some (.int .i64 ((rd_T73 l0_0 x3_1).f0.f1)) ∧ w'.cell? ⟨(ad122.add ((x3_1).toNat * 3)).block, (ad122.add ((x3_1).toNat * 3)).off + 2, none⟩ = some (.int .i64 ((rd_T73 l0_0 x3_1).f1))) (ds := []) ba2_0 (by kernel_rfl) rfl rfl ⟨(blk_cell BK121.out 0).trans rfl, (hc_ HB hw122_0), (hc_ HB hw122_1), (hc_ HB hw122_2)⟩ (fun hHeld => ?_); refine with_tabW spec_TableOk.tab6 spec_TableOk.bits6 (fun HT_ HW_ => ?_)
       generalize wr.drew = w34 at BK121 HB hx122_0 hx122_1 hx122_2 hHeld ⊢
       refine pz_ 0 15 ba2_1 HT_ ?_
       refine pz_ 2 17 ba2_2 HT_ ?_
       refine pt_ 1 16 ba2_3 HT_ HW_ hHeld ?_
       refine pz_ 3 18 ba2_4 HT_ ?_
       refine pz_ 4 19 ba2_5 HT_ ?_
       refine pt_ 5 20 ba2_6 HT_ HW_ hHeld ?_
       refine one_ (i := 6) (N := some 21) ba2_7 rfl rfl (one_of HT_.out (by kernel_rfl)) (by decide) (fun K hK => ?_)
       refine gz_ Tryd.func9 #[.agg #[.int .i64 ((rd_T73 l0_0 x3_1).f0.f0), .int .i64 ((rd_T73 l0_0 x3_1).f0.f1)]] ?_
       with_reducible refine (spec_PrefixOk.calls ((rd_T73 l0_0 x3_1).f0.f0) ((rd_T73 l0_0 x3_1).f0.f1) false _ A9.out).mono ?_
       rintro e w35 ⟨rfl, hb⟩
       refine ⟨_, rfl, ?_⟩
       replace BK121 := Aside0.mk (bb_ BK121 hb)
       replace HB := Aside0.mk (bt_ HB hb)
       (try clear hb)
       (try clear hb2)
       (try clear hk)
       (try clear hi)
       refine hK.out _ _ ⟨(blk_cell BK121.out 0).trans rfl, (hc_ HB hw122_0), (hc_ HB hw122_1), (hc_ HB hw122_2)⟩ (fun hHeld => ?_)
       clear hK K
       refine nz_ 21 ?_
       refine pz_ 7 22 ba2_8 HT_ ?_
       refine pz_ 8 23 ba2_9 HT_ ?_
       refine pu_ 9 24 ba2_10 HT_ ?_
       refine pu_ 10 25 ba2_48 HT_ ?_
       refine pu_ 11 26 ba2_12 HT_ ?_
       refine pu_ 12 27 ba2_13 HT_ ?_
       refine pu_ 13 28 ba2_14 HT_ ?_
       refine pu_ 14 29 ba2_15 HT_ ?_
       refine pu_ 15 30 ba2_16 HT_ ?_
       refine pu_ 16 31 ba2_17 HT_ ?_
       refine pz_ 17 32 ba2_18 HT_ ?_
       refine pz_ 18 33 ba2_19 HT_ ?_
       refine pu_ 19 34 ba2_20 HT_ ?_
       refine pu_ 20 35 ba2_21 HT_ ?_
       refine pu_ 21 36 ba2_22 HT_ ?_
       refine pu_ 22 37 ba2_23 HT_ ?_
       refine pu_ 23 38 ba2_40 HT_ ?_
       refine pu_ 24 39 ba2_41 HT_ ?_
       refine pu_ 25 40 ba2_42 HT_ ?_
       refine pu_ 26 41 ba2_43 HT_ ?_
       refine pu_ 27 42 ba2_44 HT_ ?_
       refine pu_ 28 43 ba2_45 HT_ ?_
       refine pu_ 29 44 ba2_46 HT_ ?_
       refine pu_ 30 45 ba2_47 HT_ ?_
       refine pu_ 31 46 ba2_32 HT_ ?_
       refine pu_ 32 47 ba2_33 HT_ ?_
       refine pu_ 33 48 ba2_34 HT_ ?_
       refine pu_ 34 49 ba2_35 HT_ ?_
       refine pu_ 35 50 ba2_36 HT_ ?_
       refine pu_ 36 51 ba2_37 HT_ ?_
       refine pu_ 37 52 ba2_38 HT_ ?_
       refine pz_ 38 53 ba2_39 HT_ ?_
       refine done_ (done_of HT_.out (by kernel_rfl)) ?_
       try go_wp2
       go_ret
       exact ⟨by first | rfl | (simp [errW_none, errW_some] <;> rfl) | (simp [*, errW_none, errW_some] <;> rfl), by repeat (first | (with_reducible first | exact HB.out | apply below_alloc | apply pw_below_drewN | apply below_drew1 | refine below_set ?_ GE121.out) | exact HB.out)⟩
     ·rw [if_neg c8] at H
      exact absurd H (by simp)
    ·rw [if_neg c7] at H
     have c7b0 : decide (x3_1 < (l0_0.length : Int)) = false := decide_eq_false c7
     clear c7
     obtain rfl := Option.some.inj H
     have hcz36_0 := cz_ BK121 0 (.slice A0_0 l0_0.length c0_0)
     have hfz36_0 := blk_frozen BK121.out 0
     go_wp2
     go_ret
     exact ⟨by first | rfl | (simp [errW_none, errW_some] <;> rfl) | (simp [*, errW_none, errW_some] <;> rfl), by repeat (first | (with_reducible first | exact HB.out | apply below_alloc | apply pw_below_drewN | apply below_drew1 | refine below_set ?_ GE121.out) | exact HB.out)⟩

end Go.Proofs.YtmbaemcnjdgemaaDoor.QFnExactTableText
