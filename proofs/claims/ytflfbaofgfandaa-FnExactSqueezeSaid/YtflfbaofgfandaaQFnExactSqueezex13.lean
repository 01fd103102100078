/- Contracts of functions that the law reaches: what each call returns and what it leaves in memory. Made by this session over the print of the kit. -/
import Derived.Test.YtflfbaofgfandaaQFnExactSqueezex0
import Derived.Test.YtflfbaofgfandaaQFnExactSqueezex12
namespace Go.Proofs.Ytflfbaofgfandaa.QFnExactSqueeze
open Go.RowKit Go.Proofs.YtflfbaofgfandaaQ.PrintWords Go.Proofs.YtflfbaofgfandaaQ.PrintLast Go.Proofs.YtflfbaofgfandaaQ.PrintMore
attribute [local go_sem] max2_int min2_int max_two min_two max_three min_three max_four min_four   -- for this text's walks alone
set_option linter.unusedVariables false
set_option linter.unusedSimpArgs false
abbrev tb13 : Bool := true
abbrev fb13 : Bool := false
def ba13_0 : Array Bool := #[fb13,fb13,fb13,fb13,fb13,fb13,fb13,fb13,fb13,fb13,fb13,fb13,fb13,fb13,fb13,fb13,fb13,fb13,fb13,fb13]
def ba13_1 : Array Bool := #[tb13,fb13,fb13,fb13,fb13,fb13,fb13,fb13,fb13,fb13,fb13,fb13,fb13,fb13,fb13,fb13,fb13,fb13,fb13,fb13]
def ba13_2 : Array Bool := #[tb13,tb13,fb13,fb13,fb13,fb13,fb13,fb13,fb13,fb13,fb13,fb13,fb13,fb13,fb13,fb13,fb13,fb13,fb13,fb13]
def ba13_3 : Array Bool := #[tb13,tb13,tb13,fb13,fb13,fb13,fb13,fb13,fb13,fb13,fb13,fb13,fb13,fb13,fb13,fb13,fb13,fb13,fb13,fb13]
def ba13_4 : Array Bool := #[tb13,tb13,tb13,tb13,fb13,fb13,fb13,fb13,fb13,fb13,fb13,fb13,fb13,fb13,fb13,fb13,fb13,fb13,fb13,fb13]
def ba13_5 : Array Bool := #[tb13,tb13,tb13,tb13,tb13,fb13,fb13,fb13,fb13,fb13,fb13,fb13,fb13,fb13,fb13,fb13,fb13,fb13,fb13,fb13]
def ba13_6 : Array Bool := #[tb13,tb13,tb13,tb13,tb13,tb13,fb13,fb13,fb13,fb13,fb13,fb13,fb13,fb13,fb13,fb13,fb13,fb13,fb13,fb13]
def ba13_7 : Array Bool := #[tb13,tb13,tb13,tb13,tb13,tb13,tb13,fb13,fb13,fb13,fb13,fb13,fb13,fb13,fb13,fb13,fb13,fb13,fb13,fb13]
def ba13_8 : Array Bool := #[tb13,tb13,tb13,tb13,tb13,tb13,tb13,tb13,fb13,fb13,fb13,fb13,fb13,fb13,fb13,fb13,fb13,fb13,fb13,fb13]
def ba13_9 : Array Bool := #[tb13,tb13,tb13,tb13,tb13,tb13,tb13,tb13,fb13,tb13,fb13,fb13,fb13,fb13,fb13,fb13,fb13,fb13,fb13,fb13]
def ba13_10 : Array Bool := #[tb13,tb13,tb13,tb13,tb13,tb13,tb13,tb13,fb13,tb13,tb13,fb13,fb13,fb13,fb13,fb13,fb13,fb13,fb13,fb13]
def ba13_11 : Array Bool := #[tb13,tb13,tb13,tb13,tb13,tb13,tb13,tb13,fb13,tb13,tb13,fb13,fb13,fb13,tb13,fb13,fb13,fb13,fb13,fb13]
def ba13_12 : Array Bool := #[tb13,tb13,tb13,tb13,tb13,tb13,tb13,tb13,tb13,tb13,tb13,fb13,fb13,fb13,tb13,fb13,fb13,fb13,fb13,fb13]
def ba13_13 : Array Bool := #[tb13,tb13,tb13,tb13,tb13,tb13,tb13,tb13,tb13,tb13,tb13,tb13,fb13,fb13,tb13,fb13,fb13,fb13,fb13,fb13]
def ba13_14 : Array Bool := #[tb13,tb13,tb13,tb13,tb13,tb13,tb13,tb13,tb13,tb13,tb13,tb13,tb13,fb13,tb13,fb13,fb13,fb13,fb13,fb13]
def ba13_15 : Array Bool := #[tb13,tb13,tb13,tb13,tb13,tb13,tb13,tb13,tb13,tb13,tb13,tb13,tb13,tb13,tb13,fb13,fb13,fb13,fb13,fb13]
def ba13_16 : Array Bool := #[tb13,tb13,tb13,tb13,tb13,tb13,tb13,tb13,tb13,tb13,tb13,tb13,tb13,tb13,tb13,tb13,fb13,fb13,fb13,fb13]
def ba13_17 : Array Bool := #[tb13,tb13,tb13,tb13,tb13,tb13,tb13,tb13,tb13,tb13,tb13,tb13,tb13,tb13,tb13,tb13,tb13,fb13,fb13,fb13]
def ba13_18 : Array Bool := #[tb13,tb13,tb13,tb13,tb13,tb13,tb13,tb13,tb13,tb13,tb13,tb13,tb13,tb13,tb13,tb13,tb13,tb13,fb13,fb13]
def ba13_19 : Array Bool := #[tb13,tb13,tb13,tb13,tb13,tb13,tb13,tb13,tb13,tb13,tb13,tb13,tb13,tb13,tb13,tb13,tb13,tb13,tb13,fb13]
def ba13_20 : Array Bool := #[tb13,tb13,tb13,tb13,tb13,tb13,tb13,tb13,tb13,tb13,tb13,tb13,tb13,tb13,tb13,tb13,tb13,tb13,tb13,tb13]
def ba13_21 : Array Bool := #[tb13,tb13,tb13,tb13,tb13,tb13,tb13,tb13,tb13,fb13,fb13,fb13,fb13,fb13,fb13,fb13,fb13,fb13,fb13,fb13]
def ba13_22 : Array Bool := #[tb13,tb13,tb13,tb13,tb13,tb13,tb13,tb13,tb13,tb13,fb13,fb13,fb13,fb13,fb13,fb13,fb13,fb13,fb13,fb13]
def ba13_23 : Array Bool := #[tb13,tb13,tb13,tb13,tb13,tb13,tb13,tb13,tb13,tb13,tb13,fb13,fb13,fb13,fb13,fb13,fb13,fb13,fb13,fb13]
def ba13_24 : Array Bool := #[tb13,tb13,tb13,tb13,tb13,tb13,tb13,tb13,tb13,tb13,tb13,tb13,fb13,fb13,fb13,fb13,fb13,fb13,fb13,fb13]
def ba13_25 : Array Bool := #[tb13,tb13,tb13,tb13,tb13,tb13,tb13,tb13,tb13,tb13,tb13,tb13,tb13,fb13,fb13,fb13,fb13,fb13,fb13,fb13]
def ba13_26 : Array Bool := #[tb13,tb13,tb13,tb13,tb13,tb13,tb13,tb13,tb13,tb13,tb13,tb13,tb13,tb13,fb13,fb13,fb13,fb13,fb13,fb13]

/-! ### impl_TableOk: function 31 -/
def impl_TableOk.l0 : Nat → List (S43) → Int → Int → List (S43) → Option (Bool)
 | 0, _, _, _, _ => none
 | k + 1, x6, x7, x8, x247000 => if x8 < x7 then (if 0 ≤ x8 then (if x8 < (x6.length : Int) then ((impl_isRoute.f ((rd_T43 x6 x8).f0.f0) ((rd_T43 x6 x8).f0.f1) ((rd_T43 x6 x8).f1)).bind fun t249 => (if t249 = true then (if x8 > 0 then (if 0 ≤ (wrap64 (x8 - 1)) then (if (wrap64 (x8 - 1)) < (x247000.length : Int) then ((impl_comparePrefixes.f ((rd_T43 x247000 (wrap64 (x8 - 1))).f0.f0) ((rd_T43 x247000 (wrap64 (x8 - 1))).f0.f1) ((rd_T43 x6 x8).f0.f0) ((rd_T43 x6 x8).f0.f1)).bind fun t251 => (if t251 ≥ 0 then (some false) else (impl_TableOk.l0 k x6 x7 (wrap64 (x8 + 1)) x247000))) else (none)) else (none)) else (impl_TableOk.l0 k x6 x7 (wrap64 (x8 + 1)) x247000)) else (some false))) else (none)) else (none)) else (some (decide ((x247000.length : Int) ≤ 120)))
def impl_TableOk.f (k : Nat) (l0_0 : List (S43)) : Option (Bool) := impl_TableOk.l0 k l0_0 (l0_0.length : Int) 0 l0_0
theorem impl_TableOk.mono_l : ∀ k, (∀ y0 y1 y2 y3, LeO (impl_TableOk.l0 k y0 y1 y2 y3) (impl_TableOk.l0 (k + 1) y0 y1 y2 y3))
 | 0 => fun _ _ _ _ r h => by simp [impl_TableOk.l0] at h
 | k + 1 => by
  have ih0 := impl_TableOk.mono_l k
  ·intro y0 y1 y2 y3
   unfold impl_TableOk.l0
   repeat' first
   | (with_reducible exact ih0 _ _ _ _)
   | (with_reducible exact LeO.refl _)
   | (with_reducible exact LeO.none _)
   | (with_reducible refine LeO.ite ?_ ?_)
   | (with_reducible refine LeO.bind ?_ (fun _ => ?_))
   | exact ih0 _ _ _ _
   | exact LeO.none _
   | refine LeO.ite ?_ ?_
   | refine LeO.bind ?_ (fun _ => ?_)
theorem impl_TableOk.mono : ∀ a0 k, LeO (impl_TableOk.f k a0) (impl_TableOk.f (k + 1) a0) := by
 intro a0 k
 have ih0 := impl_TableOk.mono_l k
 unfold impl_TableOk.f
 repeat' first
   | (with_reducible exact ih0 _ _ _ _)
   | (with_reducible exact LeO.refl _)
   | (with_reducible exact LeO.none _)
   | (with_reducible refine LeO.ite ?_ ?_)
   | (with_reducible refine LeO.bind ?_ (fun _ => ?_))
   | exact ih0 _ _ _ _
   | exact LeO.none _
   | refine LeO.ite ?_ ?_
   | refine LeO.bind ?_ (fun _ => ?_)
def impl_TableOk.T4 : Bool × List (List Nat × List Nat) := (true, [([], []), ([0], [0]), ([1], [1]), ([2, 1], [2]), ([3], [3]), ([4, 3], [3, 4]), ([5, 3, 3], [3, 5]), ([6], [6]), ([7, 6], [6, 7]), ([6], [6]), ([9, 6], [6, 9]), ([8, 10, 6], [6, 8, 10]), ([11, 6], [6, 11]), ([12, 6], [6, 12]), ([6], [6]), ([14, 6], [6, 14]), ([13, 15, 6, 6], [6, 13, 15]), ([16, 6], [6, 16]), ([6, 17, 3], [3, 6, 17]), ([3, 18], [3, 18])])
def impl_TableOk.B4 : List Nat := [0, 1, 3, 7, 15, 31, 63, 127, 255, 127, 639, 2047, 4095, 8191, 127, 16511, 65535, 131071, 262143, 524287]
theorem impl_TableOk.tab4 : rtab .any (opsOf Try.f31 4) = impl_TableOk.T4 := by kernel_rfl
theorem impl_TableOk.bits4 : waitsOk impl_TableOk.T4.2 impl_TableOk.B4 = true := by kernel_rfl
set_option maxHeartbeats 8000000 in
set_option maxRecDepth 100000 in
theorem impl_TableOk.calls (k : Nat) (A0_0 : Option Addr) (c0_0 : Nat) (l0_0 : List (S43)) (r : Bool) (w : World) (hr0_0 : Kd.C k43 w A0_0 l0_0.length l0_0) (hc0_0 : l0_0.length ≤ c0_0) (h : impl_TableOk.f k l0_0 = some r) :
  Calls Try.prog 31 #[.agg #[.slice A0_0 l0_0.length c0_0]] w fun e w' => e = .returned (.bool r) ∧ Below w.heap.size w w' := by
 have hu30 := Try.underlying30
 have hu43 := Try.underlying43
 have hu34 := Try.underlying34
 have HR0_0 := Aside0.mk hr0_0
 have HC0_0 := Aside0.mk hc0_0
 clear hr0_0 hc0_0
 have HB := Aside0.mk (Below.refl w.heap.size w)
 have H : (impl_TableOk.l0 k l0_0 (l0_0.length : Int) 0 l0_0) = some r := h
 clear h
 have H' := Aside0.mk H
 clear H
 go_enter Try.func31, Try.ntmps31
 go_wp2_with (first | ((with_reducible refine gate_dst (N := 1) rfl ?_); refine box_event ?hg (N := 1) ?hd (cs := #[.slice A0_0 l0_0.length c0_0]) (t := 30) ?hr ?_; (case hd => rfl); (case hg => rfl); (case hr => first | (go_simp; done) | (go_simp; rfl)); intro gb246 hg w2 hbox hb; have BK246 := Aside0.mk hbox; have GW246 := ge_ HB hg; have GE246 := ge_ HB hg; replace HB := Aside0.mk (bt_ HB hb); clear hb hbox hg; have hcz3_0 := cz_ BK246 0 (.slice A0_0 l0_0.length c0_0); have hfz3_0 := blk_frozen BK246.out 0))
 go_loopg [8] k (fun kq v8 w' => ∃ (x8_1 : Int), v8 = .int .i64 x8_1 ∧ Aside0 (impl_TableOk.l0 kq l0_0 (l0_0.length : Int) x8_1 l0_0 = some r) ∧ Aside0 (kq ≤ k) ∧ Aside0 (w'.heap[gb246]? = some (.cells #[(.slice A0_0 l0_0.length c0_0)] 30 (0, 0))) ∧ Aside0 (Below w.heap.size w w'))
 case atStart => exact ⟨(0), (by first | rfl | (simp; done) | (simp [*]; done)), H', ⟨Nat.le_refl _⟩, ⟨by (with_reducible repeat (first | refine blk_drewN ?_ _ | refine blk_drew ?_ | refine blk_alloc ?_ _)); exact BK246.out⟩, ⟨by repeat (first | (with_reducible first | exact HB.out | apply below_alloc | apply pw_below_drewN | apply below_drew1 | refine below_set ?_ GE246.out) | exact HB.out)⟩⟩
 case round =>
  clear H'
  try clear p2
  try clear c3
  try clear hcz3_0
  try clear hfz3_0
  obtain ⟨x8_1, rfl, HA, HK1, BK246, HB⟩ := hrel
  cases gk with
  | zero => exact absurd HA.out (by simp [impl_TableOk.l0])
  | succ k1 =>
   have H := HA.out
   clear HA
   simp only [impl_TableOk.l0] at H
   by_cases c4 : x8_1 < (l0_0.length : Int)
   rotate_left
   ·rw [if_neg c4] at H
    have c4b0 : decide (x8_1 < (l0_0.length : Int)) = false := decide_eq_false c4
    clear c4
    obtain rfl := Option.some.inj H
    have hcz41_0 := cz_ BK246 0 (.slice A0_0 l0_0.length c0_0)
    have hfz41_0 := blk_frozen BK246.out 0
    go_wp2
    go_ret
    exact ⟨by first | rfl | (simp [errW_none, errW_some] <;> rfl) | (simp [*, errW_none, errW_some] <;> rfl), by repeat (first | (with_reducible first | exact HB.out | apply below_alloc | apply pw_below_drewN | apply below_drew1 | refine below_set ?_ GE246.out) | exact HB.out)⟩
   rw [if_pos c4] at H
   have c4b0 : decide (x8_1 < (l0_0.length : Int)) = true := decide_eq_true c4
   clear c4
   by_cases c5 : 0 ≤ x8_1
   rotate_left
   ·rw [if_neg c5] at H
    exact absurd H (by simp)
   rw [if_pos c5] at H
   have c5b0 : decide (0 ≤ x8_1) = true := decide_eq_true c5
   clear c5
   by_cases c6 : x8_1 < (l0_0.length : Int)
   rotate_left
   ·rw [if_neg c6] at H
    exact absurd H (by simp)
   rw [if_pos c6] at H
   have c6b0 : decide (x8_1 < (l0_0.length : Int)) = true := decide_eq_true c6
   clear c6
   replace H := Option.bind_eq_some_iff.mp H
   obtain ⟨t249, A70, H⟩ := H
   have A7 := Aside0.mk A70
   clear A70
   by_cases c8 : t249 = true
   rotate_left
   ·replace c8 := Bool.eq_false_iff.mpr c8
    subst c8
    rw [if_neg (show ¬ (false = true) by decide)] at H
    obtain rfl := Option.some.inj H
    have p247 : 0 ≤ (x8_1 : Int) := of_decide_eq_true (by first | (with_reducible assumption) | assumption)
    have q247 : x8_1 < (l0_0.length : Int) := of_decide_eq_true (by first | (with_reducible assumption) | assumption)
    obtain ⟨ad247, e247, hx247_0, hx247_1, hx247_2⟩ := at_T43 HR0_0.out x8_1 p247 q247
    cases e247
    replace hx247_0 := (HB.out.cell (World.block_lt_of_cell? w _ hx247_0)).trans hx247_0
    replace hx247_1 := (HB.out.cell (World.block_lt_of_cell? w _ hx247_1)).trans hx247_1
    replace hx247_2 := (HB.out.cell (World.block_lt_of_cell? w _ hx247_2)).trans hx247_2
    replace p247 := eq_true p247
    replace q247 := eq_true q247
    try go_wp2_with (first | ((with_reducible refine gate_dst (N := 4) rfl ?_); refine box_event ?hg (N := 4) ?hd (cs := #[.int .i64 0, .int .i64 0, .int .i64 0]) (t := 43) ?hr ?_; (case hd => rfl); (case hg => rfl); (case hr => first | (go_simp; done) | (go_simp; rfl)); intro gb248 hg w35 hbox hb; have BK248 := Aside0.mk hbox; have GW248 := ge_ HB hg; have GE248 := ge_ HB hg; have NB246_248 := nl_ BK246 hg; have NB248_246 := ng_ BK246 hg; replace HB := Aside0.mk (bt_ HB hb); replace BK246 := Aside0.mk (bb_ BK246 hb); clear hb hbox hg; have hnb36 := NB248_246.out; have hnc36 := NB246_248.out; have hcz37_0 := cz_ BK248 0 (.int .i64 0); have hcz37_1 := cz_ BK248 1 (.int .i64 0); have hcz37_2 := cz_ BK248 2 (.int .i64 0); have hfz37_0 := blk_frozen BK248.out 0; have hfz37_1 := blk_frozen BK248.out 1; have hfz37_2 := blk_frozen BK248.out 2))
    have n0_ : Aside0 ((((w35.setCell ⟨gb248, 0, none⟩ (.int .i64 ((rd_T43 l0_0 x8_1).f0.f0))).setCell ⟨gb248, 1, none⟩ (.int .i64 ((rd_T43 l0_0 x8_1).f0.f1))).setCell ⟨gb248, 2, none⟩ (.int .i64 ((rd_T43 l0_0 x8_1).f1))).heap[gb246]? = some (.cells #[.slice (some ad247) l0_0.length c0_0] 30 (0, 0))) := ⟨by (with_reducible repeat (first | refine blk_drewN ?_ _ | refine blk_drew ?_ | refine blk_alloc ?_ _)); refine blk_far ?_ NB246_248.out _; (with_reducible repeat (first | refine blk_drewN ?_ _ | refine blk_drew ?_ | refine blk_alloc ?_ _)); refine blk_far ?_ NB246_248.out _; (with_reducible repeat (first | refine blk_drewN ?_ _ | refine blk_drew ?_ | refine blk_alloc ?_ _)); refine blk_far ?_ NB246_248.out _; (with_reducible repeat (first | refine blk_drewN ?_ _ | refine blk_drew ?_ | refine blk_alloc ?_ _)); exact BK246.out⟩
    have n1_ : Aside0 ((((w35.setCell ⟨gb248, 0, none⟩ (.int .i64 ((rd_T43 l0_0 x8_1).f0.f0))).setCell ⟨gb248, 1, none⟩ (.int .i64 ((rd_T43 l0_0 x8_1).f0.f1))).setCell ⟨gb248, 2, none⟩ (.int .i64 ((rd_T43 l0_0 x8_1).f1))).heap[gb248]? = some (.cells #[.int .i64 ((rd_T43 l0_0 x8_1).f0.f0), .int .i64 ((rd_T43 l0_0 x8_1).f0.f1), .int .i64 ((rd_T43 l0_0 x8_1).f1)] 43 (0, 0))) := ⟨by (with_reducible repeat (first | refine blk_drewN ?_ _ | refine blk_drew ?_ | refine blk_alloc ?_ _)); refine blk_put (cs := #[.int .i64 ((rd_T43 l0_0 x8_1).f0.f0), .int .i64 ((rd_T43 l0_0 x8_1).f0.f1), .int .i64 0]) ?_ 2 _ rfl; (with_reducible repeat (first | refine blk_drewN ?_ _ | refine blk_drew ?_ | refine blk_alloc ?_ _)); refine blk_put (cs := #[.int .i64 ((rd_T43 l0_0 x8_1).f0.f0), .int .i64 0, .int .i64 0]) ?_ 1 _ rfl; (with_reducible repeat (first | refine blk_drewN ?_ _ | refine blk_drew ?_ | refine blk_alloc ?_ _)); refine blk_put (cs := #[.int .i64 0, .int .i64 0, .int .i64 0]) ?_ 0 _ rfl; (with_reducible repeat (first | refine blk_drewN ?_ _ | refine blk_drew ?_ | refine blk_alloc ?_ _)); exact BK248.out⟩
    have n2_ : Aside0 (Below w.heap.size w (((w35.setCell ⟨gb248, 0, none⟩ (.int .i64 ((rd_T43 l0_0 x8_1).f0.f0))).setCell ⟨gb248, 1, none⟩ (.int .i64 ((rd_T43 l0_0 x8_1).f0.f1))).setCell ⟨gb248, 2, none⟩ (.int .i64 ((rd_T43 l0_0 x8_1).f1)))) := ⟨by repeat (first | (with_reducible first | exact HB.out | apply below_alloc | apply pw_below_drewN | apply below_drew1 | refine below_set ?_ GE246.out | refine below_set ?_ GE248.out) | exact HB.out)⟩
    (try clear BK246)
    (try clear BK248)
    (try clear HB)
    generalize (((w35.setCell ⟨gb248, 0, none⟩ (.int .i64 ((rd_T43 l0_0 x8_1).f0.f0))).setCell ⟨gb248, 1, none⟩ (.int .i64 ((rd_T43 l0_0 x8_1).f0.f1))).setCell ⟨gb248, 2, none⟩ (.int .i64 ((rd_T43 l0_0 x8_1).f1))) = w38 at n0_ n1_ n2_ ⊢
    have BK246 := n0_
    have BK248 := n1_
    have HB := n2_
    clear n0_ n1_ n2_
    replace BK246 := Aside0.mk (blk_drew BK246.out)
    replace BK248 := Aside0.mk (blk_drew BK248.out)
    replace HB := Aside0.mk (below_drew1 HB.out)
    refine start_ (n := 20) (S := fun w' => w'.cell? ⟨gb248, 0, none⟩ = some (.int .i64 ((rd_T43 l0_0 x8_1).f0.f0)) ∧ w'.cell? ⟨gb248, 1, none⟩ = some (.int .i64 ((rd_T43 l0_0 x8_1).f0.f1)) ∧ w'.cell? ⟨gb248, 2, none⟩ = some (.int .i64 ((rd_T43 l0_0 x8_1).f1))) (ds := []) ba13_0 (by kernel_rfl) rfl rfl ⟨(blk_cell BK248.out 0).trans rfl, (blk_cell BK248.out 1).trans rfl, (blk_cell BK248.out 2).trans rfl⟩ (fun hHeld => ?_); refine with_tabW impl_TableOk.tab4 impl_TableOk.bits4 (fun HT_ HW_ => ?_)
    generalize w38.drew = w39 at BK246 BK248 HB hHeld ⊢
    refine pt_ 0 13 ba13_1 HT_ HW_ hHeld ?_
    refine one_ (i := 1) (N := some 14) ba13_2 rfl rfl (one_of HT_.out (by kernel_rfl)) (by decide) (fun K hK => ?_)
    refine gz_ Try.func38 #[.agg #[.int .i64 ((rd_T43 l0_0 x8_1).f0.f0), .int .i64 ((rd_T43 l0_0 x8_1).f0.f1), .int .i64 ((rd_T43 l0_0 x8_1).f1)]] ?_
    with_reducible refine (impl_isRoute.calls ((rd_T43 l0_0 x8_1).f0.f0) ((rd_T43 l0_0 x8_1).f0.f1) ((rd_T43 l0_0 x8_1).f1) false _ A7.out).mono ?_
    rintro e w40 ⟨rfl, hb⟩
    refine ⟨_, rfl, ?_⟩
    replace BK246 := Aside0.mk (bb_ BK246 hb)
    replace BK248 := Aside0.mk (bb_ BK248 hb)
    replace HB := Aside0.mk (bt_ HB hb)
    (try clear hb)
    (try clear hb2)
    (try clear hk)
    (try clear hi)
    refine hK.out _ _ ⟨(blk_cell BK248.out 0).trans rfl, (blk_cell BK248.out 1).trans rfl, (blk_cell BK248.out 2).trans rfl⟩ (fun hHeld => ?_)
    clear hK K
    refine nz_ 14 ?_
    refine pz_ 2 15 ba13_3 HT_ ?_
    refine pz_ 3 16 ba13_4 HT_ ?_
    refine pu_ 4 17 ba13_5 HT_ ?_
    refine pu_ 5 18 ba13_6 HT_ ?_
    refine pu_ 6 19 ba13_7 HT_ ?_
    refine pu_ 7 20 ba13_8 HT_ ?_
    refine pu_ 8 21 ba13_21 HT_ ?_
    refine pu_ 9 22 ba13_22 HT_ ?_
    refine pu_ 10 23 ba13_23 HT_ ?_
    refine pu_ 11 24 ba13_24 HT_ ?_
    refine pu_ 12 25 ba13_25 HT_ ?_
    refine pu_ 13 26 ba13_26 HT_ ?_
    refine pu_ 14 27 ba13_15 HT_ ?_
    refine pu_ 15 28 ba13_16 HT_ ?_
    refine pu_ 16 29 ba13_17 HT_ ?_
    refine pu_ 17 30 ba13_18 HT_ ?_
    refine pu_ 18 31 ba13_19 HT_ ?_
    refine pz_ 19 32 ba13_20 HT_ ?_
    refine done_ (done_of HT_.out (by kernel_rfl)) ?_
    try go_wp2
    go_ret
    exact ⟨by first | rfl | (simp [errW_none, errW_some] <;> rfl) | (simp [*, errW_none, errW_some] <;> rfl), by repeat (first | (with_reducible first | exact HB.out | apply below_alloc | apply pw_below_drewN | apply below_drew1 | refine below_set ?_ GE246.out | refine below_set ?_ GE248.out) | exact HB.out)⟩
   subst c8
   rw [if_pos rfl] at H
   by_cases c9 : x8_1 > 0
   rotate_left
   ·rw [if_neg c9] at H
    have c9b0 : decide (0 < x8_1) = false := decide_eq_false c9
    clear c9
    have H' := Aside0.mk H
    clear H
    have p247 : 0 ≤ (x8_1 : Int) := of_decide_eq_true (by first | (with_reducible assumption) | assumption)
    have q247 : x8_1 < (l0_0.length : Int) := of_decide_eq_true (by first | (with_reducible assumption) | assumption)
    obtain ⟨ad247, e247, hx247_0, hx247_1, hx247_2⟩ := at_T43 HR0_0.out x8_1 p247 q247
    cases e247
    replace hx247_0 := (HB.out.cell (World.block_lt_of_cell? w _ hx247_0)).trans hx247_0
    replace hx247_1 := (HB.out.cell (World.block_lt_of_cell? w _ hx247_1)).trans hx247_1
    replace hx247_2 := (HB.out.cell (World.block_lt_of_cell? w _ hx247_2)).trans hx247_2
    replace p247 := eq_true p247
    replace q247 := eq_true q247
    try go_wp2_with (first | ((with_reducible refine gate_dst (N := 4) rfl ?_); refine box_event ?hg (N := 4) ?hd (cs := #[.int .i64 0, .int .i64 0, .int .i64 0]) (t := 43) ?hr ?_; (case hd => rfl); (case hg => rfl); (case hr => first | (go_simp; done) | (go_simp; rfl)); intro gb248 hg w29 hbox hb; have BK248 := Aside0.mk hbox; have GW248 := ge_ HB hg; have GE248 := ge_ HB hg; have NB246_248 := nl_ BK246 hg; have NB248_246 := ng_ BK246 hg; replace HB := Aside0.mk (bt_ HB hb); replace BK246 := Aside0.mk (bb_ BK246 hb); clear hb hbox hg; have hnb30 := NB248_246.out; have hnc30 := NB246_248.out; have hcz31_0 := cz_ BK248 0 (.int .i64 0); have hcz31_1 := cz_ BK248 1 (.int .i64 0); have hcz31_2 := cz_ BK248 2 (.int .i64 0); have hfz31_0 := blk_frozen BK248.out 0; have hfz31_1 := blk_frozen BK248.out 1; have hfz31_2 := blk_frozen BK248.out 2))
    have n0_ : Aside0 ((((w29.setCell ⟨gb248, 0, none⟩ (.int .i64 ((rd_T43 l0_0 x8_1).f0.f0))).setCell ⟨gb248, 1, none⟩ (.int .i64 ((rd_T43 l0_0 x8_1).f0.f1))).setCell ⟨gb248, 2, none⟩ (.int .i64 ((rd_T43 l0_0 x8_1).f1))).heap[gb246]? = some (.cells #[.slice (some ad247) l0_0.length c0_0] 30 (0, 0))) := ⟨by (with_reducible repeat (first | refine blk_drewN ?_ _ | refine blk_drew ?_ | refine blk_alloc ?_ _)); refine blk_far ?_ NB246_248.out _; (with_reducible repeat (first | refine blk_drewN ?_ _ | refine blk_drew ?_ | refine blk_alloc ?_ _)); refine blk_far ?_ NB246_248.out _; (with_reducible repeat (first | refine blk_drewN ?_ _ | refine blk_drew ?_ | refine blk_alloc ?_ _)); refine blk_far ?_ NB246_248.out _; (with_reducible repeat (first | refine blk_drewN ?_ _ | refine blk_drew ?_ | refine blk_alloc ?_ _)); exact BK246.out⟩
    have n1_ : Aside0 ((((w29.setCell ⟨gb248, 0, none⟩ (.int .i64 ((rd_T43 l0_0 x8_1).f0.f0))).setCell ⟨gb248, 1, none⟩ (.int .i64 ((rd_T43 l0_0 x8_1).f0.f1))).setCell ⟨gb248, 2, none⟩ (.int .i64 ((rd_T43 l0_0 x8_1).f1))).heap[gb248]? = some (.cells #[.int .i64 ((rd_T43 l0_0 x8_1).f0.f0), .int .i64 ((rd_T43 l0_0 x8_1).f0.f1), .int .i64 ((rd_T43 l0_0 x8_1).f1)] 43 (0, 0))) := ⟨by (with_reducible repeat (first | refine blk_drewN ?_ _ | refine blk_drew ?_ | refine blk_alloc ?_ _)); refine blk_put (cs := #[.int .i64 ((rd_T43 l0_0 x8_1).f0.f0), .int .i64 ((rd_T43 l0_0 x8_1).f0.f1), .int .i64 0]) ?_ 2 _ rfl; (with_reducible repeat (first | refine blk_drewN ?_ _ | refine blk_drew ?_ | refine blk_alloc ?_ _)); refine blk_put (cs := #[.int .i64 ((rd_T43 l0_0 x8_1).f0.f0), .int .i64 0, .int .i64 0]) ?_ 1 _ rfl; (with_reducible repeat (first | refine blk_drewN ?_ _ | refine blk_drew ?_ | refine blk_alloc ?_ _)); refine blk_put (cs := #[.int .i64 0, .int .i64 0, .int .i64 0]) ?_ 0 _ rfl; (with_reducible repeat (first | refine blk_drewN ?_ _ | refine blk_drew ?_ | refine blk_alloc ?_ _)); exact BK248.out⟩
    have n2_ : Aside0 (Below w.heap.size w (((w29.setCell ⟨gb248, 0, none⟩ (.int .i64 ((rd_T43 l0_0 x8_1).f0.f0))).setCell ⟨gb248, 1, none⟩ (.int .i64 ((rd_T43 l0_0 x8_1).f0.f1))).setCell ⟨gb248, 2, none⟩ (.int .i64 ((rd_T43 l0_0 x8_1).f1)))) := ⟨by repeat (first | (with_reducible first | exact HB.out | apply below_alloc | apply pw_below_drewN | apply below_drew1 | refine below_set ?_ GE246.out | refine below_set ?_ GE248.out) | exact HB.out)⟩
    (try clear BK246)
    (try clear BK248)
    (try clear HB)
    generalize (((w29.setCell ⟨gb248, 0, none⟩ (.int .i64 ((rd_T43 l0_0 x8_1).f0.f0))).setCell ⟨gb248, 1, none⟩ (.int .i64 ((rd_T43 l0_0 x8_1).f0.f1))).setCell ⟨gb248, 2, none⟩ (.int .i64 ((rd_T43 l0_0 x8_1).f1))) = w32 at n0_ n1_ n2_ ⊢
    have BK246 := n0_
    have BK248 := n1_
    have HB := n2_
    clear n0_ n1_ n2_
    replace BK246 := Aside0.mk (blk_drew BK246.out)
    replace BK248 := Aside0.mk (blk_drew BK248.out)
    replace HB := Aside0.mk (below_drew1 HB.out)
    refine start_ (n := 20) (S := fun w' => w'.cell? ⟨gb248, 0, none⟩ = some (.int .i64 ((rd_T43 l0_0 x8_1).f0.f0)) ∧ w'.cell? ⟨gb248, 1, none⟩ = some (.int .i64 ((rd_T43 l0_0 x8_1).f0.f1)) ∧ w'.cell? ⟨gb248, 2, none⟩ = some (.int .i64 ((rd_T43 l0_0 x8_1).f1))) (ds := []) ba13_0 (by kernel_rfl) rfl rfl ⟨(blk_cell BK248.out 0).trans rfl, (blk_cell BK248.out 1).trans rfl, (blk_cell BK248.out 2).trans rfl⟩ (fun hHeld => ?_); refine with_tabW impl_TableOk.tab4 impl_TableOk.bits4 (fun HT_ HW_ => ?_)
    generalize w32.drew = w33 at BK246 BK248 HB hHeld ⊢
    refine pt_ 0 13 ba13_1 HT_ HW_ hHeld ?_
    refine one_ (i := 1) (N := some 14) ba13_2 rfl rfl (one_of HT_.out (by kernel_rfl)) (by decide) (fun K hK => ?_)
    refine gz_ Try.func38 #[.agg #[.int .i64 ((rd_T43 l0_0 x8_1).f0.f0), .int .i64 ((rd_T43 l0_0 x8_1).f0.f1), .int .i64 ((rd_T43 l0_0 x8_1).f1)]] ?_
    with_reducible refine (impl_isRoute.calls ((rd_T43 l0_0 x8_1).f0.f0) ((rd_T43 l0_0 x8_1).f0.f1) ((rd_T43 l0_0 x8_1).f1) true _ A7.out).mono ?_
    rintro e w34 ⟨rfl, hb⟩
    refine ⟨_, rfl, ?_⟩
    replace BK246 := Aside0.mk (bb_ BK246 hb)
    replace BK248 := Aside0.mk (bb_ BK248 hb)
    replace HB := Aside0.mk (bt_ HB hb)
    (try clear hb)
    (try clear hb2)
    (try clear hk)
    (try clear hi)
    refine hK.out _ _ ⟨(blk_cell BK248.out 0).trans rfl, (blk_cell BK248.out 1).trans rfl, (blk_cell BK248.out 2).trans rfl⟩ (fun hHeld => ?_)
    clear hK K
    refine nz_ 14 ?_
    refine pz_ 2 15 ba13_3 HT_ ?_
    refine pz_ 3 16 ba13_4 HT_ ?_
    refine pz_ 4 17 ba13_5 HT_ ?_
    refine pz_ 5 18 ba13_6 HT_ ?_
    refine pz_ 6 19 ba13_7 HT_ ?_
    refine pu_ 7 20 ba13_8 HT_ ?_
    refine pu_ 8 21 ba13_21 HT_ ?_
    refine pu_ 9 22 ba13_22 HT_ ?_
    refine pu_ 10 23 ba13_23 HT_ ?_
    refine pu_ 11 24 ba13_24 HT_ ?_
    refine pu_ 12 25 ba13_25 HT_ ?_
    refine pu_ 13 26 ba13_26 HT_ ?_
    refine pu_ 14 27 ba13_15 HT_ ?_
    refine pu_ 15 28 ba13_16 HT_ ?_
    refine pu_ 16 29 ba13_17 HT_ ?_
    refine pu_ 17 30 ba13_18 HT_ ?_
    refine pz_ 18 31 ba13_19 HT_ ?_
    refine pz_ 19 32 ba13_20 HT_ ?_
    refine done_ (done_of HT_.out (by kernel_rfl)) ?_
    try go_wp2
    go_roundg k1
    case measure => have := HK1.out; omega
    case rel => exact ⟨(wrap64 (x8_1 + 1)), (by first | rfl | (simp; done) | (simp [*]; done)), H', ⟨by have := HK1.out; omega⟩, ⟨by (with_reducible repeat (first | refine blk_drewN ?_ _ | refine blk_drew ?_ | refine blk_alloc ?_ _)); exact BK246.out⟩, ⟨by repeat (first | (with_reducible first | exact HB.out | apply below_alloc | apply pw_below_drewN | apply below_drew1 | refine below_set ?_ GE246.out | refine below_set ?_ GE248.out) | exact HB.out)⟩⟩
   rw [if_pos c9] at H
   have c9b0 : decide (0 < x8_1) = true := decide_eq_true c9
   clear c9
   obtain ⟨ji10, hji10⟩ : ∃ j_ : Int, (wrap64 (x8_1 - 1)) = j_ := ⟨_, rfl⟩
   first | rw [hji10] at H | simp only [hji10] at H
   (try rw [hji10] at A7)
   have hji10w : (IntKind.i64.wrap (x8_1 - 1)) = ji10 := (i64_w _).trans hji10
   by_cases c11 : 0 ≤ (ji10)
   rotate_left
   ·rw [if_neg c11] at H
    exact absurd H (by simp)
   rw [if_pos c11] at H
   have c11b0 : decide (0 ≤ (ji10)) = true := decide_eq_true c11
   clear c11
   by_cases c12 : (ji10) < (l0_0.length : Int)
   rotate_left
   ·rw [if_neg c12] at H
    exact absurd H (by simp)
   rw [if_pos c12] at H
   have c12b0 : decide ((ji10) < (l0_0.length : Int)) = true := decide_eq_true c12
   clear c12
   replace H := Option.bind_eq_some_iff.mp H
   obtain ⟨t251, A130, H⟩ := H
   have A13 := Aside0.mk A130
   clear A130
   by_cases c14 : t251 ≥ 0
   ·rw [if_pos c14] at H
    have c14b0 : decide (0 ≤ t251) = true := decide_eq_true c14
    clear c14
    obtain rfl := Option.some.inj H
    have p247 : 0 ≤ (x8_1 : Int) := of_decide_eq_true (by first | (with_reducible assumption) | assumption)
    have q247 : x8_1 < (l0_0.length : Int) := of_decide_eq_true (by first | (with_reducible assumption) | assumption)
    obtain ⟨ad247, e247, hx247_0, hx247_1, hx247_2⟩ := at_T43 HR0_0.out x8_1 p247 q247
    cases e247
    replace hx247_0 := (HB.out.cell (World.block_lt_of_cell? w _ hx247_0)).trans hx247_0
    replace hx247_1 := (HB.out.cell (World.block_lt_of_cell? w _ hx247_1)).trans hx247_1
    replace hx247_2 := (HB.out.cell (World.block_lt_of_cell? w _ hx247_2)).trans hx247_2
    replace p247 := eq_true p247
    replace q247 := eq_true q247
    try go_wp2_with (first | ((with_reducible refine gate_dst (N := 4) rfl ?_); refine box_event ?hg (N := 4) ?hd (cs := #[.int .i64 0, .int .i64 0, .int .i64 0]) (t := 43) ?hr ?_; (case hd => rfl); (case hg => rfl); (case hr => first | (go_simp; done) | (go_simp; rfl)); intro gb248 hg w15 hbox hb; have BK248 := Aside0.mk hbox; have GW248 := ge_ HB hg; have GE248 := ge_ HB hg; have NB246_248 := nl_ BK246 hg; have NB248_246 := ng_ BK246 hg; replace HB := Aside0.mk (bt_ HB hb); replace BK246 := Aside0.mk (bb_ BK246 hb); clear hb hbox hg; have hnb16 := NB248_246.out; have hnc16 := NB246_248.out; have hcz17_0 := cz_ BK248 0 (.int .i64 0); have hcz17_1 := cz_ BK248 1 (.int .i64 0); have hcz17_2 := cz_ BK248 2 (.int .i64 0); have hfz17_0 := blk_frozen BK248.out 0; have hfz17_1 := blk_frozen BK248.out 1; have hfz17_2 := blk_frozen BK248.out 2))
    have n0_ : Aside0 ((((w15.setCell ⟨gb248, 0, none⟩ (.int .i64 ((rd_T43 l0_0 x8_1).f0.f0))).setCell ⟨gb248, 1, none⟩ (.int .i64 ((rd_T43 l0_0 x8_1).f0.f1))).setCell ⟨gb248, 2, none⟩ (.int .i64 ((rd_T43 l0_0 x8_1).f1))).heap[gb246]? = some (.cells #[.slice (some ad247) l0_0.length c0_0] 30 (0, 0))) := ⟨by (with_reducible repeat (first | refine blk_drewN ?_ _ | refine blk_drew ?_ | refine blk_alloc ?_ _)); refine blk_far ?_ NB246_248.out _; (with_reducible repeat (first | refine blk_drewN ?_ _ | refine blk_drew ?_ | refine blk_alloc ?_ _)); refine blk_far ?_ NB246_248.out _; (with_reducible repeat (first | refine blk_drewN ?_ _ | refine blk_drew ?_ | refine blk_alloc ?_ _)); refine blk_far ?_ NB246_248.out _; (with_reducible repeat (first | refine blk_drewN ?_ _ | refine blk_drew ?_ | refine blk_alloc ?_ _)); exact BK246.out⟩
    have n1_ : Aside0 ((((w15.setCell ⟨gb248, 0, none⟩ (.int .i64 ((rd_T43 l0_0 x8_1).f0.f0))).setCell ⟨gb248, 1, none⟩ (.int .i64 ((rd_T43 l0_0 x8_1).f0.f1))).setCell ⟨gb248, 2, none⟩ (.int .i64 ((rd_T43 l0_0 x8_1).f1))).heap[gb248]? = some (.cells #[.int .i64 ((rd_T43 l0_0 x8_1).f0.f0), .int .i64 ((rd_T43 l0_0 x8_1).f0.f1), .int .i64 ((rd_T43 l0_0 x8_1).f1)] 43 (0, 0))) := ⟨by (with_reducible repeat (first | refine blk_drewN ?_ _ | refine blk_drew ?_ | refine blk_alloc ?_ _)); refine blk_put (cs := #[.int .i64 ((rd_T43 l0_0 x8_1).f0.f0), .int .i64 ((rd_T43 l0_0 x8_1).f0.f1), .int .i64 0]) ?_ 2 _ rfl; (with_reducible repeat (first | refine blk_drewN ?_ _ | refine blk_drew ?_ | refine blk_alloc ?_ _)); refine blk_put (cs := #[.int .i64 ((rd_T43 l0_0 x8_1).f0.f0), .int .i64 0, .int .i64 0]) ?_ 1 _ rfl; (with_reducible repeat (first | refine blk_drewN ?_ _ | refine blk_drew ?_ | refine blk_alloc ?_ _)); refine blk_put (cs := #[.int .i64 0, .int .i64 0, .int .i64 0]) ?_ 0 _ rfl; (with_reducible repeat (first | refine blk_drewN ?_ _ | refine blk_drew ?_ | refine blk_alloc ?_ _)); exact BK248.out⟩
    have n2_ : Aside0 (Below w.heap.size w (((w15.setCell ⟨gb248, 0, none⟩ (.int .i64 ((rd_T43 l0_0 x8_1).f0.f0))).setCell ⟨gb248, 1, none⟩ (.int .i64 ((rd_T43 l0_0 x8_1).f0.f1))).setCell ⟨gb248, 2, none⟩ (.int .i64 ((rd_T43 l0_0 x8_1).f1)))) := ⟨by repeat (first | (with_reducible first | exact HB.out | apply below_alloc | apply pw_below_drewN | apply below_drew1 | refine below_set ?_ GE246.out | refine below_set ?_ GE248.out) | exact HB.out)⟩
    (try clear BK246)
    (try clear BK248)
    (try clear HB)
    generalize (((w15.setCell ⟨gb248, 0, none⟩ (.int .i64 ((rd_T43 l0_0 x8_1).f0.f0))).setCell ⟨gb248, 1, none⟩ (.int .i64 ((rd_T43 l0_0 x8_1).f0.f1))).setCell ⟨gb248, 2, none⟩ (.int .i64 ((rd_T43 l0_0 x8_1).f1))) = w18 at n0_ n1_ n2_ ⊢
    have BK246 := n0_
    have BK248 := n1_
    have HB := n2_
    clear n0_ n1_ n2_
    replace BK246 := Aside0.mk (blk_drew BK246.out)
    replace BK248 := Aside0.mk (blk_drew BK248.out)
    replace HB := Aside0.mk (below_drew1 HB.out)
    have p250 : 0 ≤ ((ji10) : Int) := of_decide_eq_true (by first | (with_reducible assumption) | assumption)
    have q250 : (ji10) < (l0_0.length : Int) := of_decide_eq_true (by first | (with_reducible assumption) | assumption)
    obtain ⟨ad250, e250, hx250_0, hx250_1, hx250_2⟩ := at_T43 HR0_0.out (ji10) p250 q250
    have hw250_2 := hx250_2
    have hw250_1 := hx250_1
    have hw250_0 := hx250_0
    obtain rfl : ad247 = ad250 := (by injection e250)
    replace hx250_0 := (HB.out.cell (World.block_lt_of_cell? w _ hx250_0)).trans hx250_0
    replace hx250_1 := (HB.out.cell (World.block_lt_of_cell? w _ hx250_1)).trans hx250_1
    replace hx250_2 := (HB.out.cell (World.block_lt_of_cell? w _ hx250_2)).trans hx250_2
    replace p250 := eq_true p250
    replace q250 := eq_true q250
    refine start_ (n := 20) (S := fun w' => w'.cell? ⟨gb248, 0, none⟩ = some (.int .i64 ((rd_T43 l0_0 x8_1).f0.f0)) ∧ w'.cell? ⟨gb248, 1, none⟩ = some (.int .i64 ((rd_T43 l0_0 x8_1).f0.f1)) ∧ w'.cell? ⟨gb248, 2, none⟩ = some (.int .i64 ((rd_T43 l0_0 x8_1).f1)) ∧ w'.cell? ⟨gb246, 0, none⟩ = some (.slice (some ad247) l0_0.length c0_0) ∧ w'.cell? (ad247.add (((ji10)).toNat * 3)) = some (.int .i64 ((rd_T43 l0_0 (ji10)).f0.f0)) ∧ w'.cell? ⟨(ad247.add (((ji10)).toNat * 3)).block, (ad247.add (((ji10)).toNat * 3)).off + 1, none⟩ = some (.int .i64 ((rd_T43 l0_0 (ji10)).f0.f1)) ∧ w'.cell? ⟨(ad247.add (((ji10)).toNat * 3)).block, (ad247.add (((ji10)).toNat * 3)).off + 2, none⟩ = some (.int .i64 ((rd_T43 l0_0 (ji10)).f1))) (ds := []) ba13_0 (by kernel_rfl) rfl rfl ⟨(blk_cell BK248.out 0).trans rfl, (blk_cell BK248.out 1).trans rfl, (blk_cell BK248.out 2).trans rfl, (blk_cell BK246.out 0).trans rfl, (hc_ HB hw250_0), (hc_ HB hw250_1), (hc_ HB hw250_2)⟩ (fun hHeld => ?_); refine with_tabW impl_TableOk.tab4 impl_TableOk.bits4 (fun HT_ HW_ => ?_)
    generalize w18.drew = w19 at BK246 BK248 HB hx250_0 hx250_1 hx250_2 hHeld ⊢
    refine pt_ 0 13 ba13_1 HT_ HW_ hHeld ?_
    refine one_ (i := 1) (N := some 14) ba13_2 rfl rfl (one_of HT_.out (by kernel_rfl)) (by decide) (fun K hK => ?_)
    refine gz_ Try.func38 #[.agg #[.int .i64 ((rd_T43 l0_0 x8_1).f0.f0), .int .i64 ((rd_T43 l0_0 x8_1).f0.f1), .int .i64 ((rd_T43 l0_0 x8_1).f1)]] ?_
    with_reducible refine (impl_isRoute.calls ((rd_T43 l0_0 x8_1).f0.f0) ((rd_T43 l0_0 x8_1).f0.f1) ((rd_T43 l0_0 x8_1).f1) true _ A7.out).mono ?_
    rintro e w20 ⟨rfl, hb⟩
    refine ⟨_, rfl, ?_⟩
    replace BK246 := Aside0.mk (bb_ BK246 hb)
    replace BK248 := Aside0.mk (bb_ BK248 hb)
    replace HB := Aside0.mk (bt_ HB hb)
    (try clear hb)
    (try clear hb2)
    (try clear hk)
    (try clear hi)
    refine hK.out _ _ ⟨(blk_cell BK248.out 0).trans rfl, (blk_cell BK248.out 1).trans rfl, (blk_cell BK248.out 2).trans rfl, (blk_cell BK246.out 0).trans rfl, (hc_ HB hw250_0), (hc_ HB hw250_1), (hc_ HB hw250_2)⟩ (fun hHeld => ?_)
    clear hK K
    refine nz_ 14 ?_
    refine pz_ 2 15 ba13_3 HT_ ?_
    refine pz_ 3 16 ba13_4 HT_ ?_
    refine pz_ 4 17 ba13_5 HT_ ?_
    refine pz_ 5 18 ba13_6 HT_ ?_
    refine pz_ 6 19 ba13_7 HT_ ?_
    refine pz_ 7 20 ba13_8 HT_ ?_
    refine pz_ 9 22 ba13_9 HT_ ?_
    refine pz_ 10 23 ba13_10 HT_ ?_
    refine pz_ 14 27 ba13_11 HT_ ?_
    refine pt_ 8 21 ba13_12 HT_ HW_ hHeld ?_
    refine pz_ 11 24 ba13_13 HT_ ?_
    refine pz_ 12 25 ba13_14 HT_ ?_
    refine pt_ 13 26 ba13_15 HT_ HW_ hHeld ?_
    refine pt_ 15 28 ba13_16 HT_ HW_ hHeld ?_
    refine one_ (i := 16) (N := some 29) ba13_17 rfl rfl (one_of HT_.out (by kernel_rfl)) (by decide) (fun K hK => ?_)
    refine goes_ Try.func52 (by kernel_rfl) rfl #[.agg #[.int .i64 ((rd_T43 l0_0 (ji10)).f0.f0), .int .i64 ((rd_T43 l0_0 (ji10)).f0.f1)], .agg #[.int .i64 ((rd_T43 l0_0 x8_1).f0.f0), .int .i64 ((rd_T43 l0_0 x8_1).f0.f1)]] (by rfl) rfl rfl (by (try simp only [List.map_toArray, List.map_cons, List.map_nil]); first | done | (simp only [hji10]; rfl) | rfl | (simp only [List.length_drop, List.length_take]; rfl)) ?_
    with_reducible refine (impl_comparePrefixes.calls ((rd_T43 l0_0 (ji10)).f0.f0) ((rd_T43 l0_0 (ji10)).f0.f1) ((rd_T43 l0_0 x8_1).f0.f0) ((rd_T43 l0_0 x8_1).f0.f1) t251 _ A13.out).mono ?_
    rintro e w21 ⟨rfl, hb⟩
    refine ⟨_, rfl, ?_⟩
    replace BK246 := Aside0.mk (bb_ BK246 hb)
    replace BK248 := Aside0.mk (bb_ BK248 hb)
    replace HB := Aside0.mk (bt_ HB hb)
    (try clear hb)
    (try clear hb2)
    (try clear hk)
    (try clear hi)
    refine hK.out _ _ ⟨(blk_cell BK248.out 0).trans rfl, (blk_cell BK248.out 1).trans rfl, (blk_cell BK248.out 2).trans rfl, (blk_cell BK246.out 0).trans rfl, (hc_ HB hw250_0), (hc_ HB hw250_1), (hc_ HB hw250_2)⟩ (fun hHeld => ?_)
    clear hK K
    refine nz_ 29 ?_
    refine pz_ 17 30 ba13_18 HT_ ?_
    refine pz_ 18 31 ba13_19 HT_ ?_
    refine pz_ 19 32 ba13_20 HT_ ?_
    refine done_ (done_of HT_.out (by kernel_rfl)) ?_
    try go_wp2
    go_ret
    exact ⟨by first | rfl | (simp [errW_none, errW_some] <;> rfl) | (simp only [← hji10]; first | rfl | (simp [errW_none, errW_some] <;> rfl)) | (simp [*, errW_none, errW_some] <;> rfl), by repeat (first | (with_reducible first | exact HB.out | apply below_alloc | apply pw_below_drewN | apply below_drew1 | refine below_set ?_ GE246.out | refine below_set ?_ GE248.out) | exact HB.out)⟩
   rw [if_neg c14] at H
   have c14b0 : decide (0 ≤ t251) = false := decide_eq_false c14
   clear c14
   have H' := Aside0.mk H
   clear H
   have p247 : 0 ≤ (x8_1 : Int) := of_decide_eq_true (by first | (with_reducible assumption) | assumption)
   have q247 : x8_1 < (l0_0.length : Int) := of_decide_eq_true (by first | (with_reducible assumption) | assumption)
   obtain ⟨ad247, e247, hx247_0, hx247_1, hx247_2⟩ := at_T43 HR0_0.out x8_1 p247 q247
   cases e247
   replace hx247_0 := (HB.out.cell (World.block_lt_of_cell? w _ hx247_0)).trans hx247_0
   replace hx247_1 := (HB.out.cell (World.block_lt_of_cell? w _ hx247_1)).trans hx247_1
   replace hx247_2 := (HB.out.cell (World.block_lt_of_cell? w _ hx247_2)).trans hx247_2
   replace p247 := eq_true p247
   replace q247 := eq_true q247
   try go_wp2_with (first | ((with_reducible refine gate_dst (N := 4) rfl ?_); refine box_event ?hg (N := 4) ?hd (cs := #[.int .i64 0, .int .i64 0, .int .i64 0]) (t := 43) ?hr ?_; (case hd => rfl); (case hg => rfl); (case hr => first | (go_simp; done) | (go_simp; rfl)); intro gb248 hg w22 hbox hb; have BK248 := Aside0.mk hbox; have GW248 := ge_ HB hg; have GE248 := ge_ HB hg; have NB246_248 := nl_ BK246 hg; have NB248_246 := ng_ BK246 hg; replace HB := Aside0.mk (bt_ HB hb); replace BK246 := Aside0.mk (bb_ BK246 hb); clear hb hbox hg; have hnb23 := NB248_246.out; have hnc23 := NB246_248.out; have hcz24_0 := cz_ BK248 0 (.int .i64 0); have hcz24_1 := cz_ BK248 1 (.int .i64 0); have hcz24_2 := cz_ BK248 2 (.int .i64 0); have hfz24_0 := blk_frozen BK248.out 0; have hfz24_1 := blk_frozen BK248.out 1; have hfz24_2 := blk_frozen BK248.out 2))
   have n0_ : Aside0 ((((w22.setCell ⟨gb248, 0, none⟩ (.int .i64 ((rd_T43 l0_0 x8_1).f0.f0))).setCell ⟨gb248, 1, none⟩ (.int .i64 ((rd_T43 l0_0 x8_1).f0.f1))).setCell ⟨gb248, 2, none⟩ (.int .i64 ((rd_T43 l0_0 x8_1).f1))).heap[gb246]? = some (.cells #[.slice (some ad247) l0_0.length c0_0] 30 (0, 0))) := ⟨by (with_reducible repeat (first | refine blk_drewN ?_ _ | refine blk_drew ?_ | refine blk_alloc ?_ _)); refine blk_far ?_ NB246_248.out _; (with_reducible repeat (first | refine blk_drewN ?_ _ | refine blk_drew ?_ | refine blk_alloc ?_ _)); refine blk_far ?_ NB246_248.out _; (with_reducible repeat (first | refine blk_drewN ?_ _ | refine blk_drew ?_ | refine blk_alloc ?_ _)); refine blk_far ?_ NB246_248.out _; (with_reducible repeat (first | refine blk_drewN ?_ _ | refine blk_drew ?_ | refine blk_alloc ?_ _)); exact BK246.out⟩
   have n1_ : Aside0 ((((w22.setCell ⟨gb248, 0, none⟩ (.int .i64 ((rd_T43 l0_0 x8_1).f0.f0))).setCell ⟨gb248, 1, none⟩ (.int .i64 ((rd_T43 l0_0 x8_1).f0.f1))).setCell ⟨gb248, 2, none⟩ (.int .i64 ((rd_T43 l0_0 x8_1).f1))).heap[gb248]? = some (.cells #[.int .i64 ((rd_T43 l0_0 x8_1).f0.f0), .int .i64 ((rd_T43 l0_0 x8_1).f0.f1), .int .i64 ((rd_T43 l0_0 x8_1).f1)] 43 (0, 0))) := ⟨by (with_reducible repeat (first | refine blk_drewN ?_ _ | refine blk_drew ?_ | refine blk_alloc ?_ _)); refine blk_put (cs := #[.int .i64 ((rd_T43 l0_0 x8_1).f0.f0), .int .i64 ((rd_T43 l0_0 x8_1).f0.f1), .int .i64 0]) ?_ 2 _ rfl; (with_reducible repeat (first | refine blk_drewN ?_ _ | refine blk_drew ?_ | refine blk_alloc ?_ _)); refine blk_put (cs := #[.int .i64 ((rd_T43 l0_0 x8_1).f0.f0), .int .i64 0, .int .i64 0]) ?_ 1 _ rfl; (with_reducible repeat (first | refine blk_drewN ?_ _ | refine blk_drew ?_ | refine blk_alloc ?_ _)); refine blk_put (cs := #[.int .i64 0, .int .i64 0, .int .i64 0]) ?_ 0 _ rfl; (with_reducible repeat (first | refine blk_drewN ?_ _ | refine blk_drew ?_ | refine blk_alloc ?_ _)); exact BK248.out⟩
   have n2_ : Aside0 (Below w.heap.size w (((w22.setCell ⟨gb248, 0, none⟩ (.int .i64 ((rd_T43 l0_0 x8_1).f0.f0))).setCell ⟨gb248, 1, none⟩ (.int .i64 ((rd_T43 l0_0 x8_1).f0.f1))).setCell ⟨gb248, 2, none⟩ (.int .i64 ((rd_T43 l0_0 x8_1).f1)))) := ⟨by repeat (first | (with_reducible first | exact HB.out | apply below_alloc | apply pw_below_drewN | apply below_drew1 | refine below_set ?_ GE246.out | refine below_set ?_ GE248.out) | exact HB.out)⟩
   (try clear BK246)
   (try clear BK248)
   (try clear HB)
   generalize (((w22.setCell ⟨gb248, 0, none⟩ (.int .i64 ((rd_T43 l0_0 x8_1).f0.f0))).setCell ⟨gb248, 1, none⟩ (.int .i64 ((rd_T43 l0_0 x8_1).f0.f1))).setCell ⟨gb248, 2, none⟩ (.int .i64 ((rd_T43 l0_0 x8_1).f1))) = w25 at n0_ n1_ n2_ ⊢
   have BK246 := n0_
   have BK248 := n1_
   have HB := n2_
   clear n0_ n1_ n2_
   replace BK246 := Aside0.mk (blk_drew BK246.out)
   replace BK248 := Aside0.mk (blk_drew BK248.out)
   replace HB := Aside0.mk (below_drew1 HB.out)
   have p250 : 0 ≤ ((ji10) : Int) := of_decide_eq_true (by first | (with_reducible assumption) | assumption)
   have q250 : (ji10) < (l0_0.length : Int) := of_decide_eq_true (by first | (with_reducible assumption) | assumption)
   obtain ⟨ad250, e250, hx250_0, hx250_1, hx250_2⟩ := at_T43 HR0_0.out (ji10) p250 q250
   have hw250_2 := hx250_2
   have hw250_1 := hx250_1
   have hw250_0 := hx250_0
   obtain rfl : ad247 = ad250 := (by injection e250)
   replace hx250_0 := (HB.out.cell (World.block_lt_of_cell? w _ hx250_0)).trans hx250_0
   replace hx250_1 := (HB.out.cell (World.block_lt_of_cell? w _ hx250_1)).trans hx250_1
   replace hx250_2 := (HB.out.cell (World.block_lt_of_cell? w _ hx250_2)).trans hx250_2
   replace p250 := eq_true p250
   replace q250 := eq_true q250
   refine start_ (n := 20) (S := fun w' => w'.cell? ⟨gb248, 0, none⟩ = some (.int .i64 ((rd_T43 l0_0 x8_1).f0.f0)) ∧ w'.cell? ⟨gb248, 1, none⟩ = some (.int .i64 ((rd_T43 l0_0 x8_1).f0.f1)) ∧ w'.cell? ⟨gb248, 2, none⟩ = some (.int .i64 ((rd_T43 l0_0 x8_1).f1)) ∧ w'.cell? ⟨gb246, 0, none⟩ = some (.slice (some ad247) l0_0.length c0_0) ∧ w'.cell? (ad247.add (((ji10)).toNat * 3)) = some (.int .i64 ((rd_T43 l0_0 (ji10)).f0.f0)) ∧ w'.cell? ⟨(ad247.add (((ji10)).toNat * 3)).block, (ad247.add (((ji10)).toNat * 3)).off + 1, none⟩ = some (.int .i64 ((rd_T43 l0_0 (ji10)).f0.f1)) ∧ w'.cell? ⟨(ad247.add (((ji10)).toNat * 3)).block, (ad247.add (((ji10)).toNat * 3)).off + 2, none⟩ = some (.int .i64 ((rd_T43 l0_0 (ji10)).f1))) (ds := []) ba13_0 (by kernel_rfl) rfl rfl ⟨(blk_cell BK248.out 0).trans rfl, (blk_cell BK248.out 1).trans rfl, (blk_cell BK248.out 2).trans rfl, (blk_cell BK246.out 0).trans rfl, (hc_ HB hw250_0), (hc_ HB hw250_1), (hc_ HB hw250_2)⟩ (fun hHeld => ?_); refine with_tabW impl_TableOk.tab4 impl_TableOk.bits4 (fun HT_ HW_ => ?_)
   generalize w25.drew = w26 at BK246 BK248 HB hx250_0 hx250_1 hx250_2 hHeld ⊢
   refine pt_ 0 13 ba13_1 HT_ HW_ hHeld ?_
   refine one_ (i := 1) (N := some 14) ba13_2 rfl rfl (one_of HT_.out (by kernel_rfl)) (by decide) (fun K hK => ?_)
   refine gz_ Try.func38 #[.agg #[.int .i64 ((rd_T43 l0_0 x8_1).f0.f0), .int .i64 ((rd_T43 l0_0 x8_1).f0.f1), .int .i64 ((rd_T43 l0_0 x8_1).f1)]] ?_
   with_reducible refine (impl_isRoute.calls ((rd_T43 l0_0 x8_1).f0.f0) ((rd_T43 l0_0 x8_1).f0.f1) ((rd_T43 l0_0 x8_1).f1) true _ A7.out).mono ?_
   rintro e w27 ⟨rfl, hb⟩
   refine ⟨_, rfl, ?_⟩
   replace BK246 := Aside0.mk (bb_ BK246 hb)
   replace BK248 := Aside0.mk (bb_ BK248 hb)
   replace HB := Aside0.mk (bt_ HB hb)
   (try clear hb)
   (try clear hb2)
   (try clear hk)
   (try clear hi)
   refine hK.out _ _ ⟨(blk_cell BK248.out 0).trans rfl, (blk_cell BK248.out 1).trans rfl, (blk_cell BK248.out 2).trans rfl, (blk_cell BK246.out 0).trans rfl, (hc_ HB hw250_0), (hc_ HB hw250_1), (hc_ HB hw250_2)⟩ (fun hHeld => ?_)
   clear hK K
   refine nz_ 14 ?_
   refine pz_ 2 15 ba13_3 HT_ ?_
   refine pz_ 3 16 ba13_4 HT_ ?_
   refine pz_ 4 17 ba13_5 HT_ ?_
   refine pz_ 5 18 ba13_6 HT_ ?_
   refine pz_ 6 19 ba13_7 HT_ ?_
   refine pz_ 7 20 ba13_8 HT_ ?_
   refine pz_ 9 22 ba13_9 HT_ ?_
   refine pz_ 10 23 ba13_10 HT_ ?_
   refine pz_ 14 27 ba13_11 HT_ ?_
   refine pt_ 8 21 ba13_12 HT_ HW_ hHeld ?_
   refine pz_ 11 24 ba13_13 HT_ ?_
   refine pz_ 12 25 ba13_14 HT_ ?_
   refine pt_ 13 26 ba13_15 HT_ HW_ hHeld ?_
   refine pt_ 15 28 ba13_16 HT_ HW_ hHeld ?_
   refine one_ (i := 16) (N := some 29) ba13_17 rfl rfl (one_of HT_.out (by kernel_rfl)) (by decide) (fun K hK => ?_)
   refine goes_ Try.func52 (by kernel_rfl) rfl #[.agg #[.int .i64 ((rd_T43 l0_0 (ji10)).f0.f0), .int .i64 ((rd_T43 l0_0 (ji10)).f0.f1)], .agg #[.int .i64 ((rd_T43 l0_0 x8_1).f0.f0), .int .i64 ((rd_T43 l0_0 x8_1).f0.f1)]] (by rfl) rfl rfl (by (try simp only [List.map_toArray, List.map_cons, List.map_nil]); first | done | (simp only [hji10]; rfl) | rfl | (simp only [List.length_drop, List.length_take]; rfl)) ?_
   with_reducible refine (impl_comparePrefixes.calls ((rd_T43 l0_0 (ji10)).f0.f0) ((rd_T43 l0_0 (ji10)).f0.f1) ((rd_T43 l0_0 x8_1).f0.f0) ((rd_T43 l0_0 x8_1).f0.f1) t251 _ A13.out).mono ?_
   rintro e w28 ⟨rfl, hb⟩
   refine ⟨_, rfl, ?_⟩
   replace BK246 := Aside0.mk (bb_ BK246 hb)
   replace BK248 := Aside0.mk (bb_ BK248 hb)
   replace HB := Aside0.mk (bt_ HB hb)
   (try clear hb)
   (try clear hb2)
   (try clear hk)
   (try clear hi)
   refine hK.out _ _ ⟨(blk_cell BK248.out 0).trans rfl, (blk_cell BK248.out 1).trans rfl, (blk_cell BK248.out 2).trans rfl, (blk_cell BK246.out 0).trans rfl, (hc_ HB hw250_0), (hc_ HB hw250_1), (hc_ HB hw250_2)⟩ (fun hHeld => ?_)
   clear hK K
   refine nz_ 29 ?_
   refine pz_ 17 30 ba13_18 HT_ ?_
   refine pz_ 18 31 ba13_19 HT_ ?_
   refine pz_ 19 32 ba13_20 HT_ ?_
   refine done_ (done_of HT_.out (by kernel_rfl)) ?_
   try go_wp2
   go_roundg k1
   case measure => have := HK1.out; omega
   case rel => exact ⟨(wrap64 (x8_1 + 1)), (by first | rfl | (simp; done) | (simp [*]; done)), H', ⟨by have := HK1.out; omega⟩, ⟨by (with_reducible repeat (first | refine blk_drewN ?_ _ | refine blk_drew ?_ | refine blk_alloc ?_ _)); exact BK246.out⟩, ⟨by repeat (first | (with_reducible first | exact HB.out | apply below_alloc | apply pw_below_drewN | apply below_drew1 | refine below_set ?_ GE246.out | refine below_set ?_ GE248.out) | exact HB.out)⟩⟩

end Go.Proofs.Ytflfbaofgfandaa.QFnExactSqueeze
