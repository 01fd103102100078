/- Contracts of functions that the law reaches: what each call returns and what it leaves in memory. Made by this session over the print of the kit. -/
import Derived.Test.YtjepmdngbafonaaQFnExactCountAddrsx0
import Derived.Test.YtjepmdngbafonaaQFnExactCountAddrsx1
import Derived.Test.YtjepmdngbafonaaQFnExactCountAddrsx12
namespace Go.Proofs.Ytjepmdngbafonaa.QFnExactCountAddrs
open Go.RowKit Go.Proofs.YtjepmdngbafonaaA.PrintWords Go.Proofs.YtjepmdngbafonaaA.PrintLast Go.Proofs.YtjepmdngbafonaaA.PrintMore
attribute [local go_sem] max2_int min2_int max_two min_two max_three min_three max_four min_four   -- for this text's walks alone
set_option linter.unusedVariables false
set_option linter.unusedSimpArgs false
def ba13_0 : Array Bool := #[false, false, false, false, false, false, false, false, false, false]
def ba13_1 : Array Bool := #[true, false, false, false, false, false, false, false, false, false]
def ba13_2 : Array Bool := #[true, true, false, false, false, false, false, false, false, false]
def ba13_3 : Array Bool := #[true, true, true, false, false, false, false, false, false, false]
def ba13_4 : Array Bool := #[true, true, true, false, true, false, false, false, false, false]
def ba13_5 : Array Bool := #[true, true, true, false, true, true, false, false, false, false]
def ba13_6 : Array Bool := #[true, true, true, false, true, true, true, false, false, false]
def ba13_7 : Array Bool := #[true, true, true, true, true, true, true, false, false, false]
def ba13_8 : Array Bool := #[true, true, true, true, true, true, true, true, false, false]
def ba13_9 : Array Bool := #[true, true, true, true, true, true, true, true, true, false]
def ba13_10 : Array Bool := #[true, true, true, true, true, true, true, true, true, true]

/-! ### laws_eqPrefix: function 70 -/
def laws_eqPrefix.f (a0_0 : Int) (a0_1 : Int) (a1_0 : Int) (a1_1 : Int) : Option (Bool) := if a0_0 = a1_0 then (if a0_1 = a1_1 then (some true) else (some false)) else (some false)
set_option maxHeartbeats 8000000 in
set_option maxRecDepth 100000 in
theorem laws_eqPrefix.calls (a0_0 : Int) (a0_1 : Int) (a1_0 : Int) (a1_1 : Int) (r : Bool) (w : World) (h : laws_eqPrefix.f a0_0 a0_1 a1_0 a1_1 = some r) :
  Calls Try.prog 70 #[.agg #[.int .i64 a0_0, .int .i64 a0_1], .agg #[.int .i64 a1_0, .int .i64 a1_1]] w fun e w' => e = .returned (.bool r) ∧ Below w.heap.size w w' := by
 have hu28 := Try.underlying28
 have HB := Aside0.mk (Below.refl w.heap.size w)
 have H : (if a0_0 = a1_0 then (if a0_1 = a1_1 then (some true) else (some false)) else (some false)) = some r := h
 clear h
 by_cases c3 : a0_0 = a1_0
 ·rw [if_pos c3] at H
  have c3b0 : (a0_0 == a1_0) = true := beq_iff_eq.mpr c3
  have c3b1 : (a0_0 != a1_0) = false := bne_eq_false_iff_eq.mpr c3
  clear c3
  by_cases c4 : a0_1 = a1_1
  ·rw [if_pos c4] at H
   have c4b0 : (a0_1 == a1_1) = true := beq_iff_eq.mpr c4
   have c4b1 : (a0_1 != a1_1) = false := bne_eq_false_iff_eq.mpr c4
   clear c4
   obtain rfl := Option.some.inj H
   go_enter Try.func70, Try.ntmps70
   go_wp2_with (first | ((with_reducible refine gate_dst (N := 2) rfl ?_); refine box_event ?hg (N := 2) ?hd (cs := #[.int .i64 a0_0, .int .i64 a0_1]) (t := 28) ?hr ?_; (case hd => rfl); (case hg => rfl); (case hr => first | (go_simp; done) | (go_simp; rfl)); intro gb328 hg w5 hbox hb; have BK328 := Aside0.mk hbox; have GW328 := ge_ HB hg; have GE328 := ge_ HB hg; replace HB := Aside0.mk (bt_ HB hb); clear hb hbox hg) | ((with_reducible refine gate_dst (N := 3) rfl ?_); refine box_event ?hg (N := 3) ?hd (cs := #[.int .i64 a1_0, .int .i64 a1_1]) (t := 28) ?hr ?_; (case hd => rfl); (case hg => rfl); (case hr => first | (go_simp; done) | (go_simp; rfl)); intro gb329 hg w6 hbox hb; have BK329 := Aside0.mk hbox; have GW329 := ge_ HB hg; have GE329 := ge_ HB hg; have NB328_329 := nl_ BK328 hg; have NB329_328 := ng_ BK328 hg; replace HB := Aside0.mk (bt_ HB hb); replace BK328 := Aside0.mk (bb_ BK328 hb); clear hb hbox hg; have hnb7 := NB328_329.out; have hnc7 := NB329_328.out; have hcz8_0 := cz_ BK328 0 (.int .i64 a0_0); have hcz8_1 := cz_ BK328 1 (.int .i64 a0_1); have hfz8_0 := blk_frozen BK328.out 0; have hfz8_1 := blk_frozen BK328.out 1; have hcz9_0 := cz_ BK329 0 (.int .i64 a1_0); have hcz9_1 := cz_ BK329 1 (.int .i64 a1_1); have hfz9_0 := blk_frozen BK329.out 0; have hfz9_1 := blk_frozen BK329.out 1))
   go_ret
   exact ⟨by first | rfl | (simp [errW_none, errW_some] <;> rfl) | (simp [*, errW_none, errW_some] <;> rfl), by repeat (first | (with_reducible first | exact HB.out | apply below_alloc | apply pw_below_drewN | apply below_drew1 | refine below_set ?_ GE328.out | refine below_set ?_ GE329.out) | exact HB.out)⟩
  ·rw [if_neg c4] at H
   have c4b0 : (a0_1 == a1_1) = false := beq_eq_false_iff_ne.mpr c4
   have c4b1 : (a0_1 != a1_1) = true := bne_iff_ne.mpr c4
   obtain rfl := Option.some.inj H
   go_enter Try.func70, Try.ntmps70
   go_wp2_with (first | ((with_reducible refine gate_dst (N := 2) rfl ?_); refine box_event ?hg (N := 2) ?hd (cs := #[.int .i64 a0_0, .int .i64 a0_1]) (t := 28) ?hr ?_; (case hd => rfl); (case hg => rfl); (case hr => first | (go_simp; done) | (go_simp; rfl)); intro gb328 hg w10 hbox hb; have BK328 := Aside0.mk hbox; have GW328 := ge_ HB hg; have GE328 := ge_ HB hg; replace HB := Aside0.mk (bt_ HB hb); clear hb hbox hg) | ((with_reducible refine gate_dst (N := 3) rfl ?_); refine box_event ?hg (N := 3) ?hd (cs := #[.int .i64 a1_0, .int .i64 a1_1]) (t := 28) ?hr ?_; (case hd => rfl); (case hg => rfl); (case hr => first | (go_simp; done) | (go_simp; rfl)); intro gb329 hg w11 hbox hb; have BK329 := Aside0.mk hbox; have GW329 := ge_ HB hg; have GE329 := ge_ HB hg; have NB328_329 := nl_ BK328 hg; have NB329_328 := ng_ BK328 hg; replace HB := Aside0.mk (bt_ HB hb); replace BK328 := Aside0.mk (bb_ BK328 hb); clear hb hbox hg; have hnb12 := NB328_329.out; have hnc12 := NB329_328.out; have hcz13_0 := cz_ BK328 0 (.int .i64 a0_0); have hcz13_1 := cz_ BK328 1 (.int .i64 a0_1); have hfz13_0 := blk_frozen BK328.out 0; have hfz13_1 := blk_frozen BK328.out 1; have hcz14_0 := cz_ BK329 0 (.int .i64 a1_0); have hcz14_1 := cz_ BK329 1 (.int .i64 a1_1); have hfz14_0 := blk_frozen BK329.out 0; have hfz14_1 := blk_frozen BK329.out 1))
   go_ret
   exact ⟨by first | rfl | (simp [errW_none, errW_some] <;> rfl) | (simp [*, errW_none, errW_some] <;> rfl), by repeat (first | (with_reducible first | exact HB.out | apply below_alloc | apply pw_below_drewN | apply below_drew1 | refine below_set ?_ GE328.out | refine below_set ?_ GE329.out) | exact HB.out)⟩
 ·rw [if_neg c3] at H
  have c3b0 : (a0_0 == a1_0) = false := beq_eq_false_iff_ne.mpr c3
  have c3b1 : (a0_0 != a1_0) = true := bne_iff_ne.mpr c3
  obtain rfl := Option.some.inj H
  go_enter Try.func70, Try.ntmps70
  go_wp2_with (first | ((with_reducible refine gate_dst (N := 2) rfl ?_); refine box_event ?hg (N := 2) ?hd (cs := #[.int .i64 a0_0, .int .i64 a0_1]) (t := 28) ?hr ?_; (case hd => rfl); (case hg => rfl); (case hr => first | (go_simp; done) | (go_simp; rfl)); intro gb328 hg w15 hbox hb; have BK328 := Aside0.mk hbox; have GW328 := ge_ HB hg; have GE328 := ge_ HB hg; replace HB := Aside0.mk (bt_ HB hb); clear hb hbox hg) | ((with_reducible refine gate_dst (N := 3) rfl ?_); refine box_event ?hg (N := 3) ?hd (cs := #[.int .i64 a1_0, .int .i64 a1_1]) (t := 28) ?hr ?_; (case hd => rfl); (case hg => rfl); (case hr => first | (go_simp; done) | (go_simp; rfl)); intro gb329 hg w16 hbox hb; have BK329 := Aside0.mk hbox; have GW329 := ge_ HB hg; have GE329 := ge_ HB hg; have NB328_329 := nl_ BK328 hg; have NB329_328 := ng_ BK328 hg; replace HB := Aside0.mk (bt_ HB hb); replace BK328 := Aside0.mk (bb_ BK328 hb); clear hb hbox hg; have hnb17 := NB328_329.out; have hnc17 := NB329_328.out; have hcz18_0 := cz_ BK328 0 (.int .i64 a0_0); have hcz18_1 := cz_ BK328 1 (.int .i64 a0_1); have hfz18_0 := blk_frozen BK328.out 0; have hfz18_1 := blk_frozen BK328.out 1; have hcz19_0 := cz_ BK329 0 (.int .i64 a1_0); have hcz19_1 := cz_ BK329 1 (.int .i64 a1_1); have hfz19_0 := blk_frozen BK329.out 0; have hfz19_1 := blk_frozen BK329.out 1))
  go_ret
  exact ⟨by first | rfl | (simp [errW_none, errW_some] <;> rfl) | (simp [*, errW_none, errW_some] <;> rfl), by repeat (first | (with_reducible first | exact HB.out | apply below_alloc | apply pw_below_drewN | apply below_drew1 | refine below_set ?_ GE328.out | refine below_set ?_ GE329.out) | exact HB.out)⟩

/-! ### laws_eqPrefixS: function 29 -/
def laws_eqPrefixS.l0 : Nat → List (S28) → List (S28) → Int → Option (Bool)
 | 0, _, _, _ => none
 | k + 1, x0, x1, x5 => if x5 < (x0.length : Int) then (if 0 ≤ x5 then (if x5 < (x1.length : Int) then ((laws_eqPrefix.f ((rd_T28 x0 x5).f0) ((rd_T28 x0 x5).f1) ((rd_T28 x1 x5).f0) ((rd_T28 x1 x5).f1)).bind fun t332 => (if t332 = true then (laws_eqPrefixS.l0 k x0 x1 (wrap64 (x5 + 1))) else (some false))) else (none)) else (none)) else (some true)
def laws_eqPrefixS.f (k : Nat) (l0 : List (S28)) (l1 : List (S28)) : Option (Bool) := if (l0.length : Int) = (l1.length : Int) then (laws_eqPrefixS.l0 k l0 l1 0) else (some false)
theorem laws_eqPrefixS.mono_l : ∀ k, (∀ y0 y1 y2, LeO (laws_eqPrefixS.l0 k y0 y1 y2) (laws_eqPrefixS.l0 (k + 1) y0 y1 y2))
 | 0 => fun _ _ _ r h => by simp [laws_eqPrefixS.l0] at h
 | k + 1 => by
  have ih0 := laws_eqPrefixS.mono_l k
  ·intro y0 y1 y2
   unfold laws_eqPrefixS.l0
   repeat' first
   | (with_reducible exact ih0 _ _ _)
   | (with_reducible exact LeO.refl _)
   | (with_reducible exact LeO.none _)
   | (with_reducible refine LeO.ite ?_ ?_)
   | (with_reducible refine LeO.bind ?_ (fun _ => ?_))
   | exact ih0 _ _ _
   | exact LeO.none _
   | refine LeO.ite ?_ ?_
   | refine LeO.bind ?_ (fun _ => ?_)
theorem laws_eqPrefixS.mono : ∀ a0 a1 k, LeO (laws_eqPrefixS.f k a0 a1) (laws_eqPrefixS.f (k + 1) a0 a1) := by
 intro a0 a1 k
 have ih0 := laws_eqPrefixS.mono_l k
 unfold laws_eqPrefixS.f
 repeat' first
   | (with_reducible exact ih0 _ _ _)
   | (with_reducible exact LeO.refl _)
   | (with_reducible exact LeO.none _)
   | (with_reducible refine LeO.ite ?_ ?_)
   | (with_reducible refine LeO.bind ?_ (fun _ => ?_))
   | exact ih0 _ _ _
   | exact LeO.none _
   | refine LeO.ite ?_ ?_
   | refine LeO.bind ?_ (fun _ => ?_)
def laws_eqPrefixS.T6 : Bool × List (List Nat × List Nat) := (true, [([], []), ([], []), ([0, 1], [0, 1]), ([2], [2]), ([], []), ([], []), ([4, 5], [4, 5]), ([6], [6]), ([3, 7], [3, 7]), ([8], [8])])
def laws_eqPrefixS.B6 : List Nat := [0, 0, 3, 7, 0, 0, 48, 112, 255, 511]
theorem laws_eqPrefixS.tab6 : rtab .any (opsOf Try.f29 6) = laws_eqPrefixS.T6 := by kernel_rfl
theorem laws_eqPrefixS.bits6 : waitsOk laws_eqPrefixS.T6.2 laws_eqPrefixS.B6 = true := by kernel_rfl
set_option maxHeartbeats 8000000 in
set_option maxRecDepth 100000 in
theorem laws_eqPrefixS.calls (k : Nat) (A0 : Option Addr) (c0 : Nat) (l0 : List (S28)) (A1 : Option Addr) (c1 : Nat) (l1 : List (S28)) (r : Bool) (w : World) (hr0 : Kd.C k28 w A0 l0.length l0) (hc0 : l0.length ≤ c0) (hr1 : Kd.C k28 w A1 l1.length l1) (hc1 : l1.length ≤ c1) (h : laws_eqPrefixS.f k l0 l1 = some r) :
  Calls Try.prog 29 #[.slice A0 l0.length c0, .slice A1 l1.length c1] w fun e w' => e = .returned (.bool r) ∧ Below w.heap.size w w' := by
 have hu28 := Try.underlying28
 have HR0 := Aside0.mk hr0
 have HC0 := Aside0.mk hc0
 clear hr0 hc0
 have HR1 := Aside0.mk hr1
 have HC1 := Aside0.mk hc1
 clear hr1 hc1
 have HB := Aside0.mk (Below.refl w.heap.size w)
 have H : (if (l0.length : Int) = (l1.length : Int) then (laws_eqPrefixS.l0 k l0 l1 0) else (some false)) = some r := h
 clear h
 by_cases c3 : (l0.length : Int) = (l1.length : Int)
 ·rw [if_pos c3] at H
  have c3b0 : ((l0.length : Int) == (l1.length : Int)) = true := beq_iff_eq.mpr c3
  have c3b1 : ((l0.length : Int) != (l1.length : Int)) = false := bne_eq_false_iff_eq.mpr c3
  have c3b2 : (l0.length == l1.length) = true := by first | simpa using c3 | (simp at c3 ⊢; omega)
  clear c3
  have H' := Aside0.mk H
  clear H
  go_enter Try.func29, Try.ntmps29
  go_wp2
  go_loopg [5] k (fun kq v5 w' => ∃ (x5_1 : Int), v5 = .int .i64 x5_1 ∧ Aside0 (laws_eqPrefixS.l0 kq l0 l1 x5_1 = some r) ∧ Aside0 (kq ≤ k) ∧ Aside0 (Below w.heap.size w w'))
  case atStart => exact ⟨(0), (by first | rfl | (simp; done) | (simp [*]; done)), H', ⟨Nat.le_refl _⟩, ⟨by repeat (first | (with_reducible first | exact HB.out | apply below_alloc | apply pw_below_drewN | apply below_drew1) | exact HB.out)⟩⟩
  case round =>
   clear H'
   try clear c1
   try clear c2
   try clear p2
   try clear c3
   try clear c3b0
   try clear c3b1
   try clear c3b2
   obtain ⟨x5_1, rfl, HA, HK1, HB⟩ := hrel
   cases gk with
   | zero => exact absurd HA.out (by simp [laws_eqPrefixS.l0])
   | succ k1 =>
    have H := HA.out
    clear HA
    simp only [laws_eqPrefixS.l0] at H
    by_cases c4 : x5_1 < (l0.length : Int)
    ·rw [if_pos c4] at H
     have c4b0 : decide (x5_1 < (l0.length : Int)) = true := decide_eq_true c4
     clear c4
     by_cases c5 : 0 ≤ x5_1
     ·rw [if_pos c5] at H
      have c5b0 : decide (0 ≤ x5_1) = true := decide_eq_true c5
      clear c5
      by_cases c6 : x5_1 < (l1.length : Int)
      ·rw [if_pos c6] at H
       have c6b0 : decide (x5_1 < (l1.length : Int)) = true := decide_eq_true c6
       clear c6
       replace H := Option.bind_eq_some_iff.mp H
       obtain ⟨t332, A70, H⟩ := H
       have A7 := Aside0.mk A70
       clear A70
       by_cases c8 : t332 = true
       ·subst c8
        rw [if_pos rfl] at H
        have H' := Aside0.mk H
        clear H
        try go_wp2
        replace HB := Aside0.mk (below_drew1 HB.out)
        have p330 : 0 ≤ (x5_1 : Int) := of_decide_eq_true (by first | (with_reducible assumption) | assumption)
        have q330 : x5_1 < (l0.length : Int) := of_decide_eq_true (by first | (with_reducible assumption) | assumption)
        obtain ⟨ad330, e330, hx330_0, hx330_1⟩ := at_T28 HR0.out x5_1 p330 q330
        have hw330_1 := hx330_1
        have hw330_0 := hx330_0
        cases e330
        replace hx330_0 := (HB.out.cell (World.block_lt_of_cell? w _ hx330_0)).trans hx330_0
        replace hx330_1 := (HB.out.cell (World.block_lt_of_cell? w _ hx330_1)).trans hx330_1
        replace p330 := eq_true p330
        replace q330 := eq_true q330
        have p331 : 0 ≤ (x5_1 : Int) := of_decide_eq_true (by first | (with_reducible assumption) | assumption)
        have q331 : x5_1 < (l1.length : Int) := of_decide_eq_true (by first | (with_reducible assumption) | assumption)
        obtain ⟨ad331, e331, hx331_0, hx331_1⟩ := at_T28 HR1.out x5_1 p331 q331
        have hw331_1 := hx331_1
        have hw331_0 := hx331_0
        cases e331
        replace hx331_0 := (HB.out.cell (World.block_lt_of_cell? w _ hx331_0)).trans hx331_0
        replace hx331_1 := (HB.out.cell (World.block_lt_of_cell? w _ hx331_1)).trans hx331_1
        replace p331 := eq_true p331
        replace q331 := eq_true q331
        refine start_ (n := 10) (S := fun w' => w'.cell? (ad330.add ((x5_1).toNat * 2)) = some (.int .i64 ((rd_T28 l0 x5_1).f0)) ∧ w'.cell? ⟨(ad330.add ((x5_1).toNat * 2)).block, (ad330.add ((x5_1).toNat * 2)).off + 1, none⟩ = some (.int .i64 ((rd_T28 l0 x5_1).f1)) ∧ w'.cell? (ad331.add ((x5_1).toNat * 2)) = some (.int .i64 ((rd_T28 l1 x5_1).f0)) ∧ w'.cell? ⟨(ad331.add ((x5_1).toNat * 2)).block, (ad331.add ((x5_1).toNat * 2)).off + 1, none⟩ = some (.int .i64 ((rd_T28 l1 x5_1).f1))) (ds := []) ba13_0 (by kernel_rfl) rfl rfl ⟨(hc_ HB hw330_0), (hc_ HB hw330_1), (hc_ HB hw331_0), (hc_ HB hw331_1)⟩ (fun hHeld => ?_); refine with_tabW laws_eqPrefixS.tab6 laws_eqPrefixS.bits6 (fun HT_ HW_ => ?_)
        generalize wr.drew = w9 at HB hx330_0 hx330_1 hx331_0 hx331_1 hHeld ⊢
        refine pz_ 0 17 ba13_1 HT_ ?_
        refine pz_ 1 18 ba13_2 HT_ ?_
        refine pz_ 2 19 ba13_3 HT_ ?_
        refine pz_ 4 21 ba13_4 HT_ ?_
        refine pz_ 5 22 ba13_5 HT_ ?_
        refine pz_ 6 23 ba13_6 HT_ ?_
        refine pt_ 3 20 ba13_7 HT_ HW_ hHeld ?_
        refine pt_ 7 24 ba13_8 HT_ HW_ hHeld ?_
        refine one_ (i := 8) (N := some 25) ba13_9 rfl rfl (one_of HT_.out (by kernel_rfl)) (by decide) (fun K hK => ?_)
        refine gz_ Try.func70 #[.agg #[.int .i64 ((rd_T28 l0 x5_1).f0), .int .i64 ((rd_T28 l0 x5_1).f1)], .agg #[.int .i64 ((rd_T28 l1 x5_1).f0), .int .i64 ((rd_T28 l1 x5_1).f1)]] ?_
        with_reducible refine (laws_eqPrefix.calls ((rd_T28 l0 x5_1).f0) ((rd_T28 l0 x5_1).f1) ((rd_T28 l1 x5_1).f0) ((rd_T28 l1 x5_1).f1) true _ A7.out).mono ?_
        rintro e w10 ⟨rfl, hb⟩
        refine ⟨_, rfl, ?_⟩
        replace HB := Aside0.mk (bt_ HB hb)
        (try clear hb)
        (try clear hb2)
        (try clear hk)
        (try clear hi)
        refine hK.out _ _ ⟨(hc_ HB hw330_0), (hc_ HB hw330_1), (hc_ HB hw331_0), (hc_ HB hw331_1)⟩ (fun hHeld => ?_)
        clear hK K
        refine nz_ 25 ?_
        refine pz_ 9 26 ba13_10 HT_ ?_
        refine done_ (done_of HT_.out (by kernel_rfl)) ?_
        try go_wp2
        go_roundg k1
        case measure => have := HK1.out; omega
        case rel => exact ⟨(wrap64 (x5_1 + 1)), (by first | rfl | (simp; done) | (simp [*]; done)), H', ⟨by have := HK1.out; omega⟩, ⟨by repeat (first | (with_reducible first | exact HB.out | apply below_alloc | apply pw_below_drewN | apply below_drew1) | exact HB.out)⟩⟩
       ·replace c8 := Bool.eq_false_iff.mpr c8
        subst c8
        rw [if_neg (show ¬ (false = true) by decide)] at H
        obtain rfl := Option.some.inj H
        try go_wp2
        replace HB := Aside0.mk (below_drew1 HB.out)
        have p330 : 0 ≤ (x5_1 : Int) := of_decide_eq_true (by first | (with_reducible assumption) | assumption)
        have q330 : x5_1 < (l0.length : Int) := of_decide_eq_true (by first | (with_reducible assumption) | assumption)
        obtain ⟨ad330, e330, hx330_0, hx330_1⟩ := at_T28 HR0.out x5_1 p330 q330
        have hw330_1 := hx330_1
        have hw330_0 := hx330_0
        cases e330
        replace hx330_0 := (HB.out.cell (World.block_lt_of_cell? w _ hx330_0)).trans hx330_0
        replace hx330_1 := (HB.out.cell (World.block_lt_of_cell? w _ hx330_1)).trans hx330_1
        replace p330 := eq_true p330
        replace q330 := eq_true q330
        have p331 : 0 ≤ (x5_1 : Int) := of_decide_eq_true (by first | (with_reducible assumption) | assumption)
        have q331 : x5_1 < (l1.length : Int) := of_decide_eq_true (by first | (with_reducible assumption) | assumption)
        obtain ⟨ad331, e331, hx331_0, hx331_1⟩ := at_T28 HR1.out x5_1 p331 q331
        have hw331_1 := hx331_1
        have hw331_0 := hx331_0
        cases e331
        replace hx331_0 := (HB.out.cell (World.block_lt_of_cell? w _ hx331_0)).trans hx331_0
        replace hx331_1 := (HB.out.cell (World.block_lt_of_cell? w _ hx331_1)).trans hx331_1
        replace p331 := eq_true p331
        replace q331 := eq_true q331
        refine start_ (n := 10) (S := fun w' => w'.cell? (ad330.add ((x5_1).toNat * 2)) = some (.int .i64 ((rd_T28 l0 x5_1).f0)) ∧ w'.cell? ⟨(ad330.add ((x5_1).toNat * 2)).block, (ad330.add ((x5_1).toNat * 2)).off + 1, none⟩ = some (.int .i64 ((rd_T28 l0 x5_1).f1)) ∧ w'.cell? (ad331.add ((x5_1).toNat * 2)) = some (.int .i64 ((rd_T28 l1 x5_1).f0)) ∧ w'.cell? ⟨(ad331.add ((x5_1).toNat * 2)).block, (ad331.add ((x5_1).toNat * 2)).off + 1, none⟩ = some (.int .i64 ((rd_T28 l1 x5_1).f1))) (ds := []) ba13_0 (by kernel_rfl) rfl rfl ⟨(hc_ HB hw330_0), (hc_ HB hw330_1), (hc_ HB hw331_0), (hc_ HB hw331_1)⟩ (fun hHeld => ?_); refine with_tabW laws_eqPrefixS.tab6 laws_eqPrefixS.bits6 (fun HT_ HW_ => ?_)
        generalize wr.drew = w11 at HB hx330_0 hx330_1 hx331_0 hx331_1 hHeld ⊢
        refine pz_ 0 17 ba13_1 HT_ ?_
        refine pz_ 1 18 ba13_2 HT_ ?_
        refine pz_ 2 19 ba13_3 HT_ ?_
        refine pz_ 4 21 ba13_4 HT_ ?_
        refine pz_ 5 22 ba13_5 HT_ ?_
        refine pz_ 6 23 ba13_6 HT_ ?_
        refine pt_ 3 20 ba13_7 HT_ HW_ hHeld ?_
        refine pt_ 7 24 ba13_8 HT_ HW_ hHeld ?_
        refine one_ (i := 8) (N := some 25) ba13_9 rfl rfl (one_of HT_.out (by kernel_rfl)) (by decide) (fun K hK => ?_)
        refine gz_ Try.func70 #[.agg #[.int .i64 ((rd_T28 l0 x5_1).f0), .int .i64 ((rd_T28 l0 x5_1).f1)], .agg #[.int .i64 ((rd_T28 l1 x5_1).f0), .int .i64 ((rd_T28 l1 x5_1).f1)]] ?_
        with_reducible refine (laws_eqPrefix.calls ((rd_T28 l0 x5_1).f0) ((rd_T28 l0 x5_1).f1) ((rd_T28 l1 x5_1).f0) ((rd_T28 l1 x5_1).f1) false _ A7.out).mono ?_
        rintro e w12 ⟨rfl, hb⟩
        refine ⟨_, rfl, ?_⟩
        replace HB := Aside0.mk (bt_ HB hb)
        (try clear hb)
        (try clear hb2)
        (try clear hk)
        (try clear hi)
        refine hK.out _ _ ⟨(hc_ HB hw330_0), (hc_ HB hw330_1), (hc_ HB hw331_0), (hc_ HB hw331_1)⟩ (fun hHeld => ?_)
        clear hK K
        refine nz_ 25 ?_
        refine pz_ 9 26 ba13_10 HT_ ?_
        refine done_ (done_of HT_.out (by kernel_rfl)) ?_
        try go_wp2
        go_ret
        exact ⟨by first | rfl | (simp [errW_none, errW_some] <;> rfl) | (simp [*, errW_none, errW_some] <;> rfl), by repeat (first | (with_reducible first | exact HB.out | apply below_alloc | apply pw_below_drewN | apply below_drew1) | exact HB.out)⟩
      ·rw [if_neg c6] at H
       exact absurd H (by simp)
     ·rw [if_neg c5] at H
      exact absurd H (by simp)
    ·rw [if_neg c4] at H
     have c4b0 : decide (x5_1 < (l0.length : Int)) = false := decide_eq_false c4
     clear c4
     obtain rfl := Option.some.inj H
     go_wp2
     go_ret
     exact ⟨by first | rfl | (simp [errW_none, errW_some] <;> rfl) | (simp [*, errW_none, errW_some] <;> rfl), by repeat (first | (with_reducible first | exact HB.out | apply below_alloc | apply pw_below_drewN | apply below_drew1) | exact HB.out)⟩
 ·rw [if_neg c3] at H
  have c3b0 : ((l0.length : Int) == (l1.length : Int)) = false := beq_eq_false_iff_ne.mpr c3
  have c3b1 : ((l0.length : Int) != (l1.length : Int)) = true := bne_iff_ne.mpr c3
  have c3b2 : (l0.length == l1.length) = false := by first | simpa using c3 | (simp at c3 ⊢; omega)
  obtain rfl := Option.some.inj H
  go_enter Try.func29, Try.ntmps29
  go_wp2
  go_ret
  exact ⟨by first | rfl | (simp [errW_none, errW_some] <;> rfl) | (simp [*, errW_none, errW_some] <;> rfl), by repeat (first | (with_reducible first | exact HB.out | apply below_alloc | apply pw_below_drewN | apply below_drew1) | exact HB.out)⟩

/-! ### laws_FnExactCountAddrs: function 5 -/
def laws_FnExactCountAddrs.f (k : Nat) (l0 : List (S92)) : Option (Bool) := (laws_szPrefixS.f l0 1048576).bind fun t333 => (if t333 < 0 then (some true) else ((laws_toPrefixS.f k l0).bind fun t334 => ((spec_CountAddrs.f k t334).bind fun t337 => ((laws_toPrefixS.f k l0).bind fun t338 => ((impl_CountAddrs.f k t338).bind fun t341 => (if t341 = t337 then ((laws_toPrefixS.f k l0).bind fun t342 => ((laws_eqPrefixS.f k t338 t342).bind fun t345 => (if t345 = true then (some true) else (some false)))) else (some false)))))))
theorem laws_FnExactCountAddrs.mono : ∀ a0 k, LeO (laws_FnExactCountAddrs.f k a0) (laws_FnExactCountAddrs.f (k + 1) a0) := by
 intro a0 k
 unfold laws_FnExactCountAddrs.f
 repeat' first
   | (with_reducible exact impl_CountAddrs.mono _ _)
   | (with_reducible exact laws_eqPrefixS.mono _ _ _)
   | (with_reducible exact laws_toPrefixS.mono _ _)
   | (with_reducible exact spec_CountAddrs.mono _ _)
   | (with_reducible exact LeO.refl _)
   | (with_reducible exact LeO.none _)
   | (with_reducible refine LeO.ite ?_ ?_)
   | (with_reducible refine LeO.bind ?_ (fun _ => ?_))
   | exact impl_CountAddrs.mono _ _
   | exact laws_eqPrefixS.mono _ _ _
   | exact laws_toPrefixS.mono _ _
   | exact spec_CountAddrs.mono _ _
   | exact LeO.none _
   | refine LeO.ite ?_ ?_
   | refine LeO.bind ?_ (fun _ => ?_)
set_option maxHeartbeats 8000000 in
set_option maxRecDepth 100000 in
theorem laws_FnExactCountAddrs.calls (k : Nat) (A0 : Option Addr) (c0 : Nat) (l0 : List (S92)) (r : Bool) (w : World) (hr0 : Kd.C k92 w A0 l0.length l0) (hc0 : l0.length ≤ c0) (h : laws_FnExactCountAddrs.f k l0 = some r) :
  Calls Try.prog 5 #[.slice A0 l0.length c0] w fun e w' => e = .returned (.bool r) ∧ Below w.heap.size w w' := by
 have HR0 := Aside0.mk hr0
 have HC0 := Aside0.mk hc0
 clear hr0 hc0
 have HB := Aside0.mk (Below.refl w.heap.size w)
 have H : ((laws_szPrefixS.f l0 1048576).bind fun t333 => (if t333 < 0 then (some true) else ((laws_toPrefixS.f k l0).bind fun t334 => ((spec_CountAddrs.f k t334).bind fun t337 => ((laws_toPrefixS.f k l0).bind fun t338 => ((impl_CountAddrs.f k t338).bind fun t341 => (if t341 = t337 then ((laws_toPrefixS.f k l0).bind fun t342 => ((laws_eqPrefixS.f k t338 t342).bind fun t345 => (if t345 = true then (some true) else (some false)))) else (some false)))))))) = some r := h
 clear h
 replace H := Option.bind_eq_some_iff.mp H
 obtain ⟨t333, A20, H⟩ := H
 have A2 := Aside0.mk A20
 clear A20
 by_cases c3 : t333 < 0
 ·rw [if_pos c3] at H
  have c3b0 : decide (t333 < 0) = true := decide_eq_true c3
  clear c3
  obtain rfl := Option.some.inj H
  go_enter Try.func5, Try.ntmps5
  go_wp2_with (first | ((with_reducible refine gate_callee (f := 25) rfl ?_); refine gl_ (some 9) Try.func25 #[.slice A0 l0.length c0, .int .i64 1048576] ?_; (with_reducible refine (laws_szPrefixS.calls _ _ l0 1048576 t333 _ ?side1 ?side2 A2.out).mono ?_); (case side1 => repeat (first | exact HR0.out | (with_reducible refine Kd.C_alloc ?_ _) | (with_reducible refine Kd.C_drewN ?_ _) | (with_reducible refine Kd.C_drew ?_))); (case side2 => exact HC0.out); rintro e w' ⟨rfl, ⟨nd, rfl⟩⟩; refine ⟨_, rfl, ?_⟩))
  go_ret
  exact ⟨by first | rfl | (simp [errW_none, errW_some] <;> rfl) | (simp [*, errW_none, errW_some] <;> rfl), by repeat (first | (with_reducible first | exact HB.out | apply below_alloc | apply pw_below_drewN | apply below_drew1) | exact HB.out)⟩
 ·rw [if_neg c3] at H
  have c3b0 : decide (t333 < 0) = false := decide_eq_false c3
  clear c3
  replace H := Option.bind_eq_some_iff.mp H
  obtain ⟨t334, A40, H⟩ := H
  have A4 := Aside0.mk A40
  clear A40
  replace H := Option.bind_eq_some_iff.mp H
  obtain ⟨t337, A50, H⟩ := H
  have A5 := Aside0.mk A50
  clear A50
  replace H := Option.bind_eq_some_iff.mp H
  obtain ⟨t338, A60, H⟩ := H
  have A6 := Aside0.mk A60
  clear A60
  replace H := Option.bind_eq_some_iff.mp H
  obtain ⟨t341, A70, H⟩ := H
  have A7 := Aside0.mk A70
  clear A70
  by_cases c8 : t341 = t337
  ·rw [if_pos c8] at H
   have c8b0 : (t341 == t337) = true := beq_iff_eq.mpr c8
   have c8b1 : (t341 != t337) = false := bne_eq_false_iff_eq.mpr c8
   clear c8
   replace H := Option.bind_eq_some_iff.mp H
   obtain ⟨t342, A90, H⟩ := H
   have A9 := Aside0.mk A90
   clear A90
   replace H := Option.bind_eq_some_iff.mp H
   obtain ⟨t345, A100, H⟩ := H
   have A10 := Aside0.mk A100
   clear A100
   by_cases c11 : t345 = true
   ·subst c11
    rw [if_pos rfl] at H
    obtain rfl := Option.some.inj H
    go_enter Try.func5, Try.ntmps5
    go_wp2_with (first | ((with_reducible refine gate_callee (f := 25) rfl ?_); refine gl_ (some 9) Try.func25 #[.slice A0 l0.length c0, .int .i64 1048576] ?_; (with_reducible refine (laws_szPrefixS.calls _ _ l0 1048576 t333 _ ?side1 ?side2 A2.out).mono ?_); (case side1 => repeat (first | exact HR0.out | (with_reducible refine Kd.C_alloc ?_ _) | (with_reducible refine Kd.C_drewN ?_ _) | (with_reducible refine Kd.C_drew ?_))); (case side2 => exact HC0.out); rintro e w' ⟨rfl, ⟨nd, rfl⟩⟩; refine ⟨_, rfl, ?_⟩) | ((with_reducible refine gate_callee (f := 27) rfl ?_); refine gl_ (some 13) Try.func27 #[.slice A0 l0.length c0] ?_; (with_reducible refine (laws_toPrefixS.calls k _ _ l0 t334 _ ?side1 ?side2 A4.out).mono ?_); (case side1 => repeat (first | exact HR0.out | (with_reducible refine Kd.C_alloc ?_ _) | (with_reducible refine Kd.C_drewN ?_ _) | (with_reducible refine Kd.C_drew ?_))); (case side2 => exact HC0.out); rintro e w12 ⟨v335, rfl, ho0, hb⟩; refine ⟨_, rfl, ?_⟩; have HO336 := Aside0.mk (Kd.R_lower ho0 (bz_ HB)); replace HB := Aside0.mk (bt_ HB hb); (try clear hb); (try clear hb2); (try clear hk); (try clear hi); (try clear ho0); obtain ⟨Ao13, co13, eo13⟩ := Kd.R_slice HO336.out; subst eo13) | ((with_reducible refine gate_callee (f := 26) rfl ?_); refine gl_ (some 14) Try.func26 #[.slice Ao13 t334.length co13] ?_; (with_reducible refine (spec_CountAddrs.calls k _ _ t334 t337 _ ?side1 ?side2 A5.out).mono ?_); (case side1 => exact rc_ HO336); (case side2 => exact (Kd.R_reads' HO336.out).2.1); rintro e w14 ⟨rfl, hb⟩; refine ⟨_, rfl, ?_⟩; replace HO336 := rb_ HO336 hb; replace HB := Aside0.mk (bt_ HB hb); (try clear hb); (try clear hb2); (try clear hk); (try clear hi)) | ((with_reducible refine gate_callee (f := 27) rfl ?_); refine gl_ (some 16) Try.func27 #[.slice A0 l0.length c0] ?_; (with_reducible refine (laws_toPrefixS.calls k _ _ l0 t338 _ ?side1 ?side2 A6.out).mono ?_); (case side1 => exact cb_ HR0 HB); (case side2 => exact HC0.out); rintro e w15 ⟨v339, rfl, ho0, hb⟩; refine ⟨_, rfl, ?_⟩; have HO340 := Aside0.mk (Kd.R_lower (Kd.R_new' ho0 (Kd.R_lt (hd_ HO336))) (bz_ HB)); replace HO336 := Aside0.mk (Kd.R_elder' (hd_ HO336) (Kd.R_base ho0) hb); replace HB := Aside0.mk (bt_ HB hb); (try clear hb); (try clear hb2); (try clear hk); (try clear hi); (try clear ho0); obtain ⟨Ao16, co16, eo16⟩ := Kd.R_slice HO340.out; subst eo16) | ((with_reducible refine gate_callee (f := 28) rfl ?_); refine gl_ (some 18) Try.func28 #[.slice Ao16 t338.length co16] ?_; (with_reducible refine (impl_CountAddrs.calls k _ _ t338 t341 _ ?side1 ?side2 A7.out).mono ?_); (case side1 => exact rc_ HO340); (case side2 => exact (Kd.R_reads' HO340.out).2.1); rintro e w17 ⟨rfl, hb⟩; refine ⟨_, rfl, ?_⟩; replace HO336 := rb_ HO336 hb; replace HO340 := rb_ HO340 hb; replace HB := Aside0.mk (bt_ HB hb); (try clear hb); (try clear hb2); (try clear hk); (try clear hi)) | ((with_reducible refine gate_callee (f := 27) rfl ?_); refine gl_ (some 24) Try.func27 #[.slice A0 l0.length c0] ?_; (with_reducible refine (laws_toPrefixS.calls k _ _ l0 t342 _ ?side1 ?side2 A9.out).mono ?_); (case side1 => exact cb_ HR0 HB); (case side2 => exact HC0.out); rintro e w18 ⟨v343, rfl, ho0, hb⟩; refine ⟨_, rfl, ?_⟩; have HO344 := Aside0.mk (Kd.R_lower (Kd.R_new' (Kd.R_new' ho0 (Kd.R_lt (hd_ HO336))) (Kd.R_lt (hd_ HO340))) (bz_ HB)); replace HO336 := Aside0.mk (Kd.R_elder' (hd_ HO336) (Kd.R_base ho0) hb); replace HO340 := Aside0.mk (Kd.R_elder' (hd_ HO340) (Kd.R_base ho0) hb); replace HB := Aside0.mk (bt_ HB hb); (try clear hb); (try clear hb2); (try clear hk); (try clear hi); (try clear ho0); obtain ⟨Ao19, co19, eo19⟩ := Kd.R_slice HO344.out; subst eo19) | ((with_reducible refine gate_callee (f := 29) rfl ?_); refine gl_ (some 25) Try.func29 #[.slice Ao16 t338.length co16, .slice Ao19 t342.length co19] ?_; (with_reducible refine (laws_eqPrefixS.calls k _ _ t338 _ _ t342 true _ ?side1 ?side2 ?side3 ?side4 A10.out).mono ?_); (case side1 => exact rc_ HO340); (case side2 => exact (Kd.R_reads' HO340.out).2.1); (case side3 => exact rc_ HO344); (case side4 => exact (Kd.R_reads' HO344.out).2.1); rintro e w20 ⟨rfl, hb⟩; refine ⟨_, rfl, ?_⟩; replace HO336 := rb_ HO336 hb; replace HO340 := rb_ HO340 hb; replace HO344 := rb_ HO344 hb; replace HB := Aside0.mk (bt_ HB hb); (try clear hb); (try clear hb2); (try clear hk); (try clear hi)))
    go_ret
    exact ⟨by first | rfl | (simp [errW_none, errW_some] <;> rfl) | (simp [*, errW_none, errW_some] <;> rfl), by repeat (first | (with_reducible first | exact HB.out | apply below_alloc | apply pw_below_drewN | apply below_drew1) | exact HB.out)⟩
   ·replace c11 := Bool.eq_false_iff.mpr c11
    subst c11
    rw [if_neg (show ¬ (false = true) by decide)] at H
    obtain rfl := Option.some.inj H
    go_enter Try.func5, Try.ntmps5
    go_wp2_with (first | ((with_reducible refine gate_callee (f := 25) rfl ?_); refine gl_ (some 9) Try.func25 #[.slice A0 l0.length c0, .int .i64 1048576] ?_; (with_reducible refine (laws_szPrefixS.calls _ _ l0 1048576 t333 _ ?side1 ?side2 A2.out).mono ?_); (case side1 => repeat (first | exact HR0.out | (with_reducible refine Kd.C_alloc ?_ _) | (with_reducible refine Kd.C_drewN ?_ _) | (with_reducible refine Kd.C_drew ?_))); (case side2 => exact HC0.out); rintro e w' ⟨rfl, ⟨nd, rfl⟩⟩; refine ⟨_, rfl, ?_⟩) | ((with_reducible refine gate_callee (f := 27) rfl ?_); refine gl_ (some 13) Try.func27 #[.slice A0 l0.length c0] ?_; (with_reducible refine (laws_toPrefixS.calls k _ _ l0 t334 _ ?side1 ?side2 A4.out).mono ?_); (case side1 => repeat (first | exact HR0.out | (with_reducible refine Kd.C_alloc ?_ _) | (with_reducible refine Kd.C_drewN ?_ _) | (with_reducible refine Kd.C_drew ?_))); (case side2 => exact HC0.out); rintro e w21 ⟨v335, rfl, ho0, hb⟩; refine ⟨_, rfl, ?_⟩; have HO336 := Aside0.mk (Kd.R_lower ho0 (bz_ HB)); replace HB := Aside0.mk (bt_ HB hb); (try clear hb); (try clear hb2); (try clear hk); (try clear hi); (try clear ho0); obtain ⟨Ao22, co22, eo22⟩ := Kd.R_slice HO336.out; subst eo22) | ((with_reducible refine gate_callee (f := 26) rfl ?_); refine gl_ (some 14) Try.func26 #[.slice Ao22 t334.length co22] ?_; (with_reducible refine (spec_CountAddrs.calls k _ _ t334 t337 _ ?side1 ?side2 A5.out).mono ?_); (case side1 => exact rc_ HO336); (case side2 => exact (Kd.R_reads' HO336.out).2.1); rintro e w23 ⟨rfl, hb⟩; refine ⟨_, rfl, ?_⟩; replace HO336 := rb_ HO336 hb; replace HB := Aside0.mk (bt_ HB hb); (try clear hb); (try clear hb2); (try clear hk); (try clear hi)) | ((with_reducible refine gate_callee (f := 27) rfl ?_); refine gl_ (some 16) Try.func27 #[.slice A0 l0.length c0] ?_; (with_reducible refine (laws_toPrefixS.calls k _ _ l0 t338 _ ?side1 ?side2 A6.out).mono ?_); (case side1 => exact cb_ HR0 HB); (case side2 => exact HC0.out); rintro e w24 ⟨v339, rfl, ho0, hb⟩; refine ⟨_, rfl, ?_⟩; have HO340 := Aside0.mk (Kd.R_lower (Kd.R_new' ho0 (Kd.R_lt (hd_ HO336))) (bz_ HB)); replace HO336 := Aside0.mk (Kd.R_elder' (hd_ HO336) (Kd.R_base ho0) hb); replace HB := Aside0.mk (bt_ HB hb); (try clear hb); (try clear hb2); (try clear hk); (try clear hi); (try clear ho0); obtain ⟨Ao25, co25, eo25⟩ := Kd.R_slice HO340.out; subst eo25) | ((with_reducible refine gate_callee (f := 28) rfl ?_); refine gl_ (some 18) Try.func28 #[.slice Ao25 t338.length co25] ?_; (with_reducible refine (impl_CountAddrs.calls k _ _ t338 t341 _ ?side1 ?side2 A7.out).mono ?_); (case side1 => exact rc_ HO340); (case side2 => exact (Kd.R_reads' HO340.out).2.1); rintro e w26 ⟨rfl, hb⟩; refine ⟨_, rfl, ?_⟩; replace HO336 := rb_ HO336 hb; replace HO340 := rb_ HO340 hb; replace HB := Aside0.mk (bt_ HB hb); (try clear hb); (try clear hb2); (try clear hk); (try clear hi)) | ((with_reducible refine gate_callee (f := 27) rfl ?_); refine gl_ (some 24) Try.func27 #[.slice A0 l0.length c0] ?_; (with_reducible refine (laws_toPrefixS.calls k _ _ l0 t342 _ ?side1 ?side2 A9.out).mono ?_); (case side1 => exact cb_ HR0 HB); (case side2 => exact HC0.out); rintro e w27 ⟨v343, rfl, ho0, hb⟩; refine ⟨_, rfl, ?_⟩; have HO344 := Aside0.mk (Kd.R_lower (Kd.R_new' (Kd.R_new' ho0 (Kd.R_lt (hd_ HO336))) (Kd.R_lt (hd_ HO340))) (bz_ HB)); replace HO336 := Aside0.mk (Kd.R_elder' (hd_ HO336) (Kd.R_base ho0) hb); replace HO340 := Aside0.mk (Kd.R_elder' (hd_ HO340) (Kd.R_base ho0) hb); replace HB := Aside0.mk (bt_ HB hb); (try clear hb); (try clear hb2); (try clear hk); (try clear hi); (try clear ho0); obtain ⟨Ao28, co28, eo28⟩ := Kd.R_slice HO344.out; subst eo28) | ((with_reducible refine gate_callee (f := 29) rfl ?_); refine gl_ (some 25) Try.func29 #[.slice Ao25 t338.length co25, .slice Ao28 t342.length co28] ?_; (with_reducible refine (laws_eqPrefixS.calls k _ _ t338 _ _ t342 false _ ?side1 ?side2 ?side3 ?side4 A10.out).mono ?_); (case side1 => exact rc_ HO340); (case side2 => exact (Kd.R_reads' HO340.out).2.1); (case side3 => exact rc_ HO344); (case side4 => exact (Kd.R_reads' HO344.out).2.1); rintro e w29 ⟨rfl, hb⟩; refine ⟨_, rfl, ?_⟩; replace HO336 := rb_ HO336 hb; replace HO340 := rb_ HO340 hb; replace HO344 := rb_ HO344 hb; replace HB := Aside0.mk (bt_ HB hb); (try clear hb); (try clear hb2); (try clear hk); (try clear hi)))
    go_ret
    exact ⟨by first | rfl | (simp [errW_none, errW_some] <;> rfl) | (simp [*, errW_none, errW_some] <;> rfl), by repeat (first | (with_reducible first | exact HB.out | apply below_alloc | apply pw_below_drewN | apply below_drew1) | exact HB.out)⟩
  ·rw [if_neg c8] at H
   have c8b0 : (t341 == t337) = false := beq_eq_false_iff_ne.mpr c8
   have c8b1 : (t341 != t337) = true := bne_iff_ne.mpr c8
   obtain rfl := Option.some.inj H
   go_enter Try.func5, Try.ntmps5
   go_wp2_with (first | ((with_reducible refine gate_callee (f := 25) rfl ?_); refine gl_ (some 9) Try.func25 #[.slice A0 l0.length c0, .int .i64 1048576] ?_; (with_reducible refine (laws_szPrefixS.calls _ _ l0 1048576 t333 _ ?side1 ?side2 A2.out).mono ?_); (case side1 => repeat (first | exact HR0.out | (with_reducible refine Kd.C_alloc ?_ _) | (with_reducible refine Kd.C_drewN ?_ _) | (with_reducible refine Kd.C_drew ?_))); (case side2 => exact HC0.out); rintro e w' ⟨rfl, ⟨nd, rfl⟩⟩; refine ⟨_, rfl, ?_⟩) | ((with_reducible refine gate_callee (f := 27) rfl ?_); refine gl_ (some 13) Try.func27 #[.slice A0 l0.length c0] ?_; (with_reducible refine (laws_toPrefixS.calls k _ _ l0 t334 _ ?side1 ?side2 A4.out).mono ?_); (case side1 => repeat (first | exact HR0.out | (with_reducible refine Kd.C_alloc ?_ _) | (with_reducible refine Kd.C_drewN ?_ _) | (with_reducible refine Kd.C_drew ?_))); (case side2 => exact HC0.out); rintro e w30 ⟨v335, rfl, ho0, hb⟩; refine ⟨_, rfl, ?_⟩; have HO336 := Aside0.mk (Kd.R_lower ho0 (bz_ HB)); replace HB := Aside0.mk (bt_ HB hb); (try clear hb); (try clear hb2); (try clear hk); (try clear hi); (try clear ho0); obtain ⟨Ao31, co31, eo31⟩ := Kd.R_slice HO336.out; subst eo31) | ((with_reducible refine gate_callee (f := 26) rfl ?_); refine gl_ (some 14) Try.func26 #[.slice Ao31 t334.length co31] ?_; (with_reducible refine (spec_CountAddrs.calls k _ _ t334 t337 _ ?side1 ?side2 A5.out).mono ?_); (case side1 => exact rc_ HO336); (case side2 => exact (Kd.R_reads' HO336.out).2.1); rintro e w32 ⟨rfl, hb⟩; refine ⟨_, rfl, ?_⟩; replace HO336 := rb_ HO336 hb; replace HB := Aside0.mk (bt_ HB hb); (try clear hb); (try clear hb2); (try clear hk); (try clear hi)) | ((with_reducible refine gate_callee (f := 27) rfl ?_); refine gl_ (some 16) Try.func27 #[.slice A0 l0.length c0] ?_; (with_reducible refine (laws_toPrefixS.calls k _ _ l0 t338 _ ?side1 ?side2 A6.out).mono ?_); (case side1 => exact cb_ HR0 HB); (case side2 => exact HC0.out); rintro e w33 ⟨v339, rfl, ho0, hb⟩; refine ⟨_, rfl, ?_⟩; have HO340 := Aside0.mk (Kd.R_lower (Kd.R_new' ho0 (Kd.R_lt (hd_ HO336))) (bz_ HB)); replace HO336 := Aside0.mk (Kd.R_elder' (hd_ HO336) (Kd.R_base ho0) hb); replace HB := Aside0.mk (bt_ HB hb); (try clear hb); (try clear hb2); (try clear hk); (try clear hi); (try clear ho0); obtain ⟨Ao34, co34, eo34⟩ := Kd.R_slice HO340.out; subst eo34) | ((with_reducible refine gate_callee (f := 28) rfl ?_); refine gl_ (some 18) Try.func28 #[.slice Ao34 t338.length co34] ?_; (with_reducible refine (impl_CountAddrs.calls k _ _ t338 t341 _ ?side1 ?side2 A7.out).mono ?_); (case side1 => exact rc_ HO340); (case side2 => exact (Kd.R_reads' HO340.out).2.1); rintro e w35 ⟨rfl, hb⟩; refine ⟨_, rfl, ?_⟩; replace HO336 := rb_ HO336 hb; replace HO340 := rb_ HO340 hb; replace HB := Aside0.mk (bt_ HB hb); (try clear hb); (try clear hb2); (try clear hk); (try clear hi)))
   go_ret
   exact ⟨by first | rfl | (simp [errW_none, errW_some] <;> rfl) | (simp [*, errW_none, errW_some] <;> rfl), by repeat (first | (with_reducible first | exact HB.out | apply below_alloc | apply pw_below_drewN | apply below_drew1) | exact HB.out)⟩

end Go.Proofs.Ytjepmdngbafonaa.QFnExactCountAddrs
