/- Contracts of functions that the law reaches: what each call returns and what it leaves in memory. Made by this session over the print of the kit. -/
import Derived.Test.YtmbaemcnjdgemaaDoorQFnExactTableTextx0
import Derived.Test.YtmbaemcnjdgemaaDoorQFnExactTableTextx4
import Derived.Test.YtmbaemcnjdgemaaDoorQFnExactTableTextx6
namespace Go.Proofs.YtmbaemcnjdgemaaDoor.QFnExactTableText
open Go.RowKit Go.Proofs.YtmbaemcnjdgemaaDoorC.PrintWords Go.Proofs.YtmbaemcnjdgemaaDoorC.PrintLast Go.Proofs.YtmbaemcnjdgemaaDoorC.PrintMore
attribute [local go_sem] max2_int min2_int max_two min_two max_three min_three max_four min_four   -- for this text's walks alone
set_option linter.unusedVariables false
set_option linter.unusedSimpArgs false
def ba7_0 : Array Bool := #[false, false, false, false, false, false, false, false, false, false]
def ba7_1 : Array Bool := #[true, false, false, false, false, false, false, false, false, false]
def ba7_2 : Array Bool := #[true, false, false, false, true, false, false, false, false, false]
def ba7_3 : Array Bool := #[true, true, false, false, true, false, false, false, false, false]
def ba7_4 : Array Bool := #[true, true, false, false, true, true, false, false, false, false]
def ba7_5 : Array Bool := #[true, true, true, false, true, true, false, false, false, false]
def ba7_6 : Array Bool := #[true, true, true, true, true, true, false, false, false, false]
def ba7_7 : Array Bool := #[true, true, true, true, true, true, true, false, false, false]
def ba7_8 : Array Bool := #[true, true, true, true, true, true, true, true, false, false]
def ba7_9 : Array Bool := #[true, true, true, true, true, true, true, true, true, false]
def ba7_10 : Array Bool := #[true, true, true, true, true, true, true, true, true, true]
def ba7_11 : Array Bool := #[true, true, false, false, false, false, false, false, false, false]
def ba7_12 : Array Bool := #[true, true, true, false, false, false, false, false, false, false]
def ba7_13 : Array Bool := #[true, true, true, false, true, false, false, false, false, false]
def ba7_14 : Array Bool := #[true, true, true, false, true, true, true, false, false, false]

/-! ### impl_TableText: function 24 -/
section
open Go.Shelf Go.Lib Go.Sort
def sb_ren : Go.Shelf.Ren := ⟨fun | 166 => 45 | 240 => 60 | 276 => 72 | 169 => 47 | n => n, fun | 0 => 0 | 3 => 3 | 4 => 4 | 5 => 5 | 9 => 9 | 20 => 20 | 37 => 22 | 70 => 75 | 72 => 77 | 75 => 58 | 80 => 61 | 127 => 89 | 164 => 104 | n => n, fun | n => n⟩
theorem sb_lay : Go.Proofs.Lays.n166 Tryd.prog sb_ren := {
  mixed := by kernel_rfl
  f166 := Tryd.func45.trans (congrArg some (by kernel_rfl))
  f240 := Tryd.func60.trans (congrArg some (by kernel_rfl))
  f276 := Tryd.func72.trans (congrArg some (by kernel_rfl))
  t0 := Tryd.underlying0
  a0 := Tryd.isAgg0
  z0 := Tryd.sizeOf0
  v0 := Tryd.zeroValue0
  t3 := Tryd.underlying3
  a3 := Tryd.isAgg3
  z3 := Tryd.sizeOf3
  v3 := Tryd.zeroValue3
  t4 := Tryd.underlying4
  a4 := Tryd.isAgg4
  z4 := Tryd.sizeOf4
  v4 := Tryd.zeroValue4
  t9 := Tryd.underlying9
  a9 := Tryd.isAgg9
  z9 := Tryd.sizeOf9
  v9 := Tryd.zeroValue9
  t20 := Tryd.underlying20
  a20 := Tryd.isAgg20
  z20 := Tryd.sizeOf20
  v20 := Tryd.zeroValue20
  t37 := Tryd.underlying22
  a37 := Tryd.isAgg22
  z37 := Tryd.sizeOf22
  v37 := Tryd.zeroValue22
  t70 := Tryd.underlying75
  a70 := Tryd.isAgg75
  z70 := Tryd.sizeOf75
  v70 := Tryd.zeroValue75
  t72 := Tryd.underlying77
  a72 := Tryd.isAgg77
  z72 := Tryd.sizeOf77
  v72 := Tryd.zeroValue77
  t75 := Tryd.underlying58
  a75 := Tryd.isAgg58
  z75 := Tryd.sizeOf58
  v75 := Tryd.zeroValue58
  t164 := Tryd.underlying104
  a164 := Tryd.isAgg104
  z164 := Tryd.sizeOf104
  v164 := Tryd.zeroValue104 }
theorem sb_lay2 : Go.Proofs.Lays.n169 Tryd.prog sb_ren := {
  mixed := by kernel_rfl
  f169 := Tryd.func47.trans (congrArg some (by kernel_rfl))
  t0 := Tryd.underlying0
  a0 := Tryd.isAgg0
  z0 := Tryd.sizeOf0
  v0 := Tryd.zeroValue0
  t3 := Tryd.underlying3
  a3 := Tryd.isAgg3
  z3 := Tryd.sizeOf3
  v3 := Tryd.zeroValue3
  t9 := Tryd.underlying9
  a9 := Tryd.isAgg9
  z9 := Tryd.sizeOf9
  v9 := Tryd.zeroValue9
  t37 := Tryd.underlying22
  a37 := Tryd.isAgg22
  z37 := Tryd.sizeOf22
  v37 := Tryd.zeroValue22
  t70 := Tryd.underlying75
  a70 := Tryd.isAgg75
  z70 := Tryd.sizeOf75
  v70 := Tryd.zeroValue75
  t72 := Tryd.underlying77
  a72 := Tryd.isAgg77
  z72 := Tryd.sizeOf77
  v72 := Tryd.zeroValue77
  t127 := Tryd.underlying89
  a127 := Tryd.isAgg89
  z127 := Tryd.sizeOf89
  v127 := Tryd.zeroValue89 }
theorem sb_extra : Builder.Extra Tryd.prog sb_ren := {
  sizeBuilder := by kernel_rfl
  liesBuilder := by kernel_rfl
  t5 := Tryd.underlying5
  a5 := Tryd.isAgg5
  z5 := Tryd.sizeOf5
  v5 := Tryd.zeroValue5
  infoByte := by kernel_rfl
  cellsByte := by kernel_rfl
  sizeByte := by kernel_rfl
  neB5 := by decide }
theorem sb_write (B b : Nat) (bs : List Value) (s : ByteArray) (w : World) (h : Lib.IsBuilder 77 5 B b bs w) (hlen : bs.length + s.size ≤ 140737488355328) (hBw : B ≤ w.heap.size) :
    Calls Tryd.prog 45 #[.pointer (some ⟨b, 0, none⟩), .string s] w fun e w' => e = .returned (.tuple #[.int .i64 s.size, .nilIface]) ∧ (Lib.BuilderAt 77 5 B b (.pointer (some ⟨b, 0, none⟩)) (bs ++ Lib.strCells s) w' ∧ Below B w w') := Any.Builder_WriteString sb_lay sb_extra B b bs s w h hlen hBw
theorem sb_string (B b : Nat) (l : List UInt8) (w : World) (h : Lib.IsBuilder 77 5 B b (Lib.byteCells l) w) (hBw : B ≤ w.heap.size) :
    Calls Tryd.prog 47 #[.pointer (some ⟨b, 0, none⟩)] w fun e w' => e = .returned (.string ⟨l.toArray⟩) ∧ Below B w w' := Any.Builder_String_any sb_lay2 sb_extra B b l w h hBw
theorem BuilderAt_below {T e : TypeId} {B b : Nat} {p : Value} {bs : List Value} {W W' : World} (h : Lib.BuilderAt T e B b p bs W) (hb : Below W.heap.size W W') : Lib.BuilderAt T e B b p bs W' := by
  have hlt := h.lt
  obtain ⟨hB, v, hv, hown, hne⟩ := h
  exact ⟨hB, v, (hb.block b hlt).trans hv, hown.kept (row := none) ⟨hb.os, hb.tape, hb.output, hb.size, fun k hk _ => hb.block k hk⟩ (Classical.em _), hne⟩
theorem isb_below {T e : TypeId} {B b : Nat} {bs : List Value} {W W' : World} (h : Aside0 (Lib.IsBuilder T e B b bs W)) (hb : Below W.heap.size W W') : Lib.IsBuilder T e B b bs W' :=
  h.out.elim (fun x => .inl (BuilderAt_below x hb)) (fun x => .inr (BuilderAt_below x hb))
theorem strCells_append (a b : ByteArray) : Lib.strCells (a ++ b) = Lib.strCells a ++ Lib.strCells b := by
  unfold Lib.strCells
  rw [show (a ++ b).data = a.data ++ b.data from ByteArray.data_append]
  simp
theorem sb_string' (B b : Nat) (s : ByteArray) (w : World) (h : Lib.IsBuilder 77 5 B b (Lib.strCells s) w) (hBw : B ≤ w.heap.size) :
    Calls Tryd.prog 47 #[.pointer (some ⟨b, 0, none⟩)] w fun e w' => e = .returned (.string s) ∧ Below B w w' := sb_string B b s.data.toList w h hBw
theorem isb_le {T e : TypeId} {B b : Nat} {bs : List Value} {W : World} (h : Lib.IsBuilder T e B b bs W) : b ≤ W.heap.size := h.elim (fun x => Nat.le_of_lt x.lt) (fun x => Nat.le_of_lt x.lt)
theorem isb_new {g : Nat} {W : World} (h : W.heap[g]? = some (.cells #[.pointer none, .slice none 0 0] 77 (0, 0))) : Lib.IsBuilder 77 5 g g (Lib.strCells ⟨#[]⟩) W := Or.inl ⟨Nat.le_refl _, .slice none 0 0, h, World.ownsRow_nil _ _ _ _, by simp [Value.ownBlock]⟩
end
def tt_ba0 : Array Bool := ba7_0
def tt_ba1 : Array Bool := ba7_1
def tt_ba2 : Array Bool := ba7_2
def tt_ba3 : Array Bool := ba7_3
def tt_ba4 : Array Bool := ba7_4
def tt_ba5 : Array Bool := ba7_5
def tt_ba6 : Array Bool := ba7_6
def tt_ba7 : Array Bool := ba7_7
def tt_ba8 : Array Bool := ba7_8
def tt_ba9 : Array Bool := ba7_9
def tt_ba10 : Array Bool := ba7_10
def impl_TableText.l0 : Nat → Int → ByteArray → List (S73) → Option (ByteArray)
 | 0, _, _, _ => none
 | k + 1, x12, acc, x130000 => if x12 < (x130000.length : Int) then (if 0 ≤ x12 then ((impl_Prefix_text.f ((rd_T73 x130000 x12).f0.f0) ((rd_T73 x130000 x12).f0.f1)).bind fun t1 => (if t1.size + 1 ≤ 9223372036854775807 then ((strconv_Itoa_46.f ((rd_T73 x130000 x12).f1)).bind fun t2 => (if (t1 ++ (⟨#[32]⟩ : ByteArray)).size + t2.size ≤ 9223372036854775807 then (if ((t1 ++ (⟨#[32]⟩ : ByteArray)) ++ t2).size + 1 ≤ 9223372036854775807 then (if acc.size + (((t1 ++ (⟨#[32]⟩ : ByteArray)) ++ t2) ++ (⟨#[10]⟩ : ByteArray)).size ≤ 140737488355328 then (impl_TableText.l0 k (wrap64 (x12 + 1)) (acc ++ (((t1 ++ (⟨#[32]⟩ : ByteArray)) ++ t2) ++ (⟨#[10]⟩ : ByteArray))) x130000) else (none)) else (none)) else (none))) else (none))) else (none)) else (some acc)
def impl_TableText.f (k : Nat) (l0_0 : List (S73)) : Option (ByteArray) := (impl_TableOk.f k l0_0).bind fun t0 => (if t0 = true then (impl_TableText.l0 k 0 (⟨#[]⟩ : ByteArray) l0_0) else (some (⟨#[]⟩ : ByteArray)))
theorem impl_TableText.mono_l : ∀ k, (∀ y0 y1 y2, LeO (impl_TableText.l0 k y0 y1 y2) (impl_TableText.l0 (k + 1) y0 y1 y2))
 | 0 => fun _ _ _ r h => by simp [impl_TableText.l0] at h
 | k + 1 => by
  have ih0 := impl_TableText.mono_l k
  ·intro y0 y1 y2
   unfold impl_TableText.l0
   repeat' first
   | (with_reducible exact ih0 _ _ _)
   | (with_reducible exact LeO.refl _)
   | (with_reducible exact LeO.none _)
   | (with_reducible refine LeO.ite ?_ ?_)
   | (with_reducible refine LeO.bind ?_ (fun _ => ?_))
   | exact ih0 _ _ _
   | exact LeO.none _
   | refine LeO.ite ?_ ?_
   | refine LeO.bind ?_ (fun _ => ?_)
theorem impl_TableText.mono : ∀ a0 k, LeO (impl_TableText.f k a0) (impl_TableText.f (k + 1) a0) := by
 intro a0 k
 have ih0 := impl_TableText.mono_l k
 have ih1 := fun a => impl_TableOk.mono a k
 unfold impl_TableText.f
 refine LeO.bind (ih1 _) (fun _ => ?_)
 exact LeO.ite (ih0 _ _ _) (LeO.refl _)
def impl_TableText.T7 : Bool × List (List Nat × List Nat) := (true, [([], []), ([0], [0]), ([1], [1]), ([2], [2]), ([], []), ([4], [4]), ([5, 2], [5]), ([3, 6], [3, 6]), ([7], [7]), ([8, 6], [8])])
def impl_TableText.B7 : List Nat := [0, 1, 3, 7, 0, 16, 48, 127, 255, 511]
theorem impl_TableText.tab7 : rtab .any (opsOf Tryd.f24 7) = impl_TableText.T7 := by kernel_rfl
theorem impl_TableText.bits7 : waitsOk impl_TableText.T7.2 impl_TableText.B7 = true := by kernel_rfl
set_option maxHeartbeats 8000000 in
set_option maxRecDepth 100000 in
theorem impl_TableText.calls (k : Nat) (A0_0 : Option Addr) (c0_0 : Nat) (l0_0 : List (S73)) (r : ByteArray) (w : World) (hT : TabOk w) (hr0_0 : Kd.C k73 w A0_0 l0_0.length l0_0) (hc0_0 : l0_0.length ≤ c0_0) (h : impl_TableText.f k l0_0 = some r) :
  Calls Tryd.prog 24 #[.agg #[.slice A0_0 l0_0.length c0_0]] w fun e w' => e = .returned (.string r) ∧ Below w.heap.size w w' := by
 have hu48 := Tryd.underlying48
 have hu73 := Tryd.underlying73
 have hu25 := Tryd.underlying25
 have HR0_0 := Aside0.mk hr0_0
 have HC0_0 := Aside0.mk hc0_0
 clear hr0_0 hc0_0
 have HB := Aside0.mk (Below.refl w.heap.size w)
 have H : ((impl_TableOk.f k l0_0).bind fun t0 => (if t0 = true then (impl_TableText.l0 k 0 (⟨#[]⟩ : ByteArray) l0_0) else (some (⟨#[]⟩ : ByteArray)))) = some r := h
 clear h
 replace H := Option.bind_eq_some_iff.mp H
 obtain ⟨t0, A20, H⟩ := H
 have A2 := Aside0.mk A20
 clear A20
 by_cases c3 : t0 = true
 rotate_left
 ·replace c3 := Bool.eq_false_iff.mpr c3
  subst c3
  rw [if_neg (show ¬ (false = true) by decide)] at H
  obtain rfl := Option.some.inj H
  go_enter Tryd.func24, Tryd.ntmps24
  go_wp2_with (first | ((with_reducible refine gate_dst (N := 1) rfl ?_); refine box_event ?hg (N := 1) ?hd (cs := #[.slice A0_0 l0_0.length c0_0]) (t := 48) ?hr ?_; (case hd => rfl); (case hg => rfl); (case hr => first | (go_simp; done) | (go_simp; rfl)); intro gb1 hg w2 hbox hb; have BK1 := Aside0.mk hbox; have GW1 := ge_ HB hg; have GE1 := ge_ HB hg; replace HB := Aside0.mk (bt_ HB hb); clear hb hbox hg; have hcz1_0 := cz_ BK1 0 (.slice A0_0 l0_0.length c0_0); have hfz1_0 := blk_frozen BK1.out 0) | ((with_reducible refine gate_callee (f := 44) rfl ?_); refine gl_ (some 7) Tryd.func44 #[.agg #[.slice A0_0 l0_0.length c0_0]] ?_; (with_reducible refine (impl_TableOk.calls k _ _ l0_0 false _ ?side1 ?side2 A2.out).mono ?_); (case side1 => exact cb_ HR0_0 HB); (case side2 => exact HC0_0.out); rintro e w6 ⟨rfl, hb⟩; refine ⟨_, rfl, ?_⟩; replace BK1 := Aside0.mk (bb_ BK1 hb); replace HB := Aside0.mk (bt_ HB hb); clear hb; have hcz2_0 := cz_ BK1 0 (.slice A0_0 l0_0.length c0_0); have hfz2_0 := blk_frozen BK1.out 0))
  go_ret
  exact ⟨by first | rfl | (simp; done) | (simp [*] <;> rfl), by repeat (first | (with_reducible first | exact HB.out | apply below_alloc | apply pw_below_drewN | apply below_drew1) | exact HB.out)⟩
 subst c3
 rw [if_pos rfl] at H
 have H' := Aside0.mk H
 clear H
 go_enter Tryd.func24, Tryd.ntmps24
 go_wp2_with (first | ((with_reducible refine gate_dst (N := 1) rfl ?_); refine box_event ?hg (N := 1) ?hd (cs := #[.slice A0_0 l0_0.length c0_0]) (t := 48) ?hr ?_; (case hd => rfl); (case hg => rfl); (case hr => first | (go_simp; done) | (go_simp; rfl)); intro gb1 hg w2 hbox hb; have BK1 := Aside0.mk hbox; have GW1 := ge_ HB hg; have GE1 := ge_ HB hg; replace HB := Aside0.mk (bt_ HB hb); clear hb hbox hg; have hcz1_0 := cz_ BK1 0 (.slice A0_0 l0_0.length c0_0); have hfz1_0 := blk_frozen BK1.out 0) | ((with_reducible refine gate_callee (f := 44) rfl ?_); refine gl_ (some 7) Tryd.func44 #[.agg #[.slice A0_0 l0_0.length c0_0]] ?_; (with_reducible refine (impl_TableOk.calls k _ _ l0_0 true _ ?side1 ?side2 A2.out).mono ?_); (case side1 => exact cb_ HR0_0 HB); (case side2 => exact HC0_0.out); rintro e w6 ⟨rfl, hb⟩; refine ⟨_, rfl, ?_⟩; replace BK1 := Aside0.mk (bb_ BK1 hb); replace HB := Aside0.mk (bt_ HB hb); clear hb; have hcz2_0 := cz_ BK1 0 (.slice A0_0 l0_0.length c0_0); have hfz2_0 := blk_frozen BK1.out 0) | ((with_reducible refine gate_dst (N := 3) rfl ?_); refine box_event ?hg (N := 3) ?hd (cs := #[.pointer none, .slice none 0 0]) (t := 77) ?hr ?_; (case hd => rfl); (case hg => rfl); (case hr => first | (go_simp; done) | (go_simp; rfl)); intro gb3 hg w7 hbox hb; have BLD := Aside0.mk (isb_new hbox); have GE3 := ge_ HB hg; have LT13 : Aside0 (gb1 < gb3) := Aside0.mk (hg ▸ blk_lt (by have h_ := BK1.out; (with_reducible repeat (first | refine blk_drewN ?_ _ | refine blk_drew ?_ | refine blk_alloc ?_ _)); exact h_)); replace HB := Aside0.mk (bt_ HB hb); replace BK1 := Aside0.mk (bb_ BK1 hb); clear hb hbox hg; have hcz3_0 := cz_ BK1 0 (.slice A0_0 l0_0.length c0_0); have hfz3_0 := blk_frozen BK1.out 0))
 (try simp only [Act.put, List.setIfInBounds_toArray, List.set_cons_zero, List.set_cons_succ])
 go_loopg [12] k (fun kq v12 w' => ∃ (x1 : Int) (acc : ByteArray), v12 = .int .i64 x1 ∧ Aside0 (impl_TableText.l0 kq x1 acc l0_0 = some r) ∧ Aside0 (kq ≤ k) ∧ Aside0 (w'.heap[gb1]? = some (.cells #[(.slice A0_0 l0_0.length c0_0)] 48 (0, 0))) ∧ Aside0 (Lib.IsBuilder 77 5 gb3 gb3 (Lib.strCells acc) w') ∧ Aside0 (Below w.heap.size w w'))
 case atStart => exact ⟨0, (⟨#[]⟩ : ByteArray), (by first | rfl | (simp; done) | (simp [*]; done)), H', ⟨Nat.le_refl _⟩, ⟨by (with_reducible repeat (first | refine blk_drewN ?_ _ | refine blk_drew ?_ | refine blk_alloc ?_ _)); exact BK1.out⟩, ⟨by first | exact BLD.out | exact isb_below BLD (by (with_reducible repeat (first | apply below_alloc | apply pw_below_drewN | apply below_drew1)); exact Below.refl _ _)⟩, ⟨by repeat (first | (with_reducible first | exact HB.out | apply below_alloc | apply pw_below_drewN | apply below_drew1) | exact HB.out)⟩⟩
 case round =>
  clear H' BK1 BLD HB
  try clear hcz1_0
  try clear hfz1_0
  try clear hcz2_0
  try clear hfz2_0
  try clear hcz3_0
  try clear hfz3_0
  obtain ⟨x1, acc, rfl, HA, HK1, BK1, BLD, HB⟩ := hrel
  cases gk with
  | zero => exact absurd HA.out (by simp [impl_TableText.l0])
  | succ k1 =>
   have H := HA.out
   clear HA
   simp only [impl_TableText.l0] at H
   have hcz4_0 := cz_ BK1 0 (.slice A0_0 l0_0.length c0_0)
   have hfz4_0 := blk_frozen BK1.out 0
   by_cases c7 : x1 < (l0_0.length : Int)
   rotate_left
   ·rw [if_neg c7] at H
    have c7b0 : decide (x1 < (l0_0.length : Int)) = false := decide_eq_false c7
    clear c7
    obtain rfl := Option.some.inj H
    go_wp2_with (((with_reducible refine gate_callee (f := 47) rfl ?_); refine gl_ (some 27) Tryd.func47 #[.pointer (some ⟨gb3, 0, none⟩)] ?_; (refine (sb_string' gb3 gb3 acc _ ?side1 ?side2).mono ?_); (case side1 => first | exact BLD.out | exact isb_below BLD (by (with_reducible repeat (first | apply below_alloc | apply pw_below_drewN | apply below_drew1)); exact Below.refl _ _)); (case side2 => exact isb_le BLD.out); rintro e w21 ⟨rfl, hb⟩; refine ⟨_, rfl, ?_⟩; replace HB := Aside0.mk (Below.trans HB.out (hb.mono GE3.out)); clear hb))
    go_ret
    exact ⟨by first | rfl | (simp; done) | (simp [*] <;> rfl), by repeat (first | (with_reducible first | exact HB.out | apply below_alloc | apply pw_below_drewN | apply below_drew1) | exact HB.out)⟩
   rw [if_pos c7] at H
   have c7b0 : decide (x1 < (l0_0.length : Int)) = true := decide_eq_true c7
   clear c7
   by_cases c8 : 0 ≤ x1
   rotate_left
   ·rw [if_neg c8] at H
    exact absurd H (by simp)
   rw [if_pos c8] at H
   have c8b0 : decide (0 ≤ x1) = true := decide_eq_true c8
   clear c8
   replace H := Option.bind_eq_some_iff.mp H
   obtain ⟨t1, A90, H⟩ := H
   have A9 := Aside0.mk A90
   clear A90
   by_cases c10 : t1.size + 1 ≤ 9223372036854775807
   rotate_left
   ·rw [if_neg c10] at H
    exact absurd H (by simp)
   rw [if_pos c10] at H
   have c10b0 := eq_true c10
   have c10b1 : decide (t1.size + 1 ≤ 9223372036854775807) = true := decide_eq_true c10
   try have c10b2 : (9223372036854775807 < t1.size + 1) = False := eq_false (Nat.not_lt.2 c10)
   replace H := Option.bind_eq_some_iff.mp H
   obtain ⟨t2, A120, H⟩ := H
   have A12 := Aside0.mk A120
   clear A120
   by_cases c13 : (t1 ++ (⟨#[32]⟩ : ByteArray)).size + t2.size ≤ 9223372036854775807
   rotate_left
   ·rw [if_neg c13] at H
    exact absurd H (by simp)
   rw [if_pos c13] at H
   have c13b0 := eq_true c13
   have c13b1 : decide ((t1 ++ (⟨#[32]⟩ : ByteArray)).size + t2.size ≤ 9223372036854775807) = true := decide_eq_true c13
   try have c13b2 : (9223372036854775807 < (t1 ++ (⟨#[32]⟩ : ByteArray)).size + t2.size) = False := eq_false (Nat.not_lt.2 c13)
   have c13b3 : (9223372036854775807 < t1.size + 1 + t2.size) = False := eq_false (Nat.not_lt.2 (by have e := c13; rw [ByteArray.size_append] at e; exact e))
   by_cases c14 : ((t1 ++ (⟨#[32]⟩ : ByteArray)) ++ t2).size + 1 ≤ 9223372036854775807
   rotate_left
   ·rw [if_neg c14] at H
    exact absurd H (by simp)
   rw [if_pos c14] at H
   have c14b0 := eq_true c14
   have c14b1 : decide (((t1 ++ (⟨#[32]⟩ : ByteArray)) ++ t2).size + 1 ≤ 9223372036854775807) = true := decide_eq_true c14
   try have c14b2 : (9223372036854775807 < ((t1 ++ (⟨#[32]⟩ : ByteArray)) ++ t2).size + 1) = False := eq_false (Nat.not_lt.2 c14)
   have c14b3 : (9223372036854775807 < t1.size + 1 + t2.size + 1) = False := eq_false (Nat.not_lt.2 (by have e := c14; rw [ByteArray.size_append, ByteArray.size_append] at e; exact e))
   by_cases c15 : acc.size + (((t1 ++ (⟨#[32]⟩ : ByteArray)) ++ t2) ++ (⟨#[10]⟩ : ByteArray)).size ≤ 140737488355328
   rotate_left
   ·rw [if_neg c15] at H
    exact absurd H (by simp)
   rw [if_pos c15] at H
   have H' := Aside0.mk H
   clear H
   have LEN := Aside0.mk c15
   clear c15
   have HB2 := Aside0.mk (Below.refl wr.heap.size wr)
   have p192 : 0 ≤ (x1 : Int) := of_decide_eq_true (by first | (with_reducible assumption) | assumption)
   have q192 : x1 < (l0_0.length : Int) := of_decide_eq_true (by first | (with_reducible assumption) | assumption)
   obtain ⟨ad192, e192, hx192_0, hx192_1, hx192_2⟩ := at_T73 HR0_0.out x1 p192 q192
   cases e192
   replace hx192_0 := (HB.out.cell (World.block_lt_of_cell? w _ hx192_0)).trans hx192_0
   replace hx192_1 := (HB.out.cell (World.block_lt_of_cell? w _ hx192_1)).trans hx192_1
   replace hx192_2 := (HB.out.cell (World.block_lt_of_cell? w _ hx192_2)).trans hx192_2
   replace p192 := eq_true p192
   replace q192 := eq_true q192
   try go_wp2_with (first | ((with_reducible refine gate_dst (N := 5) rfl ?_); refine box_event ?hg (N := 5) ?hd (cs := #[.int .i64 0, .int .i64 0, .int .i64 0]) (t := 73) ?hr ?_; (case hd => rfl); (case hg => rfl); (case hr => first | (go_simp; done) | (go_simp; rfl)); intro gb5 hg w15 hbox hb; have BK5 := Aside0.mk hbox; have GW5 := ge_ HB hg; have GE5 := ge_ HB hg; have GF5 := ge_ HB2 hg; have NB1_5 := nl_ BK1 hg; have NB5_1 := ng_ BK1 hg; replace HB := Aside0.mk (bt_ HB hb); replace HB2 := Aside0.mk (bt_ HB2 hb); replace BK1 := Aside0.mk (bb_ BK1 hb); clear hb hbox hg; have hnb16 := NB5_1.out; have hnc16 := NB1_5.out; have hcz17_0 := cz_ BK5 0 (.int .i64 0); have hcz17_1 := cz_ BK5 1 (.int .i64 0); have hcz17_2 := cz_ BK5 2 (.int .i64 0); have hfz17_0 := blk_frozen BK5.out 0; have hfz17_1 := blk_frozen BK5.out 1; have hfz17_2 := blk_frozen BK5.out 2))
   have n0_ : Aside0 ((((w15.setCell ⟨gb5, 0, none⟩ (.int .i64 ((rd_T73 l0_0 x1).f0.f0))).setCell ⟨gb5, 1, none⟩ (.int .i64 ((rd_T73 l0_0 x1).f0.f1))).setCell ⟨gb5, 2, none⟩ (.int .i64 ((rd_T73 l0_0 x1).f1))).heap[gb1]? = some (.cells #[.slice (some ad192) l0_0.length c0_0] 48 (0, 0))) := ⟨by (with_reducible repeat (first | refine blk_drewN ?_ _ | refine blk_drew ?_ | refine blk_alloc ?_ _)); refine blk_far ?_ NB1_5.out _; (with_reducible repeat (first | refine blk_drewN ?_ _ | refine blk_drew ?_ | refine blk_alloc ?_ _)); refine blk_far ?_ NB1_5.out _; (with_reducible repeat (first | refine blk_drewN ?_ _ | refine blk_drew ?_ | refine blk_alloc ?_ _)); refine blk_far ?_ NB1_5.out _; (with_reducible repeat (first | refine blk_drewN ?_ _ | refine blk_drew ?_ | refine blk_alloc ?_ _)); exact BK1.out⟩
   have n1_ : Aside0 ((((w15.setCell ⟨gb5, 0, none⟩ (.int .i64 ((rd_T73 l0_0 x1).f0.f0))).setCell ⟨gb5, 1, none⟩ (.int .i64 ((rd_T73 l0_0 x1).f0.f1))).setCell ⟨gb5, 2, none⟩ (.int .i64 ((rd_T73 l0_0 x1).f1))).heap[gb5]? = some (.cells #[.int .i64 ((rd_T73 l0_0 x1).f0.f0), .int .i64 ((rd_T73 l0_0 x1).f0.f1), .int .i64 ((rd_T73 l0_0 x1).f1)] 73 (0, 0))) := ⟨by (with_reducible repeat (first | refine blk_drewN ?_ _ | refine blk_drew ?_ | refine blk_alloc ?_ _)); refine blk_put (cs := #[.int .i64 ((rd_T73 l0_0 x1).f0.f0), .int .i64 ((rd_T73 l0_0 x1).f0.f1), .int .i64 0]) ?_ 2 _ rfl; (with_reducible repeat (first | refine blk_drewN ?_ _ | refine blk_drew ?_ | refine blk_alloc ?_ _)); refine blk_put (cs := #[.int .i64 ((rd_T73 l0_0 x1).f0.f0), .int .i64 0, .int .i64 0]) ?_ 1 _ rfl; (with_reducible repeat (first | refine blk_drewN ?_ _ | refine blk_drew ?_ | refine blk_alloc ?_ _)); refine blk_put (cs := #[.int .i64 0, .int .i64 0, .int .i64 0]) ?_ 0 _ rfl; (with_reducible repeat (first | refine blk_drewN ?_ _ | refine blk_drew ?_ | refine blk_alloc ?_ _)); exact BK5.out⟩
   have n2_ : Aside0 (Below w.heap.size w (((w15.setCell ⟨gb5, 0, none⟩ (.int .i64 ((rd_T73 l0_0 x1).f0.f0))).setCell ⟨gb5, 1, none⟩ (.int .i64 ((rd_T73 l0_0 x1).f0.f1))).setCell ⟨gb5, 2, none⟩ (.int .i64 ((rd_T73 l0_0 x1).f1)))) := ⟨by repeat (first | (with_reducible first | exact HB.out | apply below_alloc | apply pw_below_drewN | apply below_drew1 | refine below_set ?_ GE1.out | refine below_set ?_ GE5.out) | exact HB.out)⟩
   have n3_ : Aside0 (Below wr.heap.size wr (((w15.setCell ⟨gb5, 0, none⟩ (.int .i64 ((rd_T73 l0_0 x1).f0.f0))).setCell ⟨gb5, 1, none⟩ (.int .i64 ((rd_T73 l0_0 x1).f0.f1))).setCell ⟨gb5, 2, none⟩ (.int .i64 ((rd_T73 l0_0 x1).f1)))) := ⟨by repeat (first | (with_reducible first | exact HB2.out | apply below_alloc | apply pw_below_drewN | apply below_drew1 | refine below_set ?_ GF5.out) | exact HB2.out)⟩
   clear BK1 BK5 HB HB2
   generalize (((w15.setCell ⟨gb5, 0, none⟩ (.int .i64 ((rd_T73 l0_0 x1).f0.f0))).setCell ⟨gb5, 1, none⟩ (.int .i64 ((rd_T73 l0_0 x1).f0.f1))).setCell ⟨gb5, 2, none⟩ (.int .i64 ((rd_T73 l0_0 x1).f1))) = w18 at n0_ n1_ n2_ n3_ ⊢
   have BK1 := n0_
   have BK5 := n1_
   have HB := n2_
   have HB2 := n3_
   clear n0_ n1_ n2_ n3_
   replace BK1 := Aside0.mk (blk_drew BK1.out)
   replace BK5 := Aside0.mk (blk_drew BK5.out)
   replace HB := Aside0.mk (below_drew1 HB.out)
   replace HB2 := Aside0.mk (below_drew1 HB2.out)
   refine start_ (n := 10) (S := fun w' => w'.cell? ⟨gb5, 0, none⟩ = some (.int .i64 ((rd_T73 l0_0 x1).f0.f0)) ∧ w'.cell? ⟨gb5, 1, none⟩ = some (.int .i64 ((rd_T73 l0_0 x1).f0.f1)) ∧ w'.cell? ⟨gb5, 2, none⟩ = some (.int .i64 ((rd_T73 l0_0 x1).f1))) (ds := [9]) tt_ba0 (by kernel_rfl) rfl rfl ⟨(blk_cell BK5.out 0).trans rfl, (blk_cell BK5.out 1).trans rfl, (blk_cell BK5.out 2).trans rfl⟩ (fun hHeld => ?_); refine with_tabW impl_TableText.tab7 impl_TableText.bits7 (fun HT_ HW_ => ?_)
   generalize w18.drew = w19 at BK1 BK5 HB HB2 hHeld ⊢
   refine pz_ 0 16 tt_ba1 HT_ ?_
   refine pz_ 4 20 tt_ba2 HT_ ?_
   refine pt_ 1 17 tt_ba3 HT_ HW_ hHeld ?_
   refine pt_ 5 21 tt_ba4 HT_ HW_ hHeld ?_
   refine one_ (i := 2) (N := some 18) tt_ba5 rfl rfl (one_of HT_.out (by kernel_rfl)) (by decide) (fun K hK => ?_)
   refine gz_ Tryd.func33 #[.agg #[.int .i64 ((rd_T73 l0_0 x1).f0.f0), .int .i64 ((rd_T73 l0_0 x1).f0.f1)]] ?_
   with_reducible refine (impl_Prefix_text.calls ((rd_T73 l0_0 x1).f0.f0) ((rd_T73 l0_0 x1).f0.f1) t1 _ (tb_ hT HB) A9.out).mono ?_
   rintro e w20 ⟨rfl, hb⟩
   refine ⟨_, rfl, ?_⟩
   replace BK1 := Aside0.mk (bb_ BK1 hb)
   replace BK5 := Aside0.mk (bb_ BK5 hb)
   replace HB := Aside0.mk (bt_ HB hb)
   replace HB2 := Aside0.mk (bt_ HB2 hb)
   clear hb
   refine hK.out _ _ ⟨(blk_cell BK5.out 0).trans rfl, (blk_cell BK5.out 1).trans rfl, (blk_cell BK5.out 2).trans rfl⟩ (fun hHeld => ?_)
   clear hK K
   refine nz_ 18 ?_
   refine pz_ 3 19 tt_ba6 HT_ ?_
   refine one_ (i := 6) (N := some 22) tt_ba7 rfl rfl (one_of HT_.out (by kernel_rfl)) (by decide) (fun K hK => ?_)
   refine gz_ Tryd.func46 #[.int .i64 ((rd_T73 l0_0 x1).f1)] ?_
   with_reducible refine (strconv_Itoa_46.calls ((rd_T73 l0_0 x1).f1) t2 _ (tb_ hT HB) A12.out).mono ?_
   rintro e w21 ⟨rfl, hb⟩
   refine ⟨_, rfl, ?_⟩
   replace BK1 := Aside0.mk (bb_ BK1 hb)
   replace BK5 := Aside0.mk (bb_ BK5 hb)
   replace HB := Aside0.mk (bt_ HB hb)
   replace HB2 := Aside0.mk (bt_ HB2 hb)
   clear hb
   refine hK.out _ _ ⟨(blk_cell BK5.out 0).trans rfl, (blk_cell BK5.out 1).trans rfl, (blk_cell BK5.out 2).trans rfl⟩ (fun hHeld => ?_)
   clear hK K
   refine nz_ 22 ?_
   refine pz_ 7 23 tt_ba8 HT_ ?_
   refine pz_ 8 24 tt_ba9 HT_ ?_
   refine last_ (i := 9) (N := some 25) tt_ba10 rfl rfl (one_of HT_.out (by kernel_rfl)) (by decide) (fun K hK => ?_)
   have BLD2 := Aside0.mk (isb_below BLD HB2.out)
   refine gz_ Tryd.func45 #[.pointer (some ⟨gb3, 0, none⟩), .string (((t1 ++ (⟨#[32]⟩ : ByteArray)) ++ t2) ++ (⟨#[10]⟩ : ByteArray))] ?_
   refine (sb_write gb3 gb3 (Lib.strCells acc) (((t1 ++ (⟨#[32]⟩ : ByteArray)) ++ t2) ++ (⟨#[10]⟩ : ByteArray)) _ BLD2.out (by rw [Lib.strCells_length]; exact LEN.out) (isb_le BLD2.out)).mono ?_
   rintro e w22 ⟨rfl, hbl, hb⟩
   refine ⟨_, rfl, ?_⟩
   replace BK1 := Aside0.mk ((hb.block gb1 LT13.out).trans BK1.out)
   replace HB := Aside0.mk (Below.trans HB.out (hb.mono GE3.out))
   replace BLD := Aside0.mk (show Lib.IsBuilder 77 5 gb3 gb3 (Lib.strCells (acc ++ (((t1 ++ (⟨#[32]⟩ : ByteArray)) ++ t2) ++ (⟨#[10]⟩ : ByteArray)))) w22 by rw [strCells_append]; exact Or.inr hbl)
   clear hb hbl BLD2 BK5 HB2
   refine hK.out _ _ ?_
   clear hK K
   refine done_ (done_of HT_.out (by kernel_rfl)) ?_
   try go_wp2
   go_roundg k1
   case measure => have := HK1.out; omega
   case rel => exact ⟨(wrap64 (x1 + 1)), (acc ++ (((t1 ++ (⟨#[32]⟩ : ByteArray)) ++ t2) ++ (⟨#[10]⟩ : ByteArray))), (by first | rfl | (simp; done) | (simp [*]; done)), H', ⟨by have := HK1.out; omega⟩, ⟨by (with_reducible repeat (first | refine blk_drewN ?_ _ | refine blk_drew ?_ | refine blk_alloc ?_ _)); exact BK1.out⟩, ⟨by first | exact BLD.out | exact isb_below BLD (by (with_reducible repeat (first | apply below_alloc | apply pw_below_drewN | apply below_drew1)); exact Below.refl _ _)⟩, ⟨by repeat (first | (with_reducible first | exact HB.out | apply below_alloc | apply pw_below_drewN | apply below_drew1) | exact HB.out)⟩⟩

/-! ### laws_eqPrefix: function 18 -/
def laws_eqPrefix.f (a0_0 : Int) (a0_1 : Int) (a1_0 : Int) (a1_1 : Int) : Option (Bool) := if a0_0 = a1_0 then (if a0_1 = a1_1 then (some true) else (some false)) else (some false)
set_option maxHeartbeats 8000000 in
set_option maxRecDepth 100000 in
theorem laws_eqPrefix.calls (a0_0 : Int) (a0_1 : Int) (a1_0 : Int) (a1_1 : Int) (r : Bool) (w : World) (h : laws_eqPrefix.f a0_0 a0_1 a1_0 a1_1 = some r) :
  Calls Tryd.prog 18 #[.agg #[.int .i64 a0_0, .int .i64 a0_1], .agg #[.int .i64 a1_0, .int .i64 a1_1]] w fun e w' => e = .returned (.bool r) ∧ Below w.heap.size w w' := by
 have hu25 := Tryd.underlying25
 have HB := Aside0.mk (Below.refl w.heap.size w)
 have H : (if a0_0 = a1_0 then (if a0_1 = a1_1 then (some true) else (some false)) else (some false)) = some r := h
 clear h
 by_cases c3 : a0_0 = a1_0
 ·rw [if_pos c3] at H
  have c3b0 : (a0_0 == a1_0) = true := beq_iff_eq.mpr c3
  have c3b1 : (a0_0 != a1_0) = false := bne_eq_false_iff_eq.mpr c3
  clear c3
  by_cases c4 : a0_1 = a1_1
  ·rw [if_pos c4] at H
   have c4b0 : (a0_1 == a1_1) = true := beq_iff_eq.mpr c4
   have c4b1 : (a0_1 != a1_1) = false := bne_eq_false_iff_eq.mpr c4
   clear c4
   obtain rfl := Option.some.inj H
   go_enter Tryd.func18, Tryd.ntmps18
   go_wp2_with (first | ((with_reducible refine gate_dst (N := 2) rfl ?_); refine box_event ?hg (N := 2) ?hd (cs := #[.int .i64 a0_0, .int .i64 a0_1]) (t := 25) ?hr ?_; (case hd => rfl); (case hg => rfl); (case hr => first | (go_simp; done) | (go_simp; rfl)); intro gb197 hg w5 hbox hb; have BK197 := Aside0.mk hbox; have GW197 := ge_ HB hg; have GE197 := ge_ HB hg; replace HB := Aside0.mk (bt_ HB hb); clear hb hbox hg) | ((with_reducible refine gate_dst (N := 3) rfl ?_); refine box_event ?hg (N := 3) ?hd (cs := #[.int .i64 a1_0, .int .i64 a1_1]) (t := 25) ?hr ?_; (case hd => rfl); (case hg => rfl); (case hr => first | (go_simp; done) | (go_simp; rfl)); intro gb198 hg w6 hbox hb; have BK198 := Aside0.mk hbox; have GW198 := ge_ HB hg; have GE198 := ge_ HB hg; have NB197_198 := nl_ BK197 hg; have NB198_197 := ng_ BK197 hg; replace HB := Aside0.mk (bt_ HB hb); replace BK197 := Aside0.mk (bb_ BK197 hb); clear hb hbox hg; have hnb7 := NB197_198.out; have hnc7 := NB198_197.out; have hcz8_0 := cz_ BK197 0 (.int .i64 a0_0); have hcz8_1 := cz_ BK197 1 (.int .i64 a0_1); have hfz8_0 := blk_frozen BK197.out 0; have hfz8_1 := blk_frozen BK197.out 1; have hcz9_0 := cz_ BK198 0 (.int .i64 a1_0); have hcz9_1 := cz_ BK198 1 (.int .i64 a1_1); have hfz9_0 := blk_frozen BK198.out 0; have hfz9_1 := blk_frozen BK198.out 1))
   go_ret
   exact ⟨by first | rfl | (simp [errW_none, errW_some] <;> rfl) | (simp [*, errW_none, errW_some] <;> rfl), by repeat (first | (with_reducible first | exact HB.out | apply below_alloc | apply pw_below_drewN | apply below_drew1 | refine below_set ?_ GE197.out | refine below_set ?_ GE198.out) | exact HB.out)⟩
  ·rw [if_neg c4] at H
   have c4b0 : (a0_1 == a1_1) = false := beq_eq_false_iff_ne.mpr c4
   have c4b1 : (a0_1 != a1_1) = true := bne_iff_ne.mpr c4
   obtain rfl := Option.some.inj H
   go_enter Tryd.func18, Tryd.ntmps18
   go_wp2_with (first | ((with_reducible refine gate_dst (N := 2) rfl ?_); refine box_event ?hg (N := 2) ?hd (cs := #[.int .i64 a0_0, .int .i64 a0_1]) (t := 25) ?hr ?_; (case hd => rfl); (case hg => rfl); (case hr => first | (go_simp; done) | (go_simp; rfl)); intro gb197 hg w10 hbox hb; have BK197 := Aside0.mk hbox; have GW197 := ge_ HB hg; have GE197 := ge_ HB hg; replace HB := Aside0.mk (bt_ HB hb); clear hb hbox hg) | ((with_reducible refine gate_dst (N := 3) rfl ?_); refine box_event ?hg (N := 3) ?hd (cs := #[.int .i64 a1_0, .int .i64 a1_1]) (t := 25) ?hr ?_; (case hd => rfl); (case hg => rfl); (case hr => first | (go_simp; done) | (go_simp; rfl)); intro gb198 hg w11 hbox hb; have BK198 := Aside0.mk hbox; have GW198 := ge_ HB hg; have GE198 := ge_ HB hg; have NB197_198 := nl_ BK197 hg; have NB198_197 := ng_ BK197 hg; replace HB := Aside0.mk (bt_ HB hb); replace BK197 := Aside0.mk (bb_ BK197 hb); clear hb hbox hg; have hnb12 := NB197_198.out; have hnc12 := NB198_197.out; have hcz13_0 := cz_ BK197 0 (.int .i64 a0_0); have hcz13_1 := cz_ BK197 1 (.int .i64 a0_1); have hfz13_0 := blk_frozen BK197.out 0; have hfz13_1 := blk_frozen BK197.out 1; have hcz14_0 := cz_ BK198 0 (.int .i64 a1_0); have hcz14_1 := cz_ BK198 1 (.int .i64 a1_1); have hfz14_0 := blk_frozen BK198.out 0; have hfz14_1 := blk_frozen BK198.out 1))
   go_ret
   exact ⟨by first | rfl | (simp [errW_none, errW_some] <;> rfl) | (simp [*, errW_none, errW_some] <;> rfl), by repeat (first | (with_reducible first | exact HB.out | apply below_alloc | apply pw_below_drewN | apply below_drew1 | refine below_set ?_ GE197.out | refine below_set ?_ GE198.out) | exact HB.out)⟩
 ·rw [if_neg c3] at H
  have c3b0 : (a0_0 == a1_0) = false := beq_eq_false_iff_ne.mpr c3
  have c3b1 : (a0_0 != a1_0) = true := bne_iff_ne.mpr c3
  obtain rfl := Option.some.inj H
  go_enter Tryd.func18, Tryd.ntmps18
  go_wp2_with (first | ((with_reducible refine gate_dst (N := 2) rfl ?_); refine box_event ?hg (N := 2) ?hd (cs := #[.int .i64 a0_0, .int .i64 a0_1]) (t := 25) ?hr ?_; (case hd => rfl); (case hg => rfl); (case hr => first | (go_simp; done) | (go_simp; rfl)); intro gb197 hg w15 hbox hb; have BK197 := Aside0.mk hbox; have GW197 := ge_ HB hg; have GE197 := ge_ HB hg; replace HB := Aside0.mk (bt_ HB hb); clear hb hbox hg) | ((with_reducible refine gate_dst (N := 3) rfl ?_); refine box_event ?hg (N := 3) ?hd (cs := #[.int .i64 a1_0, .int .i64 a1_1]) (t := 25) ?hr ?_; (case hd => rfl); (case hg => rfl); (case hr => first | (go_simp; done) | (go_simp; rfl)); intro gb198 hg w16 hbox hb; have BK198 := Aside0.mk hbox; have GW198 := ge_ HB hg; have GE198 := ge_ HB hg; have NB197_198 := nl_ BK197 hg; have NB198_197 := ng_ BK197 hg; replace HB := Aside0.mk (bt_ HB hb); replace BK197 := Aside0.mk (bb_ BK197 hb); clear hb hbox hg; have hnb17 := NB197_198.out; have hnc17 := NB198_197.out; have hcz18_0 := cz_ BK197 0 (.int .i64 a0_0); have hcz18_1 := cz_ BK197 1 (.int .i64 a0_1); have hfz18_0 := blk_frozen BK197.out 0; have hfz18_1 := blk_frozen BK197.out 1; have hcz19_0 := cz_ BK198 0 (.int .i64 a1_0); have hcz19_1 := cz_ BK198 1 (.int .i64 a1_1); have hfz19_0 := blk_frozen BK198.out 0; have hfz19_1 := blk_frozen BK198.out 1))
  go_ret
  exact ⟨by first | rfl | (simp [errW_none, errW_some] <;> rfl) | (simp [*, errW_none, errW_some] <;> rfl), by repeat (first | (with_reducible first | exact HB.out | apply below_alloc | apply pw_below_drewN | apply below_drew1 | refine below_set ?_ GE197.out | refine below_set ?_ GE198.out) | exact HB.out)⟩

/-! ### laws_eqRoute: function 62 -/
def laws_eqRoute.f (a0_0 : Int) (a0_1 : Int) (a0_2 : Int) (a1_0 : Int) (a1_1 : Int) (a1_2 : Int) : Option (Bool) := (laws_eqPrefix.f a0_0 a0_1 a1_0 a1_1).bind fun t201 => (if t201 = true then (if a0_2 = a1_2 then (some true) else (some false)) else (some false))
set_option maxHeartbeats 8000000 in
set_option maxRecDepth 100000 in
theorem laws_eqRoute.calls (a0_0 : Int) (a0_1 : Int) (a0_2 : Int) (a1_0 : Int) (a1_1 : Int) (a1_2 : Int) (r : Bool) (w : World) (h : laws_eqRoute.f a0_0 a0_1 a0_2 a1_0 a1_1 a1_2 = some r) :
  Calls Tryd.prog 62 #[.agg #[.int .i64 a0_0, .int .i64 a0_1, .int .i64 a0_2], .agg #[.int .i64 a1_0, .int .i64 a1_1, .int .i64 a1_2]] w fun e w' => e = .returned (.bool r) ∧ Below w.heap.size w w' := by
 have hu73 := Tryd.underlying73
 have hu25 := Tryd.underlying25
 have HB := Aside0.mk (Below.refl w.heap.size w)
 have H : ((laws_eqPrefix.f a0_0 a0_1 a1_0 a1_1).bind fun t201 => (if t201 = true then (if a0_2 = a1_2 then (some true) else (some false)) else (some false))) = some r := h
 clear h
 replace H := Option.bind_eq_some_iff.mp H
 obtain ⟨t201, A30, H⟩ := H
 have A3 := Aside0.mk A30
 clear A30
 by_cases c4 : t201 = true
 ·subst c4
  rw [if_pos rfl] at H
  by_cases c5 : a0_2 = a1_2
  ·rw [if_pos c5] at H
   have c5b0 : (a0_2 == a1_2) = true := beq_iff_eq.mpr c5
   have c5b1 : (a0_2 != a1_2) = false := bne_eq_false_iff_eq.mpr c5
   clear c5
   obtain rfl := Option.some.inj H
   go_enter Tryd.func62, Tryd.ntmps62
   go_wp2_with (first | ((with_reducible refine gate_dst (N := 2) rfl ?_); refine box_event ?hg (N := 2) ?hd (cs := #[.int .i64 a0_0, .int .i64 a0_1, .int .i64 a0_2]) (t := 73) ?hr ?_; (case hd => rfl); (case hg => rfl); (case hr => first | (go_simp; done) | (go_simp; rfl)); intro gb199 hg w6 hbox hb; have BK199 := Aside0.mk hbox; have GW199 := ge_ HB hg; have GE199 := ge_ HB hg; replace HB := Aside0.mk (bt_ HB hb); clear hb hbox hg) | ((with_reducible refine gate_dst (N := 3) rfl ?_); refine box_event ?hg (N := 3) ?hd (cs := #[.int .i64 a1_0, .int .i64 a1_1, .int .i64 a1_2]) (t := 73) ?hr ?_; (case hd => rfl); (case hg => rfl); (case hr => first | (go_simp; done) | (go_simp; rfl)); intro gb200 hg w7 hbox hb; have BK200 := Aside0.mk hbox; have GW200 := ge_ HB hg; have GE200 := ge_ HB hg; have NB199_200 := nl_ BK199 hg; have NB200_199 := ng_ BK199 hg; replace HB := Aside0.mk (bt_ HB hb); replace BK199 := Aside0.mk (bb_ BK199 hb); clear hb hbox hg; have hnb8 := NB199_200.out; have hnc8 := NB200_199.out; have hcz9_0 := cz_ BK199 0 (.int .i64 a0_0); have hcz9_1 := cz_ BK199 1 (.int .i64 a0_1); have hcz9_2 := cz_ BK199 2 (.int .i64 a0_2); have hfz9_0 := blk_frozen BK199.out 0; have hfz9_1 := blk_frozen BK199.out 1; have hfz9_2 := blk_frozen BK199.out 2; have hcz10_0 := cz_ BK200 0 (.int .i64 a1_0); have hcz10_1 := cz_ BK200 1 (.int .i64 a1_1); have hcz10_2 := cz_ BK200 2 (.int .i64 a1_2); have hfz10_0 := blk_frozen BK200.out 0; have hfz10_1 := blk_frozen BK200.out 1; have hfz10_2 := blk_frozen BK200.out 2) | ((with_reducible refine gate_callee (f := 18) rfl ?_); refine gl_ (some 9) Tryd.func18 #[.agg #[.int .i64 a0_0, .int .i64 a0_1], .agg #[.int .i64 a1_0, .int .i64 a1_1]] ?_; (with_reducible refine (laws_eqPrefix.calls a0_0 a0_1 a1_0 a1_1 true _ A3.out).mono ?_); rintro e w11 ⟨rfl, hb⟩; refine ⟨_, rfl, ?_⟩; replace BK199 := Aside0.mk (bb_ BK199 hb); replace BK200 := Aside0.mk (bb_ BK200 hb); replace HB := Aside0.mk (bt_ HB hb); (try clear hb); (try clear hb2); (try clear hk); (try clear hi); have hcz12_0 := cz_ BK199 0 (.int .i64 a0_0); have hcz12_1 := cz_ BK199 1 (.int .i64 a0_1); have hcz12_2 := cz_ BK199 2 (.int .i64 a0_2); have hfz12_0 := blk_frozen BK199.out 0; have hfz12_1 := blk_frozen BK199.out 1; have hfz12_2 := blk_frozen BK199.out 2; have hcz13_0 := cz_ BK200 0 (.int .i64 a1_0); have hcz13_1 := cz_ BK200 1 (.int .i64 a1_1); have hcz13_2 := cz_ BK200 2 (.int .i64 a1_2); have hfz13_0 := blk_frozen BK200.out 0; have hfz13_1 := blk_frozen BK200.out 1; have hfz13_2 := blk_frozen BK200.out 2))
   go_ret
   exact ⟨by first | rfl | (simp [errW_none, errW_some] <;> rfl) | (simp [*, errW_none, errW_some] <;> rfl), by repeat (first | (with_reducible first | exact HB.out | apply below_alloc | apply pw_below_drewN | apply below_drew1 | refine below_set ?_ GE199.out | refine below_set ?_ GE200.out) | exact HB.out)⟩
  ·rw [if_neg c5] at H
   have c5b0 : (a0_2 == a1_2) = false := beq_eq_false_iff_ne.mpr c5
   have c5b1 : (a0_2 != a1_2) = true := bne_iff_ne.mpr c5
   obtain rfl := Option.some.inj H
   go_enter Tryd.func62, Tryd.ntmps62
   go_wp2_with (first | ((with_reducible refine gate_dst (N := 2) rfl ?_); refine box_event ?hg (N := 2) ?hd (cs := #[.int .i64 a0_0, .int .i64 a0_1, .int .i64 a0_2]) (t := 73) ?hr ?_; (case hd => rfl); (case hg => rfl); (case hr => first | (go_simp; done) | (go_simp; rfl)); intro gb199 hg w14 hbox hb; have BK199 := Aside0.mk hbox; have GW199 := ge_ HB hg; have GE199 := ge_ HB hg; replace HB := Aside0.mk (bt_ HB hb); clear hb hbox hg) | ((with_reducible refine gate_dst (N := 3) rfl ?_); refine box_event ?hg (N := 3) ?hd (cs := #[.int .i64 a1_0, .int .i64 a1_1, .int .i64 a1_2]) (t := 73) ?hr ?_; (case hd => rfl); (case hg => rfl); (case hr => first | (go_simp; done) | (go_simp; rfl)); intro gb200 hg w15 hbox hb; have BK200 := Aside0.mk hbox; have GW200 := ge_ HB hg; have GE200 := ge_ HB hg; have NB199_200 := nl_ BK199 hg; have NB200_199 := ng_ BK199 hg; replace HB := Aside0.mk (bt_ HB hb); replace BK199 := Aside0.mk (bb_ BK199 hb); clear hb hbox hg; have hnb16 := NB199_200.out; have hnc16 := NB200_199.out; have hcz17_0 := cz_ BK199 0 (.int .i64 a0_0); have hcz17_1 := cz_ BK199 1 (.int .i64 a0_1); have hcz17_2 := cz_ BK199 2 (.int .i64 a0_2); have hfz17_0 := blk_frozen BK199.out 0; have hfz17_1 := blk_frozen BK199.out 1; have hfz17_2 := blk_frozen BK199.out 2; have hcz18_0 := cz_ BK200 0 (.int .i64 a1_0); have hcz18_1 := cz_ BK200 1 (.int .i64 a1_1); have hcz18_2 := cz_ BK200 2 (.int .i64 a1_2); have hfz18_0 := blk_frozen BK200.out 0; have hfz18_1 := blk_frozen BK200.out 1; have hfz18_2 := blk_frozen BK200.out 2) | ((with_reducible refine gate_callee (f := 18) rfl ?_); refine gl_ (some 9) Tryd.func18 #[.agg #[.int .i64 a0_0, .int .i64 a0_1], .agg #[.int .i64 a1_0, .int .i64 a1_1]] ?_; (with_reducible refine (laws_eqPrefix.calls a0_0 a0_1 a1_0 a1_1 true _ A3.out).mono ?_); rintro e w19 ⟨rfl, hb⟩; refine ⟨_, rfl, ?_⟩; replace BK199 := Aside0.mk (bb_ BK199 hb); replace BK200 := Aside0.mk (bb_ BK200 hb); replace HB := Aside0.mk (bt_ HB hb); (try clear hb); (try clear hb2); (try clear hk); (try clear hi); have hcz20_0 := cz_ BK199 0 (.int .i64 a0_0); have hcz20_1 := cz_ BK199 1 (.int .i64 a0_1); have hcz20_2 := cz_ BK199 2 (.int .i64 a0_2); have hfz20_0 := blk_frozen BK199.out 0; have hfz20_1 := blk_frozen BK199.out 1; have hfz20_2 := blk_frozen BK199.out 2; have hcz21_0 := cz_ BK200 0 (.int .i64 a1_0); have hcz21_1 := cz_ BK200 1 (.int .i64 a1_1); have hcz21_2 := cz_ BK200 2 (.int .i64 a1_2); have hfz21_0 := blk_frozen BK200.out 0; have hfz21_1 := blk_frozen BK200.out 1; have hfz21_2 := blk_frozen BK200.out 2))
   go_ret
   exact ⟨by first | rfl | (simp [errW_none, errW_some] <;> rfl) | (simp [*, errW_none, errW_some] <;> rfl), by repeat (first | (with_reducible first | exact HB.out | apply below_alloc | apply pw_below_drewN | apply below_drew1 | refine below_set ?_ GE199.out | refine below_set ?_ GE200.out) | exact HB.out)⟩
 ·replace c4 := Bool.eq_false_iff.mpr c4
  subst c4
  rw [if_neg (show ¬ (false = true) by decide)] at H
  obtain rfl := Option.some.inj H
  go_enter Tryd.func62, Tryd.ntmps62
  go_wp2_with (first | ((with_reducible refine gate_dst (N := 2) rfl ?_); refine box_event ?hg (N := 2) ?hd (cs := #[.int .i64 a0_0, .int .i64 a0_1, .int .i64 a0_2]) (t := 73) ?hr ?_; (case hd => rfl); (case hg => rfl); (case hr => first | (go_simp; done) | (go_simp; rfl)); intro gb199 hg w22 hbox hb; have BK199 := Aside0.mk hbox; have GW199 := ge_ HB hg; have GE199 := ge_ HB hg; replace HB := Aside0.mk (bt_ HB hb); clear hb hbox hg) | ((with_reducible refine gate_dst (N := 3) rfl ?_); refine box_event ?hg (N := 3) ?hd (cs := #[.int .i64 a1_0, .int .i64 a1_1, .int .i64 a1_2]) (t := 73) ?hr ?_; (case hd => rfl); (case hg => rfl); (case hr => first | (go_simp; done) | (go_simp; rfl)); intro gb200 hg w23 hbox hb; have BK200 := Aside0.mk hbox; have GW200 := ge_ HB hg; have GE200 := ge_ HB hg; have NB199_200 := nl_ BK199 hg; have NB200_199 := ng_ BK199 hg; replace HB := Aside0.mk (bt_ HB hb); replace BK199 := Aside0.mk (bb_ BK199 hb); clear hb hbox hg; have hnb24 := NB199_200.out; have hnc24 := NB200_199.out; have hcz25_0 := cz_ BK199 0 (.int .i64 a0_0); have hcz25_1 := cz_ BK199 1 (.int .i64 a0_1); have hcz25_2 := cz_ BK199 2 (.int .i64 a0_2); have hfz25_0 := blk_frozen BK199.out 0; have hfz25_1 := blk_frozen BK199.out 1; have hfz25_2 := blk_frozen BK199.out 2; have hcz26_0 := cz_ BK200 0 (.int .i64 a1_0); have hcz26_1 := cz_ BK200 1 (.int .i64 a1_1); have hcz26_2 := cz_ BK200 2 (.int .i64 a1_2); have hfz26_0 := blk_frozen BK200.out 0; have hfz26_1 := blk_frozen BK200.out 1; have hfz26_2 := blk_frozen BK200.out 2) | ((with_reducible refine gate_callee (f := 18) rfl ?_); refine gl_ (some 9) Tryd.func18 #[.agg #[.int .i64 a0_0, .int .i64 a0_1], .agg #[.int .i64 a1_0, .int .i64 a1_1]] ?_; (with_reducible refine (laws_eqPrefix.calls a0_0 a0_1 a1_0 a1_1 false _ A3.out).mono ?_); rintro e w27 ⟨rfl, hb⟩; refine ⟨_, rfl, ?_⟩; replace BK199 := Aside0.mk (bb_ BK199 hb); replace BK200 := Aside0.mk (bb_ BK200 hb); replace HB := Aside0.mk (bt_ HB hb); (try clear hb); (try clear hb2); (try clear hk); (try clear hi)))
  go_ret
  exact ⟨by first | rfl | (simp [errW_none, errW_some] <;> rfl) | (simp [*, errW_none, errW_some] <;> rfl), by repeat (first | (with_reducible first | exact HB.out | apply below_alloc | apply pw_below_drewN | apply below_drew1 | refine below_set ?_ GE199.out | refine below_set ?_ GE200.out) | exact HB.out)⟩

/-! ### laws_eqRouteS: function 48 -/
def laws_eqRouteS.l0 : Nat → List (S73) → List (S73) → Int → Option (Bool)
 | 0, _, _, _ => none
 | k + 1, x0, x1, x5 => if x5 < (x0.length : Int) then (if 0 ≤ x5 then (if x5 < (x1.length : Int) then ((laws_eqRoute.f ((rd_T73 x0 x5).f0.f0) ((rd_T73 x0 x5).f0.f1) ((rd_T73 x0 x5).f1) ((rd_T73 x1 x5).f0.f0) ((rd_T73 x1 x5).f0.f1) ((rd_T73 x1 x5).f1)).bind fun t204 => (if t204 = true then (laws_eqRouteS.l0 k x0 x1 (wrap64 (x5 + 1))) else (some false))) else (none)) else (none)) else (some true)
def laws_eqRouteS.f (k : Nat) (l0 : List (S73)) (l1 : List (S73)) : Option (Bool) := if (l0.length : Int) = (l1.length : Int) then (laws_eqRouteS.l0 k l0 l1 0) else (some false)
theorem laws_eqRouteS.mono_l : ∀ k, (∀ y0 y1 y2, LeO (laws_eqRouteS.l0 k y0 y1 y2) (laws_eqRouteS.l0 (k + 1) y0 y1 y2))
 | 0 => fun _ _ _ r h => by simp [laws_eqRouteS.l0] at h
 | k + 1 => by
  have ih0 := laws_eqRouteS.mono_l k
  ·intro y0 y1 y2
   unfold laws_eqRouteS.l0
   repeat' first
   | (with_reducible exact ih0 _ _ _)
   | (with_reducible exact LeO.refl _)
   | (with_reducible exact LeO.none _)
   | (with_reducible refine LeO.ite ?_ ?_)
   | (with_reducible refine LeO.bind ?_ (fun _ => ?_))
   | exact ih0 _ _ _
   | exact LeO.none _
   | refine LeO.ite ?_ ?_
   | refine LeO.bind ?_ (fun _ => ?_)
theorem laws_eqRouteS.mono : ∀ a0 a1 k, LeO (laws_eqRouteS.f k a0 a1) (laws_eqRouteS.f (k + 1) a0 a1) := by
 intro a0 a1 k
 have ih0 := laws_eqRouteS.mono_l k
 unfold laws_eqRouteS.f
 repeat' first
   | (with_reducible exact ih0 _ _ _)
   | (with_reducible exact LeO.refl _)
   | (with_reducible exact LeO.none _)
   | (with_reducible refine LeO.ite ?_ ?_)
   | (with_reducible refine LeO.bind ?_ (fun _ => ?_))
   | exact ih0 _ _ _
   | exact LeO.none _
   | refine LeO.ite ?_ ?_
   | refine LeO.bind ?_ (fun _ => ?_)
def laws_eqRouteS.T6 : Bool × List (List Nat × List Nat) := (true, [([], []), ([], []), ([0, 1], [0, 1]), ([2], [2]), ([], []), ([], []), ([4, 5], [4, 5]), ([6], [6]), ([3, 7], [3, 7]), ([8], [8])])
def laws_eqRouteS.B6 : List Nat := [0, 0, 3, 7, 0, 0, 48, 112, 255, 511]
theorem laws_eqRouteS.tab6 : rtab .any (opsOf Tryd.f48 6) = laws_eqRouteS.T6 := by kernel_rfl
theorem laws_eqRouteS.bits6 : waitsOk laws_eqRouteS.T6.2 laws_eqRouteS.B6 = true := by kernel_rfl
set_option maxHeartbeats 8000000 in
set_option maxRecDepth 100000 in
theorem laws_eqRouteS.calls (k : Nat) (A0 : Option Addr) (c0 : Nat) (l0 : List (S73)) (A1 : Option Addr) (c1 : Nat) (l1 : List (S73)) (r : Bool) (w : World) (hr0 : Kd.C k73 w A0 l0.length l0) (hc0 : l0.length ≤ c0) (hr1 : Kd.C k73 w A1 l1.length l1) (hc1 : l1.length ≤ c1) (h : laws_eqRouteS.f k l0 l1 = some r) :
  Calls Tryd.prog 48 #[.slice A0 l0.length c0, .slice A1 l1.length c1] w fun e w' => e = .returned (.bool r) ∧ Below w.heap.size w w' := by
 have hu73 := Tryd.underlying73
 have HR0 := Aside0.mk hr0
 have HC0 := Aside0.mk hc0
 clear hr0 hc0
 have HR1 := Aside0.mk hr1
 have HC1 := Aside0.mk hc1
 clear hr1 hc1
 have HB := Aside0.mk (Below.refl w.heap.size w)
 have H : (if (l0.length : Int) = (l1.length : Int) then (laws_eqRouteS.l0 k l0 l1 0) else (some false)) = some r := h
 clear h
 by_cases c3 : (l0.length : Int) = (l1.length : Int)
 ·rw [if_pos c3] at H
  have c3b0 : ((l0.length : Int) == (l1.length : Int)) = true := beq_iff_eq.mpr c3
  have c3b1 : ((l0.length : Int) != (l1.length : Int)) = false := bne_eq_false_iff_eq.mpr c3
  have c3b2 : (l0.length == l1.length) = true := by first | simpa using c3 | (simp at c3 ⊢; omega)
  clear c3
  have H' := Aside0.mk H
  clear H
  go_enter Tryd.func48, Tryd.ntmps48
  go_wp2
  go_loopg [5] k (fun kq v5 w' => ∃ (x5_1 : Int), v5 = .int .i64 x5_1 ∧ Aside0 (laws_eqRouteS.l0 kq l0 l1 x5_1 = some r) ∧ Aside0 (kq ≤ k) ∧ Aside0 (Below w.heap.size w w'))
  case atStart => exact ⟨(0), (by first | rfl | (simp; done) | (simp [*]; done)), H', ⟨Nat.le_refl _⟩, ⟨by repeat (first | (with_reducible first | exact HB.out | apply below_alloc | apply pw_below_drewN | apply below_drew1) | exact HB.out)⟩⟩
  case round =>
   clear H'
   try clear c1
   try clear p2
   try clear c3
   try clear c3b0
   try clear c3b1
   try clear c3b2
   obtain ⟨x5_1, rfl, HA, HK1, HB⟩ := hrel
   cases gk with
   | zero => exact absurd HA.out (by simp [laws_eqRouteS.l0])
   | succ k1 =>
    have H := HA.out
    clear HA
    simp only [laws_eqRouteS.l0] at H
    by_cases c4 : x5_1 < (l0.length : Int)
    ·rw [if_pos c4] at H
     have c4b0 : decide (x5_1 < (l0.length : Int)) = true := decide_eq_true c4
     clear c4
     by_cases c5 : 0 ≤ x5_1
     ·rw [if_pos c5] at H
      have c5b0 : decide (0 ≤ x5_1) = true := decide_eq_true c5
      clear c5
      by_cases c6 : x5_1 < (l1.length : Int)
      ·rw [if_pos c6] at H
       have c6b0 : decide (x5_1 < (l1.length : Int)) = true := decide_eq_true c6
       clear c6
       replace H := Option.bind_eq_some_iff.mp H
       obtain ⟨t204, A70, H⟩ := H
       have A7 := Aside0.mk A70
       clear A70
       by_cases c8 : t204 = true
       ·subst c8
        rw [if_pos rfl] at H
        have H' := Aside0.mk H
        clear H
        try go_wp2
        replace HB := Aside0.mk (below_drew1 HB.out)
        have p202 : 0 ≤ (x5_1 : Int) := of_decide_eq_true (by first | (with_reducible assumption) | assumption)
        have q202 : x5_1 < (l0.length : Int) := of_decide_eq_true (by first | (with_reducible assumption) | assumption)
        obtain ⟨ad202, e202, hx202_0, hx202_1, hx202_2⟩ := at_T73 HR0.out x5_1 p202 q202
        have hw202_2 := hx202_2
        have hw202_1 := hx202_1
        have hw202_0 := hx202_0
        cases e202
        replace hx202_0 := (HB.out.cell (World.block_lt_of_cell? w _ hx202_0)).trans hx202_0
        replace hx202_1 := (HB.out.cell (World.block_lt_of_cell? w _ hx202_1)).trans hx202_1
        replace hx202_2 := (HB.out.cell (World.block_lt_of_cell? w _ hx202_2)).trans hx202_2
        replace p202 := eq_true p202
        replace q202 := eq_true q202
        have p203 : 0 ≤ (x5_1 : Int) := of_decide_eq_true (by first | (with_reducible assumption) | assumption)
        have q203 : x5_1 < (l1.length : Int) := of_decide_eq_true (by first | (with_reducible assumption) | assumption)
        obtain ⟨ad203, e203, hx203_0, hx203_1, hx203_2⟩ := at_T73 HR1.out x5_1 p203 q203
        have hw203_2 := hx203_2
        have hw203_1 := hx203_1
        have hw203_0 := hx203_0
        cases e203
        replace hx203_0 := (HB.out.cell (World.block_lt_of_cell? w _ hx203_0)).trans hx203_0
        replace hx203_1 := (HB.out.cell (World.block_lt_of_cell? w _ hx203_1)).trans hx203_1
        replace hx203_2 := (HB.out.cell (World.block_lt_of_cell? w _ hx203_2)).trans hx203_2
        replace p203 := eq_true p203
        replace q203 := eq_true q203
        refine start_ (n := 10) (S := fun w' => w'.cell? (ad202.add ((x5_1).toNat * 3)) = some (.int .i64 ((rd_T73 l0 x5_1).f0.f0)) ∧ w'.cell? ⟨(ad202.add ((x5_1).toNat * 3)).block, (ad202.add ((x5_1).toNat * 3)).off + 1, none⟩ = some (.int .i64 ((rd_T73 l0 x5_1).f0.f1)) ∧ w'.cell? ⟨(ad202.add ((x5_1).toNat * 3)).block, (ad202.add ((x5_1).toNat * 3)).off + 2, none⟩ = some (.int .i64 ((rd_T73 l0 x5_1).f1)) ∧ w'.cell? (ad203.add ((x5_1).toNat * 3)) = some (.int .i64 ((rd_T73 l1 x5_1).f0.f0)) ∧ w'.cell? ⟨(ad203.add ((x5_1).toNat * 3)).block, (ad203.add ((x5_1).toNat * 3)).off + 1, none⟩ = some (.int .i64 ((rd_T73 l1 x5_1).f0.f1)) ∧ w'.cell? ⟨(ad203.add ((x5_1).toNat * 3)).block, (ad203.add ((x5_1).toNat * 3)).off + 2, none⟩ = some (.int .i64 ((rd_T73 l1 x5_1).f1))) (ds := []) ba7_0 (by kernel_rfl) rfl rfl ⟨(hc_ HB hw202_0), (hc_ HB hw202_1), (hc_ HB hw202_2), (hc_ HB hw203_0), (hc_ HB hw203_1), (hc_ HB hw203_2)⟩ (fun hHeld => ?_); refine with_tabW laws_eqRouteS.tab6 laws_eqRouteS.bits6 (fun HT_ HW_ => ?_)
        generalize wr.drew = w9 at HB hx202_0 hx202_1 hx202_2 hx203_0 hx203_1 hx203_2 hHeld ⊢
        refine pz_ 0 17 ba7_1 HT_ ?_
        refine pz_ 1 18 ba7_11 HT_ ?_
        refine pz_ 2 19 ba7_12 HT_ ?_
        refine pz_ 4 21 ba7_13 HT_ ?_
        refine pz_ 5 22 ba7_5 HT_ ?_
        refine pz_ 6 23 ba7_14 HT_ ?_
        refine pt_ 3 20 ba7_7 HT_ HW_ hHeld ?_
        refine pt_ 7 24 ba7_8 HT_ HW_ hHeld ?_
        refine one_ (i := 8) (N := some 25) ba7_9 rfl rfl (one_of HT_.out (by kernel_rfl)) (by decide) (fun K hK => ?_)
        refine gz_ Tryd.func62 #[.agg #[.int .i64 ((rd_T73 l0 x5_1).f0.f0), .int .i64 ((rd_T73 l0 x5_1).f0.f1), .int .i64 ((rd_T73 l0 x5_1).f1)], .agg #[.int .i64 ((rd_T73 l1 x5_1).f0.f0), .int .i64 ((rd_T73 l1 x5_1).f0.f1), .int .i64 ((rd_T73 l1 x5_1).f1)]] ?_
        with_reducible refine (laws_eqRoute.calls ((rd_T73 l0 x5_1).f0.f0) ((rd_T73 l0 x5_1).f0.f1) ((rd_T73 l0 x5_1).f1) ((rd_T73 l1 x5_1).f0.f0) ((rd_T73 l1 x5_1).f0.f1) ((rd_T73 l1 x5_1).f1) true _ A7.out).mono ?_
        rintro e w10 ⟨rfl, hb⟩
        refine ⟨_, rfl, ?_⟩
        replace HB := Aside0.mk (bt_ HB hb)
        (try clear hb)
        (try clear hb2)
        (try clear hk)
        (try clear hi)
        refine hK.out _ _ ⟨(hc_ HB hw202_0), (hc_ HB hw202_1), (hc_ HB hw202_2), (hc_ HB hw203_0), (hc_ HB hw203_1), (hc_ HB hw203_2)⟩ (fun hHeld => ?_)
        clear hK K
        refine nz_ 25 ?_
        refine pz_ 9 26 ba7_10 HT_ ?_
        refine done_ (done_of HT_.out (by kernel_rfl)) ?_
        try go_wp2
        go_roundg k1
        case measure => have := HK1.out; omega
        case rel => exact ⟨(wrap64 (x5_1 + 1)), (by first | rfl | (simp; done) | (simp [*]; done)), H', ⟨by have := HK1.out; omega⟩, ⟨by repeat (first | (with_reducible first | exact HB.out | apply below_alloc | apply pw_below_drewN | apply below_drew1) | exact HB.out)⟩⟩
       ·replace c8 := Bool.eq_false_iff.mpr c8
        subst c8
        rw [if_neg (show ¬ (false = true) by decide)] at H
        obtain rfl := Option.some.inj H
        try go_wp2
        replace HB := Aside0.mk (below_drew1 HB.out)
        have p202 : 0 ≤ (x5_1 : Int) := of_decide_eq_true (by first | (with_reducible assumption) | assumption)
        have q202 : x5_1 < (l0.length : Int) := of_decide_eq_true (by first | (with_reducible assumption) | assumption)
        obtain ⟨ad202, e202, hx202_0, hx202_1, hx202_2⟩ := at_T73 HR0.out x5_1 p202 q202
        have hw202_2 := hx202_2
        have hw202_1 := hx202_1
        have hw202_0 := hx202_0
        cases e202
        replace hx202_0 := (HB.out.cell (World.block_lt_of_cell? w _ hx202_0)).trans hx202_0
        replace hx202_1 := (HB.out.cell (World.block_lt_of_cell? w _ hx202_1)).trans hx202_1
        replace hx202_2 := (HB.out.cell (World.block_lt_of_cell? w _ hx202_2)).trans hx202_2
        replace p202 := eq_true p202
        replace q202 := eq_true q202
        have p203 : 0 ≤ (x5_1 : Int) := of_decide_eq_true (by first | (with_reducible assumption) | assumption)
        have q203 : x5_1 < (l1.length : Int) := of_decide_eq_true (by first | (with_reducible assumption) | assumption)
        obtain ⟨ad203, e203, hx203_0, hx203_1, hx203_2⟩ := at_T73 HR1.out x5_1 p203 q203
        have hw203_2 := hx203_2
        have hw203_1 := hx203_1
        have hw203_0 := hx203_0
        cases e203
        replace hx203_0 := (HB.out.cell (World.block_lt_of_cell? w _ hx203_0)).trans hx203_0
        replace hx203_1 := (HB.out.cell (World.block_lt_of_cell? w _ hx203_1)).trans hx203_1
        replace hx203_2 := (HB.out.cell (World.block_lt_of_cell? w _ hx203_2)).trans hx203_2
        replace p203 := eq_true p203
        replace q203 := eq_true q203
        refine start_ (n := 10) (S := fun w' => w'.cell? (ad202.add ((x5_1).toNat * 3)) = some (.int .i64 ((rd_T73 l0 x5_1).f0.f0)) ∧ w'.cell? ⟨(ad202.add ((x5_1).toNat * 3)).block, (ad202.add ((x5_1).toNat * 3)).off + 1, none⟩ = some (.int .i64 ((rd_T73 l0 x5_1).f0.f1)) ∧ w'.cell? ⟨(ad202.add ((x5_1).toNat * 3)).block, (ad202.add ((x5_1).toNat * 3)).off + 2, none⟩ = some (.int .i64 ((rd_T73 l0 x5_1).f1)) ∧ w'.cell? (ad203.add ((x5_1).toNat * 3)) = some (.int .i64 ((rd_T73 l1 x5_1).f0.f0)) ∧ w'.cell? ⟨(ad203.add ((x5_1).toNat * 3)).block, (ad203.add ((x5_1).toNat * 3)).off + 1, none⟩ = some (.int .i64 ((rd_T73 l1 x5_1).f0.f1)) ∧ w'.cell? ⟨(ad203.add ((x5_1).toNat * 3)).block, (ad203.add ((x5_1).toNat * 3)).off + 2, none⟩ = some (.int .i64 ((rd_T73 l1 x5_1).f1))) (ds := []) ba7_0 (by kernel_rfl) rfl rfl ⟨(hc_ HB hw202_0), (hc_ HB hw202_1), (hc_ HB hw202_2), (hc_ HB hw203_0), (hc_ HB hw203_1), (hc_ HB hw203_2)⟩ (fun hHeld => ?_); refine with_tabW laws_eqRouteS.tab6 laws_eqRouteS.bits6 (fun HT_ HW_ => ?_)
        generalize wr.drew = w11 at HB hx202_0 hx202_1 hx202_2 hx203_0 hx203_1 hx203_2 hHeld ⊢
        refine pz_ 0 17 ba7_1 HT_ ?_
        refine pz_ 1 18 ba7_11 HT_ ?_
        refine pz_ 2 19 ba7_12 HT_ ?_
        refine pz_ 4 21 ba7_13 HT_ ?_
        refine pz_ 5 22 ba7_5 HT_ ?_
        refine pz_ 6 23 ba7_14 HT_ ?_
        refine pt_ 3 20 ba7_7 HT_ HW_ hHeld ?_
        refine pt_ 7 24 ba7_8 HT_ HW_ hHeld ?_
        refine one_ (i := 8) (N := some 25) ba7_9 rfl rfl (one_of HT_.out (by kernel_rfl)) (by decide) (fun K hK => ?_)
        refine gz_ Tryd.func62 #[.agg #[.int .i64 ((rd_T73 l0 x5_1).f0.f0), .int .i64 ((rd_T73 l0 x5_1).f0.f1), .int .i64 ((rd_T73 l0 x5_1).f1)], .agg #[.int .i64 ((rd_T73 l1 x5_1).f0.f0), .int .i64 ((rd_T73 l1 x5_1).f0.f1), .int .i64 ((rd_T73 l1 x5_1).f1)]] ?_
        with_reducible refine (laws_eqRoute.calls ((rd_T73 l0 x5_1).f0.f0) ((rd_T73 l0 x5_1).f0.f1) ((rd_T73 l0 x5_1).f1) ((rd_T73 l1 x5_1).f0.f0) ((rd_T73 l1 x5_1).f0.f1) ((rd_T73 l1 x5_1).f1) false _ A7.out).mono ?_
        rintro e w12 ⟨rfl, hb⟩
        refine ⟨_, rfl, ?_⟩
        replace HB := Aside0.mk (bt_ HB hb)
        (try clear hb)
        (try clear hb2)
        (try clear hk)
        (try clear hi)
        refine hK.out _ _ ⟨(hc_ HB hw202_0), (hc_ HB hw202_1), (hc_ HB hw202_2), (hc_ HB hw203_0), (hc_ HB hw203_1), (hc_ HB hw203_2)⟩ (fun hHeld => ?_)
        clear hK K
        refine nz_ 25 ?_
        refine pz_ 9 26 ba7_10 HT_ ?_
        refine done_ (done_of HT_.out (by kernel_rfl)) ?_
        try go_wp2
        go_ret
        exact ⟨by first | rfl | (simp [errW_none, errW_some] <;> rfl) | (simp [*, errW_none, errW_some] <;> rfl), by repeat (first | (with_reducible first | exact HB.out | apply below_alloc | apply pw_below_drewN | apply below_drew1) | exact HB.out)⟩
      ·rw [if_neg c6] at H
       exact absurd H (by simp)
     ·rw [if_neg c5] at H
      exact absurd H (by simp)
    ·rw [if_neg c4] at H
     have c4b0 : decide (x5_1 < (l0.length : Int)) = false := decide_eq_false c4
     clear c4
     obtain rfl := Option.some.inj H
     go_wp2
     go_ret
     exact ⟨by first | rfl | (simp [errW_none, errW_some] <;> rfl) | (simp [*, errW_none, errW_some] <;> rfl), by repeat (first | (with_reducible first | exact HB.out | apply below_alloc | apply pw_below_drewN | apply below_drew1) | exact HB.out)⟩
 ·rw [if_neg c3] at H
  have c3b0 : ((l0.length : Int) == (l1.length : Int)) = false := beq_eq_false_iff_ne.mpr c3
  have c3b1 : ((l0.length : Int) != (l1.length : Int)) = true := bne_iff_ne.mpr c3
  have c3b2 : (l0.length == l1.length) = false := by first | simpa using c3 | (simp at c3 ⊢; omega)
  obtain rfl := Option.some.inj H
  go_enter Tryd.func48, Tryd.ntmps48
  go_wp2
  go_ret
  exact ⟨by first | rfl | (simp [errW_none, errW_some] <;> rfl) | (simp [*, errW_none, errW_some] <;> rfl), by repeat (first | (with_reducible first | exact HB.out | apply below_alloc | apply pw_below_drewN | apply below_drew1) | exact HB.out)⟩

/-! ### laws_eqTable: function 25 -/
def laws_eqTable.f (k : Nat) (l0_0 : List (S73)) (l1_0 : List (S73)) : Option (Bool) := (laws_eqRouteS.f k l0_0 l1_0).bind fun t207 => (if t207 = true then (some true) else (some false))
theorem laws_eqTable.mono : ∀ a0 a1 k, LeO (laws_eqTable.f k a0 a1) (laws_eqTable.f (k + 1) a0 a1) := by
 intro a0 a1 k
 unfold laws_eqTable.f
 repeat' first
   | (with_reducible exact laws_eqRouteS.mono _ _ _)
   | (with_reducible exact LeO.refl _)
   | (with_reducible exact LeO.none _)
   | (with_reducible refine LeO.ite ?_ ?_)
   | (with_reducible refine LeO.bind ?_ (fun _ => ?_))
   | exact laws_eqRouteS.mono _ _ _
   | exact LeO.none _
   | refine LeO.ite ?_ ?_
   | refine LeO.bind ?_ (fun _ => ?_)
set_option maxHeartbeats 8000000 in
set_option maxRecDepth 100000 in
theorem laws_eqTable.calls (k : Nat) (A0_0 : Option Addr) (c0_0 : Nat) (l0_0 : List (S73)) (A1_0 : Option Addr) (c1_0 : Nat) (l1_0 : List (S73)) (r : Bool) (w : World) (hr0_0 : Kd.C k73 w A0_0 l0_0.length l0_0) (hc0_0 : l0_0.length ≤ c0_0) (hr1_0 : Kd.C k73 w A1_0 l1_0.length l1_0) (hc1_0 : l1_0.length ≤ c1_0) (h : laws_eqTable.f k l0_0 l1_0 = some r) :
  Calls Tryd.prog 25 #[.agg #[.slice A0_0 l0_0.length c0_0], .agg #[.slice A1_0 l1_0.length c1_0]] w fun e w' => e = .returned (.bool r) ∧ Below w.heap.size w w' := by
 have hu48 := Tryd.underlying48
 have HR0_0 := Aside0.mk hr0_0
 have HC0_0 := Aside0.mk hc0_0
 clear hr0_0 hc0_0
 have HR1_0 := Aside0.mk hr1_0
 have HC1_0 := Aside0.mk hc1_0
 clear hr1_0 hc1_0
 have HB := Aside0.mk (Below.refl w.heap.size w)
 have H : ((laws_eqRouteS.f k l0_0 l1_0).bind fun t207 => (if t207 = true then (some true) else (some false))) = some r := h
 clear h
 replace H := Option.bind_eq_some_iff.mp H
 obtain ⟨t207, A30, H⟩ := H
 have A3 := Aside0.mk A30
 clear A30
 by_cases c4 : t207 = true
 ·subst c4
  rw [if_pos rfl] at H
  obtain rfl := Option.some.inj H
  go_enter Tryd.func25, Tryd.ntmps25
  go_wp2_with (first | ((with_reducible refine gate_dst (N := 2) rfl ?_); refine box_event ?hg (N := 2) ?hd (cs := #[.slice A0_0 l0_0.length c0_0]) (t := 48) ?hr ?_; (case hd => rfl); (case hg => rfl); (case hr => first | (go_simp; done) | (go_simp; rfl)); intro gb205 hg w5 hbox hb; have BK205 := Aside0.mk hbox; have GW205 := ge_ HB hg; have GE205 := ge_ HB hg; replace HB := Aside0.mk (bt_ HB hb); clear hb hbox hg) | ((with_reducible refine gate_dst (N := 3) rfl ?_); refine box_event ?hg (N := 3) ?hd (cs := #[.slice A1_0 l1_0.length c1_0]) (t := 48) ?hr ?_; (case hd => rfl); (case hg => rfl); (case hr => first | (go_simp; done) | (go_simp; rfl)); intro gb206 hg w6 hbox hb; have BK206 := Aside0.mk hbox; have GW206 := ge_ HB hg; have GE206 := ge_ HB hg; have NB205_206 := nl_ BK205 hg; have NB206_205 := ng_ BK205 hg; replace HB := Aside0.mk (bt_ HB hb); replace BK205 := Aside0.mk (bb_ BK205 hb); clear hb hbox hg; have hnb7 := NB205_206.out; have hnc7 := NB206_205.out; have hcz8_0 := cz_ BK205 0 (.slice A0_0 l0_0.length c0_0); have hfz8_0 := blk_frozen BK205.out 0; have hcz9_0 := cz_ BK206 0 (.slice A1_0 l1_0.length c1_0); have hfz9_0 := blk_frozen BK206.out 0) | ((with_reducible refine gate_callee (f := 48) rfl ?_); refine gl_ (some 9) Tryd.func48 #[.slice A0_0 l0_0.length c0_0, .slice A1_0 l1_0.length c1_0] ?_; (with_reducible refine (laws_eqRouteS.calls k _ _ l0_0 _ _ l1_0 true _ ?side1 ?side2 ?side3 ?side4 A3.out).mono ?_); (case side1 => exact cb_ HR0_0 HB); (case side2 => exact HC0_0.out); (case side3 => exact cb_ HR1_0 HB); (case side4 => exact HC1_0.out); rintro e w10 ⟨rfl, hb⟩; refine ⟨_, rfl, ?_⟩; replace BK205 := Aside0.mk (bb_ BK205 hb); replace BK206 := Aside0.mk (bb_ BK206 hb); replace HB := Aside0.mk (bt_ HB hb); (try clear hb); (try clear hb2); (try clear hk); (try clear hi)))
  go_ret
  exact ⟨by first | rfl | (simp [errW_none, errW_some] <;> rfl) | (simp [*, errW_none, errW_some] <;> rfl), by repeat (first | (with_reducible first | exact HB.out | apply below_alloc | apply pw_below_drewN | apply below_drew1 | refine below_set ?_ GE205.out | refine below_set ?_ GE206.out) | exact HB.out)⟩
 ·replace c4 := Bool.eq_false_iff.mpr c4
  subst c4
  rw [if_neg (show ¬ (false = true) by decide)] at H
  obtain rfl := Option.some.inj H
  go_enter Tryd.func25, Tryd.ntmps25
  go_wp2_with (first | ((with_reducible refine gate_dst (N := 2) rfl ?_); refine box_event ?hg (N := 2) ?hd (cs := #[.slice A0_0 l0_0.length c0_0]) (t := 48) ?hr ?_; (case hd => rfl); (case hg => rfl); (case hr => first | (go_simp; done) | (go_simp; rfl)); intro gb205 hg w11 hbox hb; have BK205 := Aside0.mk hbox; have GW205 := ge_ HB hg; have GE205 := ge_ HB hg; replace HB := Aside0.mk (bt_ HB hb); clear hb hbox hg) | ((with_reducible refine gate_dst (N := 3) rfl ?_); refine box_event ?hg (N := 3) ?hd (cs := #[.slice A1_0 l1_0.length c1_0]) (t := 48) ?hr ?_; (case hd => rfl); (case hg => rfl); (case hr => first | (go_simp; done) | (go_simp; rfl)); intro gb206 hg w12 hbox hb; have BK206 := Aside0.mk hbox; have GW206 := ge_ HB hg; have GE206 := ge_ HB hg; have NB205_206 := nl_ BK205 hg; have NB206_205 := ng_ BK205 hg; replace HB := Aside0.mk (bt_ HB hb); replace BK205 := Aside0.mk (bb_ BK205 hb); clear hb hbox hg; have hnb13 := NB205_206.out; have hnc13 := NB206_205.out; have hcz14_0 := cz_ BK205 0 (.slice A0_0 l0_0.length c0_0); have hfz14_0 := blk_frozen BK205.out 0; have hcz15_0 := cz_ BK206 0 (.slice A1_0 l1_0.length c1_0); have hfz15_0 := blk_frozen BK206.out 0) | ((with_reducible refine gate_callee (f := 48) rfl ?_); refine gl_ (some 9) Tryd.func48 #[.slice A0_0 l0_0.length c0_0, .slice A1_0 l1_0.length c1_0] ?_; (with_reducible refine (laws_eqRouteS.calls k _ _ l0_0 _ _ l1_0 false _ ?side1 ?side2 ?side3 ?side4 A3.out).mono ?_); (case side1 => exact cb_ HR0_0 HB); (case side2 => exact HC0_0.out); (case side3 => exact cb_ HR1_0 HB); (case side4 => exact HC1_0.out); rintro e w16 ⟨rfl, hb⟩; refine ⟨_, rfl, ?_⟩; replace BK205 := Aside0.mk (bb_ BK205 hb); replace BK206 := Aside0.mk (bb_ BK206 hb); replace HB := Aside0.mk (bt_ HB hb); (try clear hb); (try clear hb2); (try clear hk); (try clear hi)))
  go_ret
  exact ⟨by first | rfl | (simp [errW_none, errW_some] <;> rfl) | (simp [*, errW_none, errW_some] <;> rfl), by repeat (first | (with_reducible first | exact HB.out | apply below_alloc | apply pw_below_drewN | apply below_drew1 | refine below_set ?_ GE205.out | refine below_set ?_ GE206.out) | exact HB.out)⟩

end Go.Proofs.YtmbaemcnjdgemaaDoor.QFnExactTableText
