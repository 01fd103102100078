/- Contracts of functions that the law reaches: what each call returns and what it leaves in memory. Made by this session over the print of the kit. -/
import Derived.Test.YteopiggdpadolaaQFnExactCountWaysx0
namespace Go.Proofs.Yteopiggdpadolaa.QFnExactCountWays
open Go.RowKit Go.Proofs.YteopiggdpadolaaX.PrintWords Go.Proofs.YteopiggdpadolaaX.PrintLast Go.Proofs.YteopiggdpadolaaX.PrintMore
attribute [local go_sem] max2_int min2_int max_two min_two max_three min_three max_four min_four   -- for this text's walks alone
set_option linter.unusedVariables false
set_option linter.unusedSimpArgs false
def ba8_0 : Array Bool := #[false, false, false, false, false, false, false, false, false, false, false, false, false, false, false, false, false, false, false]
def ba8_1 : Array Bool := #[true, false, false, false, false, false, false, false, false, false, false, false, false, false, false, false, false, false, false]
def ba8_2 : Array Bool := #[true, true, false, false, false, false, false, false, false, false, false, false, false, false, false, false, false, false, false]
def ba8_3 : Array Bool := #[true, true, false, true, false, false, false, false, false, false, false, false, false, false, false, false, false, false, false]
def ba8_4 : Array Bool := #[true, true, false, true, true, false, false, false, false, false, false, false, false, false, false, false, false, false, false]
def ba8_5 : Array Bool := #[true, true, false, true, true, false, false, false, true, false, false, false, false, false, false, false, false, false, false]
def ba8_6 : Array Bool := #[true, true, false, true, true, false, false, false, true, true, false, false, false, false, false, false, false, false, false]
def ba8_7 : Array Bool := #[true, true, false, true, true, false, false, false, true, true, false, false, false, true, false, false, false, false, false]
def ba8_8 : Array Bool := #[true, true, true, true, true, false, false, false, true, true, false, false, false, true, false, false, false, false, false]
def ba8_9 : Array Bool := #[true, true, true, true, true, true, false, false, true, true, false, false, false, true, false, false, false, false, false]
def ba8_10 : Array Bool := #[true, true, true, true, true, true, true, false, true, true, false, false, false, true, false, false, false, false, false]
def ba8_11 : Array Bool := #[true, true, true, true, true, true, true, true, true, true, false, false, false, true, false, false, false, false, false]
def ba8_12 : Array Bool := #[true, true, true, true, true, true, true, true, true, true, true, false, false, true, false, false, false, false, false]
def ba8_13 : Array Bool := #[true, true, true, true, true, true, true, true, true, true, true, true, false, true, false, false, false, false, false]
def ba8_14 : Array Bool := #[true, true, true, true, true, true, true, true, true, true, true, true, true, true, false, false, false, false, false]
def ba8_15 : Array Bool := #[true, true, true, true, true, true, true, true, true, true, true, true, true, true, true, false, false, false, false]
def ba8_16 : Array Bool := #[true, true, true, true, true, true, true, true, true, true, true, true, true, true, true, true, false, false, false]
def ba8_17 : Array Bool := #[true, true, true, true, true, true, true, true, true, true, true, true, true, true, true, true, true, false, false]
def ba8_18 : Array Bool := #[true, true, true, true, true, true, true, true, true, true, true, true, true, true, true, true, true, true, false]
def ba8_19 : Array Bool := #[true, true, true, true, true, true, true, true, true, true, true, true, true, true, true, true, true, true, true]

/-! ### bits_Mul32: function 103 -/
def bits_Mul32.f (a0 : Int) (a1 : Int) : Option (Int × Int) := some (((IntKind.u64.wrap ((IntKind.u64.wrap (a0)) * (IntKind.u64.wrap (a1)))) / 4294967296) % 4294967296, (IntKind.u64.wrap ((IntKind.u64.wrap (a0)) * (IntKind.u64.wrap (a1)))) % 4294967296)
set_option maxHeartbeats 8000000 in
set_option maxRecDepth 100000 in
theorem bits_Mul32.calls (a0 : Int) (a1 : Int) (r1 : Int) (r2 : Int) (w : World) (h : bits_Mul32.f a0 a1 = some (r1, r2)) :
  Calls Try.prog 103 #[.int .u32 a0, .int .u32 a1] w fun e w' => e = .returned (.tuple #[.int .u32 r1, .int .u32 r2]) ∧ Drawn0 w w' := by
 have H : (some (((IntKind.u64.wrap ((IntKind.u64.wrap (a0)) * (IntKind.u64.wrap (a1)))) / 4294967296) % 4294967296, (IntKind.u64.wrap ((IntKind.u64.wrap (a0)) * (IntKind.u64.wrap (a1)))) % 4294967296)) = some (r1, r2) := h
 clear h
 simp only [Option.some.injEq, Prod.mk.injEq] at H
 obtain ⟨rfl, rfl⟩ := H
 go_enter Try.func103, Try.ntmps103
 go_wp2
 go_ret2
 exact ⟨by first | rfl | (simp; done) | (simp [*]; done), by repeat (first | exact Drawn0.refl _ | apply Drawn0.step)⟩

/-! ### bits_Mul64: function 104 -/
def bits_Mul64.f (a0 : Int) (a1 : Int) : Option (Int × Int) := some (IntKind.u64.wrap ((IntKind.u64.wrap ((IntKind.u64.wrap ((a0 / 4294967296) * (a1 / 4294967296))) + ((IntKind.u64.wrap ((IntKind.u64.wrap ((a0 / 4294967296) * (Go.bits .and .u64 a1 4294967295))) + ((IntKind.u64.wrap ((Go.bits .and .u64 a0 4294967295) * (Go.bits .and .u64 a1 4294967295))) / 4294967296))) / 4294967296))) + ((IntKind.u64.wrap ((Go.bits .and .u64 (IntKind.u64.wrap ((IntKind.u64.wrap ((a0 / 4294967296) * (Go.bits .and .u64 a1 4294967295))) + ((IntKind.u64.wrap ((Go.bits .and .u64 a0 4294967295) * (Go.bits .and .u64 a1 4294967295))) / 4294967296))) 4294967295) + (IntKind.u64.wrap ((Go.bits .and .u64 a0 4294967295) * (a1 / 4294967296))))) / 4294967296)), IntKind.u64.wrap (a0 * a1))
set_option maxHeartbeats 8000000 in
set_option maxRecDepth 100000 in
theorem bits_Mul64.calls (a0 : Int) (a1 : Int) (r1 : Int) (r2 : Int) (w : World) (h : bits_Mul64.f a0 a1 = some (r1, r2)) :
  Calls Try.prog 104 #[.int .u64 a0, .int .u64 a1] w fun e w' => e = .returned (.tuple #[.int .u64 r1, .int .u64 r2]) ∧ Drawn0 w w' := by
 have H : (some (IntKind.u64.wrap ((IntKind.u64.wrap ((IntKind.u64.wrap ((a0 / 4294967296) * (a1 / 4294967296))) + ((IntKind.u64.wrap ((IntKind.u64.wrap ((a0 / 4294967296) * (Go.bits .and .u64 a1 4294967295))) + ((IntKind.u64.wrap ((Go.bits .and .u64 a0 4294967295) * (Go.bits .and .u64 a1 4294967295))) / 4294967296))) / 4294967296))) + ((IntKind.u64.wrap ((Go.bits .and .u64 (IntKind.u64.wrap ((IntKind.u64.wrap ((a0 / 4294967296) * (Go.bits .and .u64 a1 4294967295))) + ((IntKind.u64.wrap ((Go.bits .and .u64 a0 4294967295) * (Go.bits .and .u64 a1 4294967295))) / 4294967296))) 4294967295) + (IntKind.u64.wrap ((Go.bits .and .u64 a0 4294967295) * (a1 / 4294967296))))) / 4294967296)), IntKind.u64.wrap (a0 * a1))) = some (r1, r2) := h
 clear h
 simp only [Option.some.injEq, Prod.mk.injEq] at H
 obtain ⟨rfl, rfl⟩ := H
 go_enter Try.func104, Try.ntmps104
 go_wp2
 go_ret2
 exact ⟨by first | rfl | (simp; done) | (simp [*]; done), by repeat (first | exact Drawn0.refl _ | apply Drawn0.step)⟩

/-! ### bits_Mul: function 92 -/
def bits_Mul.f (a0 : Int) (a1 : Int) : Option (Int × Int) := (bits_Mul64.f a0 a1).bind fun bt227 => (some (bt227.1, bt227.2))
set_option maxHeartbeats 8000000 in
set_option maxRecDepth 100000 in
theorem bits_Mul.calls (a0 : Int) (a1 : Int) (r1 : Int) (r2 : Int) (w : World) (h : bits_Mul.f a0 a1 = some (r1, r2)) :
  Calls Try.prog 92 #[.int .u64 a0, .int .u64 a1] w fun e w' => e = .returned (.tuple #[.int .u64 r1, .int .u64 r2]) ∧ Drawn0 w w' := by
 have H : ((bits_Mul64.f a0 a1).bind fun bt227 => (some (bt227.1, bt227.2))) = some (r1, r2) := h
 clear h
 replace H := Option.bind_eq_some_iff.mp H
 obtain ⟨⟨t227, t228⟩, A30, H⟩ := H
 have A3 := Aside0.mk A30
 clear A30
 simp only [Option.some.injEq, Prod.mk.injEq] at H
 obtain ⟨rfl, rfl⟩ := H
 go_enter Try.func92, Try.ntmps92
 go_wp2_with (first | ((with_reducible refine gate_callee (f := 104) rfl ?_); refine gl_ (some 25) Try.func104 #[.int .u64 a0, .int .u64 a1] ?_; (with_reducible refine (bits_Mul64.calls a0 a1 t227 t228 _ A3.out).mono ?_); rintro e w' ⟨rfl, ⟨nd, rfl⟩⟩; refine ⟨_, rfl, ?_⟩))
 go_ret2
 exact ⟨by first | rfl | (simp; done) | (simp [*]; done), by repeat (first | exact Drawn0.refl _ | apply Drawn0.step)⟩

/-! ### slices_Repeat_int_int: function 85 -/
def slices_Repeat_int_int.f (l0 : List Int) (a1 : Int) : Option (List Int) := if l0.length = 1 then (if 0 ≤ a1 then (if a1 ≤ 65536 then some (List.replicate a1.toNat (rd l0 0)) else none) else none) else none
theorem mul_one (n : Nat) (h : n ≤ 65536) : bits_Mul.f 1 n = some (0, (n : Int)) := by
 have e1 := and_small 1 (by omega)
 have e2 := and_small n h
 have e3 := and_small 0 (by omega)
 have u : ∀ m : Int, 0 ≤ m → m ≤ 4294967296 → IntKind.u64.wrap m = m := fun m h0 h1 => by simp [IntKind.wrap, IntKind.bits, IntKind.signed]; omega
 unfold bits_Mul.f bits_Mul64.f
 have c1 : (1 : Int) / 4294967296 = 0 := by decide
 have c2 : (n : Int) / 4294967296 = 0 := by omega
 have e1' : Go.bits .and .u64 1 4294967295 = 1 := e1
 have e3' : Go.bits .and .u64 0 4294967295 = 0 := e3
 simp only [Option.bind_some, c1, c2, e1', e2, Int.zero_mul, Int.mul_zero, Int.one_mul, u 0 (by omega) (by omega), u n (by omega) (by omega), Int.zero_add, Int.add_zero, Int.zero_ediv, e3']
set_option maxHeartbeats 1000000 in
set_option maxRecDepth 100000 in
theorem slices_Repeat_int_int.calls (A0 : Option Addr) (c0 : Nat) (l0 : List Int) (a1 : Int) (r : List Int) (w : World) (hr0 : Kd.C (Kd.int .i64) w A0 l0.length l0) (hc0 : l0.length ≤ c0) (h : slices_Repeat_int_int.f l0 a1 = some r) :
  Calls Try.prog 85 #[.slice A0 l0.length c0, .int .i64 a1] w fun e w' => ∃ v0_ : Value, e = .returned (v0_) ∧ Kd.R (Kd.int .i64) 3 w' w.heap.size (fun _ => True) v0_ r ∧ Below w.heap.size w w' := by
 unfold slices_Repeat_int_int.f at h
 by_cases h1 : l0.length = 1
 ·rw [if_pos h1] at h
  by_cases h2 : 0 ≤ a1
  ·rw [if_pos h2] at h
   by_cases h3 : a1 ≤ 65536
   ·rw [if_pos h3] at h
    obtain rfl := Option.some.inj h
    obtain ⟨N, rfl⟩ := Int.eq_ofNat_of_zero_le h2
    have hN : N ≤ 65536 := by omega
    obtain ⟨ad, c, rfl, _, hK, hcell⟩ := Kd.C_get hr0 0 0 (by omega) (by omega)
    obtain ⟨x, rfl⟩ : ∃ x, l0 = [x] := by
     match l0, h1 with
     | [x], _ => exact ⟨x, rfl⟩
    have hcx : w.cell? ad = some (.int .i64 x) := by
     have hk : c = [.int .i64 x] := hK
     subst hk
     have := hcell 0 _ rfl
     simpa [Addr.add] using this
    have hmul := Aside0.mk (mul_one N hN)
    clear h h1 h2 h3 hcell hK hr0 hc0
    go_enter Try.func85, Try.ntmps85
    have hinfo : (Try.prog.info? 3).map (fun i => (i.zero, i.size, i.bytes)) = some (some (.int .i64 0), 1, 8) := by kernel_rfl
    obtain ⟨i0, hi, hz0, hz1, hz2⟩ := info_parts hinfo
    have HI := Aside0.mk hi
    have HZ0 := Aside0.mk hz0
    have HZ1 := Aside0.mk hz1
    have hz2b := Aside0.mk hz2
    clear hi hz0 hz1 hz2 hinfo
    have b2 : i0.bytes * N ≤ 281474976710656 := by rw [hz2b.out]; omega
    have b3 : N ≤ maxLen := by unfold maxLen; omega
    go_wp2_with (first | (go_at_call 92; refine (bits_Mul.calls 1 N 0 N _ hmul.out).mono ?_; rintro e w' ⟨rfl, ⟨nd, rfl⟩⟩) | ((with_reducible refine gate_dst (N := 30) rfl ?_); refine wpList_make_full _ rfl _ _ 25 rfl w.heap.size 3 i0 (.int .i64 0) 1 Try.underlying25 HI.out HZ0.out HZ1.out .i64 .i64 N N N rfl rfl rfl rfl b2 b3 (Nat.le_refl _) ?_; intro w1 hown hgr; have HBW := Aside0.mk ((pw_below_drewN (Below.refl w.heap.size w) _).grown hgr (Nat.le_refl _) nofun); have HB1 := Aside0.mk (own_block hown); clear hown hgr) | ((with_reducible refine gate_dst (N := 33) rfl ?_); refine wpList_copy_splice rfl _ _ 25 25 rfl 3 Try.underlying25 (by kernel_rfl) (some ⟨w.heap.size, 0, none⟩) (some ad) N N 1 c0 rfl rfl w.heap.size 0 _ 3 HB1.out (List.replicate (min 1 N) (.int .i64 x)) ?hn ?hpos ?hfit ?h1 w.heap.size w ?hb (Nat.le_refl _) ?_; (case hn => simp); (case hpos => exact fun _ => ⟨rfl, ad, rfl, one_src ((HBW.out.cell (World.block_lt_of_cell? w _ hcx)).trans hcx)⟩); (case hfit => exact made_fit _ N); (case h1 => exact one_all _ _); (case hb => exact HBW.out); intro w2 hh2 hb2; clear HB1 HBW))
    have hF := Aside0.mk (filled_splice (x := x) (m := 0) (L := (madeCells (Value.int .i64 0).cells (N * 1)).toList) ⟨by simp [size_madeCells], fun j hj => by omega⟩ (Nat.zero_le N) (min 1 N) (by omega))
    generalize splice (madeCells (Value.int .i64 0).cells (N * 1)).toList 0 (List.replicate (min 1 N) (.int .i64 x)) = L0 at hh2 hF
    go_loopw [8] (fun v8 wr => ∃ (m : Nat) (L : List Value), v8 = .int .i64 m ∧ m ≤ N ∧ (0 < N → 0 < m) ∧ Aside0 (Filled N m x L) ∧ Aside0 (wr.heap[w.heap.size]? = some (.cells L.toArray 3 (0, 0))) ∧ Aside0 (Below w.heap.size w wr)) (fun v8 _ => N - (intOf v8).toNat)
    case atStart => exact ⟨min 1 N, L0, by go_num, by omega, by omega, ⟨by have := hF.out; rw [Nat.zero_add] at this; exact this⟩, ⟨hh2⟩, ⟨hb2⟩⟩
    case round =>
     obtain ⟨m, L, rfl, hm, hpos, hF, HL, HB⟩ := hrel
     by_cases hlt : m < N
     ·have hlen := hF.out.1
      have hsl1 : m + min m (N - m) ≤ L.length := by omega
      have hne : Aside0 (¬ N = m) := ⟨by omega⟩
      have hcs := copy_src (c := min m (N - m)) HL.out hF.out (Nat.min_le_left _ _)
      go_wp2_with fail
      go_region_law (refine step_copy_splice rfl (.tmp 41) (.tmp 44) 25 25 rfl 3 Try.underlying25 (by kernel_rfl) (if N = m then some ⟨w.heap.size, 0, none⟩ else some ⟨w.heap.size, m, none⟩) (some ⟨w.heap.size, 0, none⟩) (N - m) (N - m) m N (by simp [Act.eval, Act.put]) (by simp [Act.eval, Act.put]) w.heap.size m L 3 HL.out (List.replicate (min m (N - m)) (.int .i64 x)) ?hn ?hpos ?hfit (one_all _ _) w.heap.size w HB.out.drew (Nat.le_refl _) ?_; (case hn => simp); (case hpos => exact fun _ => ⟨if_neg hne.out, _, rfl, hcs⟩); (case hfit => simpa using hsl1); intro w4 hh4 hb4)
      have hws : IntKind.i64.wrap ((m : Int) + ((min m (N - m) : Nat) : Int)) = ((m + min m (N - m) : Nat) : Int) := by rw [IntKind.wrap_i64]; omega
      simp only [hws]
      go_wp2_with fail
      go_roundw
      case rel => exact ⟨m + min m (N - m), by omega, by omega, by omega, splice L m (List.replicate (min m (N - m)) (.int .i64 x)), ⟨filled_splice hF.out hm (min m (N - m)) (by omega)⟩, ⟨hh4⟩, ⟨trivial⟩⟩
      case measure => have := hpos; simp [intOf]; omega
     ·obtain rfl : m = N := by omega
      go_wp2_with fail
      go_ret
      exact ⟨_, rfl, by
       have e1 := filled_all hF.out
       have e2 := HL.out
       rw [e1] at e2
       have := R_of_block (base := w.heap.size) (Nat.le_refl _) (by simpa using b3) e2
       simpa [rd] using this, HB.out⟩
   ·rw [if_neg h3] at h; cases h
  ·rw [if_neg h2] at h; cases h
 ·rw [if_neg h1] at h; cases h

/-! ### impl_Graph_distances: function 63 -/
mutual
def impl_Graph_distances.l0 : Nat → List Int → Int → Int → Int → List (S67) → Option (List Int)
 | 0, _, _, _, _, _ => none
 | k + 1, x5, x16, x17, x230000, x230001 => if x17 < x16 then (impl_Graph_distances.l1 k x5 x16 x17 x230001 (x230001.length : Int) 0 x230000 x230001) else (some x5)
def impl_Graph_distances.l1 : Nat → List Int → Int → Int → List (S67) → Int → Int → Int → List (S67) → Option (List Int)
 | 0, _, _, _, _, _, _, _, _ => none
 | k + 1, x5, x16, x17, x20, x21, x22, x230000, x230001 => if x22 < x21 then (if 0 ≤ x22 then (if x22 < (x20.length : Int) then (if 0 ≤ ((rd_T67 x20 x22).f0) then (if ((rd_T67 x20 x22).f0) < (x5.length : Int) then (if (rd x5 ((rd_T67 x20 x22).f0)) < 1000000 then (if 0 ≤ ((rd_T67 x20 x22).f1) then (if ((rd_T67 x20 x22).f1) < (x5.length : Int) then (impl_Graph_distances.l1 k (x5.set (((rd_T67 x20 x22).f1) : Int).toNat (mn (rd x5 ((rd_T67 x20 x22).f1)) (wrap64 ((rd x5 ((rd_T67 x20 x22).f0)) + ((rd_T67 x20 x22).f2))))) x16 x17 x20 x21 (wrap64 (x22 + 1)) x230000 x230001) else (none)) else (none)) else (impl_Graph_distances.l1 k x5 x16 x17 x20 x21 (wrap64 (x22 + 1)) x230000 x230001)) else (none)) else (none)) else (none)) else (none)) else (impl_Graph_distances.l0 k x5 x16 (wrap64 (x17 + 1)) x230000 x230001)
end
def impl_Graph_distances.f (k : Nat) (a0_0 : Int) (l0_1 : List (S67)) (a1 : Int) : Option (List Int) := (slices_Repeat_int_int.f (([1000000] : List Int)) a0_0).bind fun t233 => (if 0 ≤ a1 then (if a1 < (t233.length : Int) then (impl_Graph_distances.l0 k (t233.set (a1 : Int).toNat 0) a0_0 0 a0_0 l0_1) else (none)) else (none))
theorem impl_Graph_distances.mono_l : ∀ k, (∀ y0 y1 y2 y3 y4, LeO (impl_Graph_distances.l0 k y0 y1 y2 y3 y4) (impl_Graph_distances.l0 (k + 1) y0 y1 y2 y3 y4)) ∧ (∀ y0 y1 y2 y3 y4 y5 y6 y7, LeO (impl_Graph_distances.l1 k y0 y1 y2 y3 y4 y5 y6 y7) (impl_Graph_distances.l1 (k + 1) y0 y1 y2 y3 y4 y5 y6 y7))
 | 0 => ⟨fun _ _ _ _ _ r h => by simp [impl_Graph_distances.l0] at h, fun _ _ _ _ _ _ _ _ r h => by simp [impl_Graph_distances.l1] at h⟩
 | k + 1 => by
  obtain ⟨ih0, ih1⟩ := impl_Graph_distances.mono_l k
  refine ⟨?_, ?_⟩
  ·intro y0 y1 y2 y3 y4
   unfold impl_Graph_distances.l0
   repeat' first
   | (with_reducible exact ih0 _ _ _ _ _)
   | (with_reducible exact ih1 _ _ _ _ _ _ _ _)
   | (with_reducible exact LeO.refl _)
   | (with_reducible exact LeO.none _)
   | (with_reducible refine LeO.ite ?_ ?_)
   | (with_reducible refine LeO.bind ?_ (fun _ => ?_))
   | exact ih0 _ _ _ _ _
   | exact ih1 _ _ _ _ _ _ _ _
   | exact LeO.none _
   | refine LeO.ite ?_ ?_
   | refine LeO.bind ?_ (fun _ => ?_)
  ·intro y0 y1 y2 y3 y4 y5 y6 y7
   unfold impl_Graph_distances.l1
   repeat' first
   | (with_reducible exact ih0 _ _ _ _ _)
   | (with_reducible exact ih1 _ _ _ _ _ _ _ _)
   | (with_reducible exact LeO.refl _)
   | (with_reducible exact LeO.none _)
   | (with_reducible refine LeO.ite ?_ ?_)
   | (with_reducible refine LeO.bind ?_ (fun _ => ?_))
   | exact ih0 _ _ _ _ _
   | exact ih1 _ _ _ _ _ _ _ _
   | exact LeO.none _
   | refine LeO.ite ?_ ?_
   | refine LeO.bind ?_ (fun _ => ?_)
theorem impl_Graph_distances.mono : ∀ a0 a1 a2 k, LeO (impl_Graph_distances.f k a0 a1 a2) (impl_Graph_distances.f (k + 1) a0 a1 a2) := by
 intro a0 a1 a2 k
 obtain ⟨ih0, ih1⟩ := impl_Graph_distances.mono_l k
 unfold impl_Graph_distances.f
 repeat' first
   | (with_reducible exact ih0 _ _ _ _ _)
   | (with_reducible exact ih1 _ _ _ _ _ _ _ _)
   | (with_reducible exact LeO.refl _)
   | (with_reducible exact LeO.none _)
   | (with_reducible refine LeO.ite ?_ ?_)
   | (with_reducible refine LeO.bind ?_ (fun _ => ?_))
   | exact ih0 _ _ _ _ _
   | exact ih1 _ _ _ _ _ _ _ _
   | exact LeO.none _
   | refine LeO.ite ?_ ?_
   | refine LeO.bind ?_ (fun _ => ?_)
def impl_Graph_distances.T9 : Bool × List (List Nat × List Nat) := (true, [([], []), ([], []), ([1], [1]), ([], []), ([], []), ([4], [4]), ([3, 5], [3, 5]), ([6], [6]), ([], []), ([], []), ([9], [9]), ([8, 10], [8, 10]), ([11], [11]), ([], []), ([13], [13]), ([12, 14], [12, 14]), ([7, 15], [7, 15]), ([0, 2, 0, 1, 2, 3, 4, 5, 6, 7, 8, 9, 10, 11, 12, 13, 14, 15, 16], [0, 2]), ([17, 16, 0, 1, 2, 3, 4, 5, 6, 7, 8, 9, 10, 11, 12, 13, 14, 15, 16], [16, 17])])
def impl_Graph_distances.B9 : List Nat := [0, 0, 2, 0, 0, 16, 56, 120, 0, 0, 512, 1792, 3840, 0, 8192, 32512, 65528, 131071, 262143]
theorem impl_Graph_distances.tab9 : rtab .any (opsOf Try.f63 9) = impl_Graph_distances.T9 := by kernel_rfl
theorem impl_Graph_distances.bits9 : waitsOk impl_Graph_distances.T9.2 impl_Graph_distances.B9 = true := by kernel_rfl
set_option maxHeartbeats 8000000 in
set_option maxRecDepth 100000 in
theorem impl_Graph_distances.calls (k : Nat) (a0_0 : Int) (A0_1 : Option Addr) (c0_1 : Nat) (l0_1 : List (S67)) (a1 : Int) (r : List Int) (w : World) (hr0_1 : Kd.C k67 w A0_1 l0_1.length l0_1) (hc0_1 : l0_1.length ≤ c0_1) (h : impl_Graph_distances.f k a0_0 l0_1 a1 = some r) :
  Calls Try.prog 63 #[.agg #[.int .i64 a0_0, .slice A0_1 l0_1.length c0_1], .int .i64 a1] w fun e w' => ∃ v0_ : Value, e = .returned (v0_) ∧ Kd.R (Kd.int .i64) 3 w' w.heap.size (fun _ => True) v0_ r ∧ Below w.heap.size w w' := by
 have hu30 := Try.underlying30
 have hu67 := Try.underlying67
 have HR0_1 := Aside0.mk hr0_1
 have HC0_1 := Aside0.mk hc0_1
 clear hr0_1 hc0_1
 have HB := Aside0.mk (Below.refl w.heap.size w)
 have H : ((slices_Repeat_int_int.f (([1000000] : List Int)) a0_0).bind fun t233 => (if 0 ≤ a1 then (if a1 < (t233.length : Int) then (impl_Graph_distances.l0 k (t233.set (a1 : Int).toNat 0) a0_0 0 a0_0 l0_1) else (none)) else (none))) = some r := h
 clear h
 obtain ⟨y230, hy230⟩ : ∃ y_ : List Int, y_ = (([1000000] : List Int)) := ⟨_, rfl⟩
 replace H : ((slices_Repeat_int_int.f y230 a0_0).bind fun t233 => (if 0 ≤ a1 then (if a1 < (t233.length : Int) then (impl_Graph_distances.l0 k (t233.set (a1 : Int).toNat 0) a0_0 0 a0_0 l0_1) else (none)) else (none))) = some r := by first | (rw [hy230]; with_reducible exact H) | (have H2_ := (Option.bind_some _ _).symm.trans H; rw [hy230]; with_reducible exact H2_) | (have H2_ := (Option.bind_some _ _).symm.trans H; with_reducible exact H2_) | with_reducible exact H | (rw [hy230]; exact H) | exact H
 have Ny230 := Aside0.mk hy230
 clear hy230
 replace H := Option.bind_eq_some_iff.mp H
 obtain ⟨t233, A30, H⟩ := H
 have A3 := Aside0.mk A30
 clear A30
 by_cases c4 : 0 ≤ a1
 ·rw [if_pos c4] at H
  have c4b0 : decide (0 ≤ a1) = true := decide_eq_true c4
  clear c4
  by_cases c5 : a1 < (t233.length : Int)
  ·rw [if_pos c5] at H
   have c5b0 : decide (a1 < (t233.length : Int)) = true := decide_eq_true c5
   clear c5
   obtain ⟨y236, hy236⟩ : ∃ y_ : List Int, y_ = (t233.set (a1 : Int).toNat 0) := ⟨_, rfl⟩
   replace H : (impl_Graph_distances.l0 k y236 a0_0 0 a0_0 l0_1) = some r := by first | (rw [hy236]; with_reducible exact H) | (have H2_ := (Option.bind_some _ _).symm.trans H; rw [hy236]; with_reducible exact H2_) | (have H2_ := (Option.bind_some _ _).symm.trans H; with_reducible exact H2_) | with_reducible exact H | (rw [hy236]; exact H) | exact H
   have Ny236 := Aside0.mk hy236
   clear hy236
   have H' := Aside0.mk H
   clear H
   go_enter Try.func63, Try.ntmps63
   go_wp2_with (first | ((with_reducible refine gate_dst (N := 2) rfl ?_); refine box_event ?hg (N := 2) ?hd (cs := #[.int .i64 a0_0, .slice A0_1 l0_1.length c0_1]) (t := 30) ?hr ?_; (case hd => rfl); (case hg => rfl); (case hr => first | (go_simp; done) | (go_simp; rfl)); intro gb229 hg w7 hbox hb; have BK229 := Aside0.mk hbox; have GW229 := ge_ HB hg; have GE229 := ge_ HB hg; replace HB := Aside0.mk (bt_ HB hb); clear hb hbox hg) | ((with_reducible refine gate_dst (N := 8) rfl ?_); refine Kd.R_lit (Kd.int .i64) _ 3 ?hg (N := 8) ?hd (xs := ([1000000] : List Int)) (inner := [.int .i64 1000000]) (ok := fun _ => True) (okp := fun _ => True) ?hr ?hp (fun _ hk => hk) trivial (Below.refl _ _) (Nat.le_refl _) (by simp) ?_; (case hd => rfl); (case hg => rfl); (case hr => first | (go_simp; done) | (go_simp; rfl)); (case hp => exact (Reps.one (show Kd.M (Kd.int .i64) _ _ _ 1000000 [.int .i64 1000000] from rfl) (Reps.none _ _))); intro v231 w8 ho9 hb hg_ hnew_; clear hg_ hnew_; (first | rw [← Ny230.out] at ho9 | (simp only [Int.reduceToNat] at ho9; rw [← Ny230.out] at ho9)); have HO232 := Aside0.mk (Kd.R_lower ho9 (bz_ HB)); replace BK229 := Aside0.mk (bb_ BK229 hb); replace HB := Aside0.mk (bt_ HB hb); clear hb ho9; have hcz10_0 := cz_ BK229 0 (.int .i64 a0_0); have hcz10_1 := cz_ BK229 1 (.slice A0_1 l0_1.length c0_1); have hfz10_0 := blk_frozen BK229.out 0; have hfz10_1 := blk_frozen BK229.out 1; obtain ⟨Ao11, co11, eo11⟩ := Kd.R_slice HO232.out; subst eo11) | ((with_reducible refine gate_callee (f := 85) rfl ?_); refine gl_ (some 11) Try.func85 #[.slice Ao11 y230.length co11, .int .i64 a0_0] ?_; (with_reducible refine (slices_Repeat_int_int.calls _ _ y230 a0_0 t233 _ ?side1 ?side2 A3.out).mono ?_); (case side1 => exact rc_ HO232); (case side2 => exact (Kd.R_reads' HO232.out).2.1); rintro e w12 ⟨v234, rfl, ho0, hb⟩; refine ⟨_, rfl, ?_⟩; have HO235 := Aside0.mk (Kd.R_lower (Kd.R_new' ho0 (Kd.R_lt (hd_ HO232))) (bz_ HB)); replace HO232 := Aside0.mk (Kd.R_elder' (hd_ HO232) (Kd.R_base ho0) hb); replace BK229 := Aside0.mk (bb_ BK229 hb); replace HB := Aside0.mk (bt_ HB hb); (try clear hb); (try clear hb2); (try clear hk); (try clear hi); (try clear ho0); have p6 : 0 ≤ (a1 : Int) := of_decide_eq_true (by first | (with_reducible assumption) | assumption); have q6 : (a1 : Int) < ((t233.length : Int) : Int) := of_decide_eq_true (by first | (with_reducible assumption) | assumption); obtain ⟨go6, co6, eo6, gb6, gl6, cl6, HG6⟩ := Kd.R_form HO235.out (by omega); (first | cases eo6 | (injection eo6 with ea_ en_ ec_; (first | subst ea_ | (injection ea_ with ea_; subst ea_)); subst ec_; clear en_)); have GB6 := Aside0.mk gb6; have GG6 := Aside0.mk HG6; clear gb6 gl6 HG6; obtain ⟨hx6_0, hf6_0⟩ := Kd.R_celln 0 HO235.out (a1 : Int) p6 q6; replace p6 := eq_true p6; replace q6 := eq_true q6; have n_ := Aside0.mk (Kd.R_mono (ok' := (fun k_ => some k_ ≠ (.slice Ao11 y230.length co11 : Value).ownBlock)) HO235.out (fun k_ hk => hk.2)); clear HO235; have HO235 := n_; clear n_; obtain ⟨hy13_, hz13_⟩ := Kd.R_celln 0 HO235.out (a1 : Int) (of_decide_eq_true (by first | (with_reducible assumption) | assumption)) (of_decide_eq_true (by first | (with_reducible assumption) | assumption)); have HP13 := Kd.R_putg HO235.out (a1 : Int) 0) | ((with_reducible refine gate_store (t := 3) (p := 14) rfl ?_); refine store_event (t := 3) (p := 14) (v := ?vo_w14) (w1 := (w12.setCell ⟨go6, (a1 : Int).toNat, none⟩ (.int .i64 0))) ?hg ?ho ?hn ?hr ?_; (case ho => rfl); (case hg => rfl); (case hn => rfl); (case hr => first | (go_simp; done) | (go_simp; rfl)); intro w14 hw; have hg : w12.grownBy w14 (some go6) := (by rw [hw]; exact HP13.2); have hp_ : Kd.R (Kd.int .i64) 3 w14 w.heap.size (fun k_ => some k_ ≠ (.slice Ao11 y230.length co11 : Value).ownBlock) (.slice (some ⟨go6, 0, none⟩) t233.length co6) y236 := (by rw [hw, Ny236.out]; exact HP13.1); clear HP13; replace BK229 := Aside0.mk (blk_grown (g := gb229) (o := .cells #[.int .i64 a0_0, .slice A0_1 l0_1.length c0_1] 30 (0, 0)) (by (with_reducible repeat (first | refine blk_drewN ?_ _ | refine blk_drew ?_ | refine blk_alloc ?_ _)); exact BK229.out) hg (Kd.R_ne HO235.out BK229.out (by decide))); replace HO232 := Aside0.mk (Kd.R_after (v := (.slice (some ⟨go6, 0, none⟩) t233.length co6)) (v1 := (.slice (some ⟨go6, 0, none⟩) t233.length co6)) (ok := (fun _ => True)) (hd_ HO232) hg (.inl rfl)); replace HO235 := Aside0.mk (hp_); replace HB := Aside0.mk ((by rw [hw]; exact below_set (HB.out) GB6.out : Below w.heap.size w w14)); clear hg hw hp_; have hcz15_0 := cz_ BK229 0 (.int .i64 a0_0); have hcz15_1 := cz_ BK229 1 (.slice A0_1 l0_1.length c0_1); have hfz15_0 := blk_frozen BK229.out 0; have hfz15_1 := blk_frozen BK229.out 1))
   (try simp only [Act.put, List.setIfInBounds_toArray, List.set_cons_zero, List.set_cons_succ])
   go_loopg [17] k (fun kq v17 w' => ∃ (x5_1 : List Int) (x17_1 : Int), v17 = .int .i64 x17_1 ∧ Aside0 (impl_Graph_distances.l0 kq x5_1 a0_0 x17_1 a0_0 l0_1 = some r) ∧ Aside0 (kq ≤ k) ∧ Aside0 (Kd.R (Kd.int .i64) 3 w' w.heap.size (fun _ => True) (.slice (some ⟨go6, 0, none⟩) t233.length co6) x5_1) ∧ Aside0 (w'.heap[gb229]? = some (.cells #[.int .i64 a0_0, (.slice A0_1 l0_1.length c0_1)] 30 (0, 0))) ∧ Aside0 (Below w.heap.size w w'))
   case atStart => exact ⟨(y236), (0), (by first | rfl | (simp; done) | (simp [*]; done)), H', ⟨Nat.le_refl _⟩, ⟨by (with_reducible repeat (first | apply Kd.R_alloc | apply Kd.R_drewN | apply Kd.R_drew)); exact Kd.R_mono HO235.out (fun _ hk => trivial)⟩, ⟨by (with_reducible repeat (first | refine blk_drewN ?_ _ | refine blk_drew ?_ | refine blk_alloc ?_ _)); exact BK229.out⟩, ⟨by repeat (first | (with_reducible first | exact HB.out | apply below_alloc | apply pw_below_drewN | apply below_drew1 | refine below_set ?_ GE229.out) | exact HB.out)⟩⟩
   case round =>
    clear H'
    try clear p2
    try clear c4
    try clear c4b0
    try clear c5
    try clear c5b0
    try clear c6
    try clear p6
    try clear q6
    try clear hx6
    try clear hf6
    try clear c8
    try clear hcz10_0
    try clear hcz10_1
    try clear hcz15_0
    try clear hcz15_1
    try clear hfz10_0
    try clear hfz10_1
    try clear hfz15_0
    try clear hfz15_1
    try clear hx6_0
    try clear p6
    try clear q6
    obtain ⟨x5_1, x17_1, rfl, HA, HK1, HO_5, BK229, HB⟩ := hrel
    have hl5_1 := (Kd.R_reads' HO_5.out).1
    rw [hl5_1] at HO_5
    (try simp only [hl5_1])
    (try simp only [hl5_1] at BK229)
    cases gk with
    | zero => exact absurd HA.out (by simp [impl_Graph_distances.l0])
    | succ k1 =>
     have H := HA.out
     clear HA
     simp only [impl_Graph_distances.l0] at H
     by_cases c16 : x17_1 < a0_0
     ·rw [if_pos c16] at H
      have c16b0 : decide (x17_1 < a0_0) = true := decide_eq_true c16
      clear c16
      have H' := Aside0.mk H
      clear H
      have hcz17_0 := cz_ BK229 0 (.int .i64 a0_0)
      have hcz17_1 := cz_ BK229 1 (.slice A0_1 l0_1.length c0_1)
      have hfz17_0 := blk_frozen BK229.out 0
      have hfz17_1 := blk_frozen BK229.out 1
      go_wp2
      go_loopg [22] k1 (fun kq v22 w' => ∃ (x5_2 : List Int) (x22_2 : Int), v22 = .int .i64 x22_2 ∧ Aside0 (impl_Graph_distances.l1 kq x5_2 a0_0 x17_1 l0_1 (l0_1.length : Int) x22_2 a0_0 l0_1 = some r) ∧ Aside0 (kq ≤ k1) ∧ Aside0 (Kd.R (Kd.int .i64) 3 w' w.heap.size (fun _ => True) (.slice (some ⟨go6, 0, none⟩) x5_1.length co6) x5_2) ∧ Aside0 (w'.heap[gb229]? = some (.cells #[.int .i64 a0_0, (.slice A0_1 l0_1.length c0_1)] 30 (0, 0))) ∧ Aside0 (Below w.heap.size w w'))
      case atStart => exact ⟨(x5_1), (0), (by first | rfl | (simp; done) | (simp [*]; done)), H', ⟨Nat.le_refl _⟩, ⟨by (try simp only [hl5_1]); (with_reducible repeat (first | apply Kd.R_alloc | apply Kd.R_drewN | apply Kd.R_drew)); exact HO_5.out⟩, ⟨by (try simp only [hl5_1]); (with_reducible repeat (first | refine blk_drewN ?_ _ | refine blk_drew ?_ | refine blk_alloc ?_ _)); exact BK229.out⟩, ⟨by repeat (first | (with_reducible first | exact HB.out | apply below_alloc | apply pw_below_drewN | apply below_drew1 | refine below_set ?_ GE229.out) | exact HB.out)⟩⟩
      case round =>
       clear H'
       try clear c1
       try clear p2
       try clear c4
       try clear c4b0
       try clear c5
       try clear c5b0
       try clear c6
       try clear p6
       try clear q6
       try clear hx6
       try clear hf6
       try clear c8
       try clear c16
       try clear c16b0
       try clear hcz10_0
       try clear hcz10_1
       try clear hcz15_0
       try clear hcz15_1
       try clear hcz17_0
       try clear hcz17_1
       try clear hfz10_0
       try clear hfz10_1
       try clear hfz15_0
       try clear hfz15_1
       try clear hfz17_0
       try clear hfz17_1
       try clear hx6_0
       try clear p2
       try clear p6
       try clear q6
       obtain ⟨x5_2, x22_2, rfl, HA, HK2, HO_5, BK229, HB⟩ := hrel
       have hl5_2 := (Kd.R_reads' HO_5.out).1
       rw [hl5_2] at HO_5
       (try simp only [hl5_2])
       (try simp only [hl5_2] at BK229)
       cases gk with
       | zero => exact absurd HA.out (by simp [impl_Graph_distances.l1])
       | succ k2 =>
        have H := HA.out
        clear HA
        simp only [impl_Graph_distances.l1] at H
        by_cases c18 : x22_2 < (l0_1.length : Int)
        ·rw [if_pos c18] at H
         have c18b0 : decide (x22_2 < (l0_1.length : Int)) = true := decide_eq_true c18
         clear c18
         by_cases c19 : 0 ≤ x22_2
         ·rw [if_pos c19] at H
          have c19b0 : decide (0 ≤ x22_2) = true := decide_eq_true c19
          clear c19
          by_cases c20 : x22_2 < (l0_1.length : Int)
          ·rw [if_pos c20] at H
           have c20b0 : decide (x22_2 < (l0_1.length : Int)) = true := decide_eq_true c20
           clear c20
           by_cases c21 : 0 ≤ ((rd_T67 l0_1 x22_2).f0)
           ·rw [if_pos c21] at H
            have c21b0 : decide (0 ≤ ((rd_T67 l0_1 x22_2).f0)) = true := decide_eq_true c21
            clear c21
            by_cases c22 : ((rd_T67 l0_1 x22_2).f0) < (x5_2.length : Int)
            ·rw [if_pos c22] at H
             have c22b0 : decide (((rd_T67 l0_1 x22_2).f0) < (x5_2.length : Int)) = true := decide_eq_true c22
             clear c22
             by_cases c23 : (rd x5_2 ((rd_T67 l0_1 x22_2).f0)) < 1000000
             ·rw [if_pos c23] at H
              have c23b0 : decide ((rd x5_2 ((rd_T67 l0_1 x22_2).f0)) < 1000000) = true := decide_eq_true c23
              clear c23
              by_cases c24 : 0 ≤ ((rd_T67 l0_1 x22_2).f1)
              ·rw [if_pos c24] at H
               have c24b0 : decide (0 ≤ ((rd_T67 l0_1 x22_2).f1)) = true := decide_eq_true c24
               clear c24
               by_cases c25 : ((rd_T67 l0_1 x22_2).f1) < (x5_2.length : Int)
               ·rw [if_pos c25] at H
                have c25b0 : decide (((rd_T67 l0_1 x22_2).f1) < (x5_2.length : Int)) = true := decide_eq_true c25
                clear c25
                obtain ⟨ji26, hji26⟩ : ∃ j_ : Int, (mn (rd x5_2 ((rd_T67 l0_1 x22_2).f1)) (wrap64 ((rd x5_2 ((rd_T67 l0_1 x22_2).f0)) + ((rd_T67 l0_1 x22_2).f2)))) = j_ := ⟨_, rfl⟩
                first | rw [hji26] at H | simp only [hji26] at H
                have hji26_ : (if (wrap64 ((rd x5_2 ((rd_T67 l0_1 x22_2).f0)) + ((rd_T67 l0_1 x22_2).f2))) < (rd x5_2 ((rd_T67 l0_1 x22_2).f1)) then (wrap64 ((rd x5_2 ((rd_T67 l0_1 x22_2).f0)) + ((rd_T67 l0_1 x22_2).f2))) else (rd x5_2 ((rd_T67 l0_1 x22_2).f1))) = ji26 := hji26
                obtain ⟨y242, hy242⟩ : ∃ y_ : List Int, y_ = (x5_2.set (((rd_T67 l0_1 x22_2).f1) : Int).toNat (ji26)) := ⟨_, rfl⟩
                replace H : (impl_Graph_distances.l1 k2 y242 a0_0 x17_1 l0_1 (l0_1.length : Int) (wrap64 (x22_2 + 1)) a0_0 l0_1) = some r := by first | (rw [hy242]; with_reducible exact H) | (have H2_ := (Option.bind_some _ _).symm.trans H; rw [hy242]; with_reducible exact H2_) | (have H2_ := (Option.bind_some _ _).symm.trans H; with_reducible exact H2_) | with_reducible exact H | (rw [hy242]; exact H) | exact H
                have Ny242 := Aside0.mk hy242
                clear hy242
                have H' := Aside0.mk H
                clear H
                have p237 : 0 ≤ (x22_2 : Int) := of_decide_eq_true (by first | (with_reducible assumption) | assumption)
                have q237 : x22_2 < (l0_1.length : Int) := of_decide_eq_true (by first | (with_reducible assumption) | assumption)
                obtain ⟨ad237, e237, hx237_0, hx237_1, hx237_2⟩ := at_T67 HR0_1.out x22_2 p237 q237
                cases e237
                replace hx237_0 := (HB.out.cell (World.block_lt_of_cell? w _ hx237_0)).trans hx237_0
                replace hx237_1 := (HB.out.cell (World.block_lt_of_cell? w _ hx237_1)).trans hx237_1
                replace hx237_2 := (HB.out.cell (World.block_lt_of_cell? w _ hx237_2)).trans hx237_2
                replace p237 := eq_true p237
                replace q237 := eq_true q237
                try go_wp2_with (first | ((with_reducible refine gate_dst (N := 7) rfl ?_); refine box_event ?hg (N := 7) ?hd (cs := #[.int .i64 0, .int .i64 0, .int .i64 0]) (t := 67) ?hr ?_; (case hd => rfl); (case hg => rfl); (case hr => first | (go_simp; done) | (go_simp; rfl)); intro gb238 hg w28 hbox hb; have BK238 := Aside0.mk hbox; have GW238 := ge_ HB hg; have GE238 := ge_ HB hg; have NB229_238 := nl_ BK229 hg; have NB238_229 := ng_ BK229 hg; replace HO_5 := rb_ HO_5 hb; replace HB := Aside0.mk (bt_ HB hb); replace BK229 := Aside0.mk (bb_ BK229 hb); clear hb hbox hg; have hnb29 := NB238_229.out; have hnc29 := NB229_238.out; have hcz30_0 := cz_ BK238 0 (.int .i64 0); have hcz30_1 := cz_ BK238 1 (.int .i64 0); have hcz30_2 := cz_ BK238 2 (.int .i64 0); have hfz30_0 := blk_frozen BK238.out 0; have hfz30_1 := blk_frozen BK238.out 1; have hfz30_2 := blk_frozen BK238.out 2; have p239 : 0 ≤ (((rd_T67 l0_1 x22_2).f0) : Int) := of_decide_eq_true (by first | (with_reducible assumption) | assumption); have q239 : ((rd_T67 l0_1 x22_2).f0) < (x5_2.length : Int) := of_decide_eq_true (by first | (with_reducible assumption) | assumption); obtain ⟨ad239, e239, hx239_0⟩ := Kd.at_int (Kd.R_reads' HO_5.out).2.2 ((rd_T67 l0_1 x22_2).f0) p239 q239; obtain rfl : (⟨go6, 0, none⟩ : Addr) = ad239 := (by injection e239); (first | simp only [add_plain] at hx239_0 | simp only [add_at] at hx239_0 | simp only [Addr.add, Nat.zero_add] at hx239_0 | skip); have hn239_0 : (⟨go6, 0, none⟩ : Addr).block ≠ gb238 := Kd.own_blk (Kd.R_ne HO_5.out BK238.out (by decide)); have hn239_1 : (⟨go6, 0, none⟩ : Addr).block ≠ gb238 := Kd.own_blk (Kd.R_ne HO_5.out BK238.out (by decide)); have hn239_2 : (⟨go6, 0, none⟩ : Addr).block ≠ gb238 := Kd.own_blk (Kd.R_ne HO_5.out BK238.out (by decide)); replace hx239_0 := (cell_far (p := ⟨gb238, 0, none⟩) (by first | (rw [add_block]; exact hn239_0) | (show (Addr.add _ _).block ≠ _; rw [add_block]; exact hn239_0) | exact hn239_0) (.int .i64 ((rd_T67 l0_1 x22_2).f0))).trans hx239_0; replace hx239_0 := (cell_far (p := ⟨gb238, 1, none⟩) (by first | (rw [add_block]; exact hn239_1) | (show (Addr.add _ _).block ≠ _; rw [add_block]; exact hn239_1) | exact hn239_1) (.int .i64 ((rd_T67 l0_1 x22_2).f1))).trans hx239_0; replace hx239_0 := (cell_far (p := ⟨gb238, 2, none⟩) (by first | (rw [add_block]; exact hn239_2) | (show (Addr.add _ _).block ≠ _; rw [add_block]; exact hn239_2) | exact hn239_2) (.int .i64 ((rd_T67 l0_1 x22_2).f2))).trans hx239_0; clear hn239_0; clear hn239_1; clear hn239_2; replace p239 := eq_true p239; replace q239 := eq_true q239))
                have n0_ : Aside0 (Kd.R (Kd.int .i64) 3 (((w28.setCell ⟨gb238, 0, none⟩ (.int .i64 ((rd_T67 l0_1 x22_2).f0))).setCell ⟨gb238, 1, none⟩ (.int .i64 ((rd_T67 l0_1 x22_2).f1))).setCell ⟨gb238, 2, none⟩ (.int .i64 ((rd_T67 l0_1 x22_2).f2))) w.heap.size (fun _ => True) (.slice (some ⟨go6, 0, none⟩) x5_2.length co6) x5_2) := ⟨by (with_reducible repeat (first | apply Kd.R_alloc | apply Kd.R_drewN | apply Kd.R_drew)); exact Kd.R_mono (Kd.R_far (p := ⟨gb238, 2, none⟩) (Kd.R_far (p := ⟨gb238, 1, none⟩) (Kd.R_far (p := ⟨gb238, 0, none⟩) (Kd.R_types HO_5.out BK238.out (by decide)) (fun _ hk => hk.2) (.int .i64 ((rd_T67 l0_1 x22_2).f0))) (fun _ hk => hk.2) (.int .i64 ((rd_T67 l0_1 x22_2).f1))) (fun _ hk => hk.2) (.int .i64 ((rd_T67 l0_1 x22_2).f2))) (fun _ hk => trivial)⟩
                have n1_ : Aside0 ((((w28.setCell ⟨gb238, 0, none⟩ (.int .i64 ((rd_T67 l0_1 x22_2).f0))).setCell ⟨gb238, 1, none⟩ (.int .i64 ((rd_T67 l0_1 x22_2).f1))).setCell ⟨gb238, 2, none⟩ (.int .i64 ((rd_T67 l0_1 x22_2).f2))).heap[gb229]? = some (.cells #[.int .i64 a0_0, .slice (some ad237) l0_1.length c0_1] 30 (0, 0))) := ⟨by (with_reducible repeat (first | refine blk_drewN ?_ _ | refine blk_drew ?_ | refine blk_alloc ?_ _)); refine blk_far ?_ NB229_238.out _; (with_reducible repeat (first | refine blk_drewN ?_ _ | refine blk_drew ?_ | refine blk_alloc ?_ _)); refine blk_far ?_ NB229_238.out _; (with_reducible repeat (first | refine blk_drewN ?_ _ | refine blk_drew ?_ | refine blk_alloc ?_ _)); refine blk_far ?_ NB229_238.out _; (with_reducible repeat (first | refine blk_drewN ?_ _ | refine blk_drew ?_ | refine blk_alloc ?_ _)); exact BK229.out⟩
                have n2_ : Aside0 ((((w28.setCell ⟨gb238, 0, none⟩ (.int .i64 ((rd_T67 l0_1 x22_2).f0))).setCell ⟨gb238, 1, none⟩ (.int .i64 ((rd_T67 l0_1 x22_2).f1))).setCell ⟨gb238, 2, none⟩ (.int .i64 ((rd_T67 l0_1 x22_2).f2))).heap[gb238]? = some (.cells #[.int .i64 ((rd_T67 l0_1 x22_2).f0), .int .i64 ((rd_T67 l0_1 x22_2).f1), .int .i64 ((rd_T67 l0_1 x22_2).f2)] 67 (0, 0))) := ⟨by (with_reducible repeat (first | refine blk_drewN ?_ _ | refine blk_drew ?_ | refine blk_alloc ?_ _)); refine blk_put (cs := #[.int .i64 ((rd_T67 l0_1 x22_2).f0), .int .i64 ((rd_T67 l0_1 x22_2).f1), .int .i64 0]) ?_ 2 _ rfl; (with_reducible repeat (first | refine blk_drewN ?_ _ | refine blk_drew ?_ | refine blk_alloc ?_ _)); refine blk_put (cs := #[.int .i64 ((rd_T67 l0_1 x22_2).f0), .int .i64 0, .int .i64 0]) ?_ 1 _ rfl; (with_reducible repeat (first | refine blk_drewN ?_ _ | refine blk_drew ?_ | refine blk_alloc ?_ _)); refine blk_put (cs := #[.int .i64 0, .int .i64 0, .int .i64 0]) ?_ 0 _ rfl; (with_reducible repeat (first | refine blk_drewN ?_ _ | refine blk_drew ?_ | refine blk_alloc ?_ _)); exact BK238.out⟩
                have n3_ : Aside0 (Below w.heap.size w (((w28.setCell ⟨gb238, 0, none⟩ (.int .i64 ((rd_T67 l0_1 x22_2).f0))).setCell ⟨gb238, 1, none⟩ (.int .i64 ((rd_T67 l0_1 x22_2).f1))).setCell ⟨gb238, 2, none⟩ (.int .i64 ((rd_T67 l0_1 x22_2).f2)))) := ⟨by repeat (first | (with_reducible first | exact HB.out | apply below_alloc | apply pw_below_drewN | apply below_drew1 | refine below_set ?_ GE229.out | refine below_set ?_ GE238.out) | exact HB.out)⟩
                (try clear HO_5)
                (try clear BK229)
                (try clear BK238)
                (try clear HB)
                generalize (((w28.setCell ⟨gb238, 0, none⟩ (.int .i64 ((rd_T67 l0_1 x22_2).f0))).setCell ⟨gb238, 1, none⟩ (.int .i64 ((rd_T67 l0_1 x22_2).f1))).setCell ⟨gb238, 2, none⟩ (.int .i64 ((rd_T67 l0_1 x22_2).f2))) = w31 at n0_ n1_ n2_ n3_ ⊢
                have HO_5 := n0_
                have BK229 := n1_
                have BK238 := n2_
                have HB := n3_
                clear n0_ n1_ n2_ n3_
                replace HO_5 := Aside0.mk (Kd.R_drew HO_5.out)
                replace BK229 := Aside0.mk (blk_drew BK229.out)
                replace BK238 := Aside0.mk (blk_drew BK238.out)
                replace HB := Aside0.mk (below_drew1 HB.out)
                have p240 : 0 ≤ (((rd_T67 l0_1 x22_2).f1) : Int) := of_decide_eq_true (by first | (with_reducible assumption) | assumption)
                have q240 : ((rd_T67 l0_1 x22_2).f1) < (x5_2.length : Int) := of_decide_eq_true (by first | (with_reducible assumption) | assumption)
                obtain ⟨ad240, e240, hx240_0⟩ := Kd.at_int (Kd.R_reads' HO_5.out).2.2 ((rd_T67 l0_1 x22_2).f1) p240 q240
                obtain rfl : (⟨go6, 0, none⟩ : Addr) = ad240 := (by injection e240)
                (first | simp only [add_plain] at hx240_0 | simp only [add_at] at hx240_0 | simp only [Addr.add, Nat.zero_add] at hx240_0 | skip)
                replace p240 := eq_true p240
                replace q240 := eq_true q240
                have p241 : 0 ≤ (((rd_T67 l0_1 x22_2).f0) : Int) := of_decide_eq_true (by first | (with_reducible assumption) | assumption)
                have q241 : ((rd_T67 l0_1 x22_2).f0) < (x5_2.length : Int) := of_decide_eq_true (by first | (with_reducible assumption) | assumption)
                obtain ⟨ad241, e241, hx241_0⟩ := Kd.at_int (Kd.R_reads' HO_5.out).2.2 ((rd_T67 l0_1 x22_2).f0) p241 q241
                obtain rfl : (⟨go6, 0, none⟩ : Addr) = ad241 := (by injection e241)
                (first | simp only [add_plain] at hx241_0 | simp only [add_at] at hx241_0 | simp only [Addr.add, Nat.zero_add] at hx241_0 | skip)
                replace p241 := eq_true p241
                replace q241 := eq_true q241
                have p27 : 0 ≤ (((rd_T67 l0_1 x22_2).f1) : Int) := of_decide_eq_true (by first | (with_reducible assumption) | assumption)
                have q27 : (((rd_T67 l0_1 x22_2).f1) : Int) < ((x5_2.length : Int) : Int) := of_decide_eq_true (by first | (with_reducible assumption) | assumption)
                obtain ⟨hx27_0, hf27_0⟩ := Kd.R_celln 0 HO_5.out (((rd_T67 l0_1 x22_2).f1) : Int) p27 q27
                replace p27 := eq_true p27
                replace q27 := eq_true q27
                have HP33 := Kd.R_putn HO_5.out (((rd_T67 l0_1 x22_2).f1) : Int) ji26
                rw [← Ny242.out] at HP33
                have HQ33 := Aside0.mk HP33
                clear HP33
                refine start_ (n := 19) (S := fun w' => w'.cell? ⟨gb238, 0, none⟩ = some (.int .i64 ((rd_T67 l0_1 x22_2).f0)) ∧ w'.cell? ⟨gb238, 1, none⟩ = some (.int .i64 ((rd_T67 l0_1 x22_2).f1)) ∧ w'.cell? ⟨gb238, 2, none⟩ = some (.int .i64 ((rd_T67 l0_1 x22_2).f2)) ∧ w'.cell? ⟨go6, (((rd_T67 l0_1 x22_2).f1)).toNat, none⟩ = some (.int .i64 (rd x5_2 ((rd_T67 l0_1 x22_2).f1))) ∧ w'.cell? ⟨go6, (((rd_T67 l0_1 x22_2).f0)).toNat, none⟩ = some (.int .i64 (rd x5_2 ((rd_T67 l0_1 x22_2).f0)))) (ds := [18]) ba8_0 (by kernel_rfl) rfl rfl ⟨(blk_cell BK238.out 0).trans rfl, (blk_cell BK238.out 1).trans rfl, (blk_cell BK238.out 2).trans rfl, hx240_0, hx241_0⟩ (fun hHeld => ?_); refine with_tabW impl_Graph_distances.tab9 impl_Graph_distances.bits9 (fun HT_ HW_ => ?_)
                generalize w31.drew = w32 at HO_5 BK229 BK238 HB HQ33 hf27_0 hx240_0 hx241_0 hx27_0 hHeld ⊢
                refine pz_ 0 32 ba8_1 HT_ ?_
                refine pz_ 1 33 ba8_2 HT_ ?_
                refine pz_ 3 35 ba8_3 HT_ ?_
                refine pz_ 4 36 ba8_4 HT_ ?_
                refine pz_ 8 40 ba8_5 HT_ ?_
                refine pz_ 9 41 ba8_6 HT_ ?_
                refine pz_ 13 45 ba8_7 HT_ ?_
                refine pt_ 2 34 ba8_8 HT_ HW_ hHeld ?_
                refine pt_ 5 37 ba8_9 HT_ HW_ hHeld ?_
                refine pz_ 6 38 ba8_10 HT_ ?_
                refine pt_ 7 39 ba8_11 HT_ HW_ hHeld ?_
                refine pt_ 10 42 ba8_12 HT_ HW_ hHeld ?_
                refine pz_ 11 43 ba8_13 HT_ ?_
                refine pt_ 12 44 ba8_14 HT_ HW_ hHeld ?_
                refine pt_ 14 46 ba8_15 HT_ HW_ hHeld ?_
                refine pz_ 15 47 ba8_16 HT_ ?_
                refine pz_ 16 48 ba8_17 HT_ ?_
                refine pz_ 17 49 ba8_18 HT_ ?_
                refine last_ (i := 18) (N := none) ba8_19 rfl rfl (one_of HT_.out (by kernel_rfl)) (by decide) (fun K hK => ?_)
                refine skip_ (w1 := ?_) (by rfl) rfl ?_ ?_
                rotate_left; · go_simp; rfl
                refine hK.out _ _ ?_
                clear hK K
                refine done_ (done_of HT_.out (by kernel_rfl)) ?_
                try go_wp2
                (try simp only [← hl5_2])
                go_roundg k2
                case measure => have := HK1.out; have := HK2.out; omega
                case rel => exact ⟨(y242), (wrap64 (x22_2 + 1)), (by first | rfl | (simp; done) | (simp [*]; done)), H', ⟨by have := HK1.out; have := HK2.out; omega⟩, ⟨by (try simp only [hl5_1]); (try simp only [hl5_2]); (with_reducible repeat (first | apply Kd.R_alloc | apply Kd.R_drewN | apply Kd.R_drew)); exact HQ33.out⟩, ⟨by (try simp only [hl5_1]); (try simp only [hl5_2]); (with_reducible repeat (first | refine blk_drewN ?_ _ | refine blk_drew ?_ | refine blk_alloc ?_ _)); refine blk_far ?_ (by have h_ := Kd.R_ne HO_5.out BK229.out (by decide); intro e_; exact h_ (by rw [e_]; rfl)) _; (with_reducible repeat (first | refine blk_drewN ?_ _ | refine blk_drew ?_ | refine blk_alloc ?_ _)); exact BK229.out⟩, ⟨by repeat (first | (with_reducible first | exact HB.out | apply below_alloc | apply pw_below_drewN | apply below_drew1 | refine below_set ?_ GB6.out | refine below_set ?_ GE229.out | refine below_set ?_ GE238.out) | exact HB.out)⟩⟩
               ·rw [if_neg c25] at H
                exact absurd H (by simp)
              ·rw [if_neg c24] at H
               exact absurd H (by simp)
             ·rw [if_neg c23] at H
              have c23b0 : decide ((rd x5_2 ((rd_T67 l0_1 x22_2).f0)) < 1000000) = false := decide_eq_false c23
              clear c23
              have H' := Aside0.mk H
              clear H
              have p237 : 0 ≤ (x22_2 : Int) := of_decide_eq_true (by first | (with_reducible assumption) | assumption)
              have q237 : x22_2 < (l0_1.length : Int) := of_decide_eq_true (by first | (with_reducible assumption) | assumption)
              obtain ⟨ad237, e237, hx237_0, hx237_1, hx237_2⟩ := at_T67 HR0_1.out x22_2 p237 q237
              cases e237
              replace hx237_0 := (HB.out.cell (World.block_lt_of_cell? w _ hx237_0)).trans hx237_0
              replace hx237_1 := (HB.out.cell (World.block_lt_of_cell? w _ hx237_1)).trans hx237_1
              replace hx237_2 := (HB.out.cell (World.block_lt_of_cell? w _ hx237_2)).trans hx237_2
              replace p237 := eq_true p237
              replace q237 := eq_true q237
              go_wp2_with (first | ((with_reducible refine gate_dst (N := 7) rfl ?_); refine box_event ?hg (N := 7) ?hd (cs := #[.int .i64 0, .int .i64 0, .int .i64 0]) (t := 67) ?hr ?_; (case hd => rfl); (case hg => rfl); (case hr => first | (go_simp; done) | (go_simp; rfl)); intro gb238 hg w34 hbox hb; have BK238 := Aside0.mk hbox; have GW238 := ge_ HB hg; have GE238 := ge_ HB hg; have NB229_238 := nl_ BK229 hg; have NB238_229 := ng_ BK229 hg; replace HO_5 := rb_ HO_5 hb; replace HB := Aside0.mk (bt_ HB hb); replace BK229 := Aside0.mk (bb_ BK229 hb); clear hb hbox hg; have hnb35 := NB238_229.out; have hnc35 := NB229_238.out; have hcz36_0 := cz_ BK238 0 (.int .i64 0); have hcz36_1 := cz_ BK238 1 (.int .i64 0); have hcz36_2 := cz_ BK238 2 (.int .i64 0); have hfz36_0 := blk_frozen BK238.out 0; have hfz36_1 := blk_frozen BK238.out 1; have hfz36_2 := blk_frozen BK238.out 2; have p239 : 0 ≤ (((rd_T67 l0_1 x22_2).f0) : Int) := of_decide_eq_true (by first | (with_reducible assumption) | assumption); have q239 : ((rd_T67 l0_1 x22_2).f0) < (x5_2.length : Int) := of_decide_eq_true (by first | (with_reducible assumption) | assumption); obtain ⟨ad239, e239, hx239_0⟩ := Kd.at_int (Kd.R_reads' HO_5.out).2.2 ((rd_T67 l0_1 x22_2).f0) p239 q239; obtain rfl : (⟨go6, 0, none⟩ : Addr) = ad239 := (by injection e239); (first | simp only [add_plain] at hx239_0 | simp only [add_at] at hx239_0 | simp only [Addr.add, Nat.zero_add] at hx239_0 | skip); have hn239_0 : (⟨go6, 0, none⟩ : Addr).block ≠ gb238 := Kd.own_blk (Kd.R_ne HO_5.out BK238.out (by decide)); have hn239_1 : (⟨go6, 0, none⟩ : Addr).block ≠ gb238 := Kd.own_blk (Kd.R_ne HO_5.out BK238.out (by decide)); have hn239_2 : (⟨go6, 0, none⟩ : Addr).block ≠ gb238 := Kd.own_blk (Kd.R_ne HO_5.out BK238.out (by decide)); replace hx239_0 := (cell_far (p := ⟨gb238, 0, none⟩) (by first | (rw [add_block]; exact hn239_0) | (show (Addr.add _ _).block ≠ _; rw [add_block]; exact hn239_0) | exact hn239_0) (.int .i64 ((rd_T67 l0_1 x22_2).f0))).trans hx239_0; replace hx239_0 := (cell_far (p := ⟨gb238, 1, none⟩) (by first | (rw [add_block]; exact hn239_1) | (show (Addr.add _ _).block ≠ _; rw [add_block]; exact hn239_1) | exact hn239_1) (.int .i64 ((rd_T67 l0_1 x22_2).f1))).trans hx239_0; replace hx239_0 := (cell_far (p := ⟨gb238, 2, none⟩) (by first | (rw [add_block]; exact hn239_2) | (show (Addr.add _ _).block ≠ _; rw [add_block]; exact hn239_2) | exact hn239_2) (.int .i64 ((rd_T67 l0_1 x22_2).f2))).trans hx239_0; clear hn239_0; clear hn239_1; clear hn239_2; replace p239 := eq_true p239; replace q239 := eq_true q239))
              (try simp only [← hl5_2])
              go_roundg k2
              case measure => have := HK1.out; have := HK2.out; omega
              case rel => exact ⟨(x5_2), (wrap64 (x22_2 + 1)), (by first | rfl | (simp; done) | (simp [*]; done)), H', ⟨by have := HK1.out; have := HK2.out; omega⟩, ⟨by (try simp only [hl5_1]); (try simp only [hl5_2]); (with_reducible repeat (first | apply Kd.R_alloc | apply Kd.R_drewN | apply Kd.R_drew)); exact Kd.R_mono (Kd.R_far (p := ⟨gb238, 2, none⟩) (Kd.R_far (p := ⟨gb238, 1, none⟩) (Kd.R_far (p := ⟨gb238, 0, none⟩) (Kd.R_types HO_5.out BK238.out (by decide)) (fun _ hk => hk.2) (.int .i64 ((rd_T67 l0_1 x22_2).f0))) (fun _ hk => hk.2) (.int .i64 ((rd_T67 l0_1 x22_2).f1))) (fun _ hk => hk.2) (.int .i64 ((rd_T67 l0_1 x22_2).f2))) (fun _ hk => trivial)⟩, ⟨by (try simp only [hl5_1]); (try simp only [hl5_2]); (with_reducible repeat (first | refine blk_drewN ?_ _ | refine blk_drew ?_ | refine blk_alloc ?_ _)); refine blk_far ?_ NB229_238.out _; (with_reducible repeat (first | refine blk_drewN ?_ _ | refine blk_drew ?_ | refine blk_alloc ?_ _)); refine blk_far ?_ NB229_238.out _; (with_reducible repeat (first | refine blk_drewN ?_ _ | refine blk_drew ?_ | refine blk_alloc ?_ _)); refine blk_far ?_ NB229_238.out _; (with_reducible repeat (first | refine blk_drewN ?_ _ | refine blk_drew ?_ | refine blk_alloc ?_ _)); exact BK229.out⟩, ⟨by repeat (first | (with_reducible first | exact HB.out | apply below_alloc | apply pw_below_drewN | apply below_drew1 | refine below_set ?_ GE229.out | refine below_set ?_ GE238.out) | exact HB.out)⟩⟩
            ·rw [if_neg c22] at H
             exact absurd H (by simp)
           ·rw [if_neg c21] at H
            exact absurd H (by simp)
          ·rw [if_neg c20] at H
           exact absurd H (by simp)
         ·rw [if_neg c19] at H
          exact absurd H (by simp)
        ·rw [if_neg c18] at H
         have c18b0 : decide (x22_2 < (l0_1.length : Int)) = false := decide_eq_false c18
         (try simp only [hl5_1] at c18b0)
         (try simp only [hl5_2] at c18b0)
         clear c18
         have H' := Aside0.mk H
         clear H
         go_wp2
         (try simp only [← hl5_1, ← hl5_2])
         go_roundg k2
         case measure => have := HK1.out; have := HK2.out; omega
         case rel => exact ⟨(x5_2), (wrap64 (x17_1 + 1)), (by first | rfl | (simp; done) | (simp [*]; done)), H', ⟨by have := HK1.out; have := HK2.out; omega⟩, ⟨by (try simp only [hl5_1]); (try simp only [hl5_2]); (with_reducible repeat (first | apply Kd.R_alloc | apply Kd.R_drewN | apply Kd.R_drew)); exact HO_5.out⟩, ⟨by (try simp only [hl5_1]); (try simp only [hl5_2]); (with_reducible repeat (first | refine blk_drewN ?_ _ | refine blk_drew ?_ | refine blk_alloc ?_ _)); exact BK229.out⟩, ⟨by repeat (first | (with_reducible first | exact HB.out | apply below_alloc | apply pw_below_drewN | apply below_drew1 | refine below_set ?_ GE229.out) | exact HB.out)⟩⟩
     ·rw [if_neg c16] at H
      have c16b0 : decide (x17_1 < a0_0) = false := decide_eq_false c16
      clear c16
      obtain rfl := Option.some.inj H
      go_wp2
      go_ret
      exact ⟨_, by first | rfl | (simp [errW_none, errW_some] <;> rfl) | (simp [*, errW_none, errW_some] <;> rfl), by (with_reducible repeat (first | apply Kd.R_alloc | apply Kd.R_drewN | apply Kd.R_drew)); exact HO_5.out, by repeat (first | (with_reducible first | exact HB.out | apply below_alloc | apply pw_below_drewN | apply below_drew1 | refine below_set ?_ GE229.out) | exact HB.out)⟩
  ·rw [if_neg c5] at H
   exact absurd H (by simp)
 ·rw [if_neg c4] at H
  exact absurd H (by simp)

/-! ### impl_CountWays_1: function 76 -/
def impl_CountWays_1.f (a0 : Int) (a1 : Int) (l2 : List (List Int)) : Option (Int) := if 0 < (l2.length : Int) then (if 0 ≤ a0 then (if a0 < ((rd_L4 l2 0).length : Int) then (if 0 ≤ a1 then (if a1 < ((rd_L4 l2 0).length : Int) then (some (wrap64 ((rd (rd_L4 l2 0) a0) - (rd (rd_L4 l2 0) a1)))) else (none)) else (none)) else (none)) else (none)) else (none)
set_option maxHeartbeats 8000000 in
set_option maxRecDepth 100000 in
theorem impl_CountWays_1.calls (a0 : Int) (a1 : Int) (A2 : Option Addr) (l2 : List (List Int)) (r : Int) (w : World) (hr2 : Kd.C (Kd.slice 3 (Kd.int .i64)) w A2 l2.length l2) (h : impl_CountWays_1.f a0 a1 l2 = some r) :
  Calls Try.prog 76 #[.int .i64 a0, .int .i64 a1, .pointer A2] w fun e w' => e = .returned (.int .i64 r) ∧ Drawn0 w w' := by
 have HR2 := Aside0.mk hr2
 clear hr2
 have H : (if 0 < (l2.length : Int) then (if 0 ≤ a0 then (if a0 < ((rd_L4 l2 0).length : Int) then (if 0 ≤ a1 then (if a1 < ((rd_L4 l2 0).length : Int) then (some (wrap64 ((rd (rd_L4 l2 0) a0) - (rd (rd_L4 l2 0) a1)))) else (none)) else (none)) else (none)) else (none)) else (none)) = some r := h
 clear h
 by_cases c4 : 0 < (l2.length : Int)
 ·rw [if_pos c4] at H
  have c4b0 : decide (0 < (l2.length : Int)) = true := decide_eq_true c4
  have c4b1 : decide (0 < l2.length) = true := decide_eq_true (by omega)
  clear c4
  by_cases c5 : 0 ≤ a0
  ·rw [if_pos c5] at H
   have c5b0 : decide (0 ≤ a0) = true := decide_eq_true c5
   clear c5
   by_cases c6 : a0 < ((rd_L4 l2 0).length : Int)
   ·rw [if_pos c6] at H
    have c6b0 : decide (a0 < ((rd_L4 l2 0).length : Int)) = true := decide_eq_true c6
    clear c6
    by_cases c7 : 0 ≤ a1
    ·rw [if_pos c7] at H
     have c7b0 : decide (0 ≤ a1) = true := decide_eq_true c7
     clear c7
     by_cases c8 : a1 < ((rd_L4 l2 0).length : Int)
     ·rw [if_pos c8] at H
      have c8b0 : decide (a1 < ((rd_L4 l2 0).length : Int)) = true := decide_eq_true c8
      clear c8
      obtain rfl := Option.some.inj H
      have p243 : 0 ≤ (0 : Int) := (by omega)
      have q243 : 0 < (l2.length : Int) := of_decide_eq_true (by first | (with_reducible assumption) | assumption)
      obtain ⟨ad243, A243_0, c243_0, e243, hx243_0, hl243_0, hi243_0⟩ := at_L4 HR2.out 0 p243 q243
      cases e243
      have qi243 : (0 < l2.length) = True := eq_true (by omega)
      (try rw [show ((0 : Int)).toNat = 0 from rfl] at hx243_0)
      (try rw [Addr.add_zero'] at hx243_0)
      have HR243_0 := Aside0.mk hi243_0
      have HC243_0 := Aside0.mk hl243_0
      clear hi243_0 hl243_0
      replace p243 := eq_true p243
      replace q243 := eq_true q243
      have p244 : 0 ≤ (a0 : Int) := of_decide_eq_true (by first | (with_reducible assumption) | assumption)
      have q244 : a0 < ((rd_L4 l2 0).length : Int) := of_decide_eq_true (by first | (with_reducible assumption) | assumption)
      obtain ⟨ad244, e244, hx244_0⟩ := Kd.at_int HR243_0.out a0 p244 q244
      cases e244
      replace p244 := eq_true p244
      replace q244 := eq_true q244
      have p245 : 0 ≤ (0 : Int) := (by omega)
      have q245 : 0 < (l2.length : Int) := of_decide_eq_true (by first | (with_reducible assumption) | assumption)
      obtain ⟨ad245, A245_0, c245_0, e245, hx245_0, hl245_0, hi245_0⟩ := at_L4 HR2.out 0 p245 q245
      obtain rfl : ad243 = ad245 := (by injection e245)
      have qi245 : (0 < l2.length) = True := eq_true (by omega)
      (try rw [show ((0 : Int)).toNat = 0 from rfl] at hx245_0)
      (try rw [Addr.add_zero'] at hx245_0)
      have HR245_0 := Aside0.mk hi245_0
      have HC245_0 := Aside0.mk hl245_0
      clear hi245_0 hl245_0
      replace p245 := eq_true p245
      replace q245 := eq_true q245
      have ea_ := Option.some.inj (hx243_0.symm.trans hx245_0)
      injection ea_ with ea_ en_ ec_
      subst ea_
      subst ec_
      clear en_
      have p246 : 0 ≤ (a1 : Int) := of_decide_eq_true (by first | (with_reducible assumption) | assumption)
      have q246 : a1 < ((rd_L4 l2 0).length : Int) := of_decide_eq_true (by first | (with_reducible assumption) | assumption)
      obtain ⟨ad246, e246, hx246_0⟩ := Kd.at_int HR245_0.out a1 p246 q246
      cases e246
      replace p246 := eq_true p246
      replace q246 := eq_true q246
      go_enter Try.func76, Try.ntmps76
      go_wp2
      repeat (go_quiet (fail); try go_wp2)
      go_ret
      exact ⟨by first | rfl | (simp; done) | (simp [*]; done), by repeat (first | exact Drawn0.refl _ | apply Drawn0.step)⟩
     ·rw [if_neg c8] at H
      exact absurd H (by simp)
    ·rw [if_neg c7] at H
     exact absurd H (by simp)
   ·rw [if_neg c6] at H
    exact absurd H (by simp)
  ·rw [if_neg c5] at H
   exact absurd H (by simp)
 ·rw [if_neg c4] at H
  exact absurd H (by simp)

end Go.Proofs.Yteopiggdpadolaa.QFnExactCountWays
