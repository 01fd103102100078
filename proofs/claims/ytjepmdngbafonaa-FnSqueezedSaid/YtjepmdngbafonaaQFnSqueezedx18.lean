/- Contracts of functions that the law reaches: what each call returns and what it leaves in memory. Made by this session over the print of the kit. -/
import Derived.Test.YtjepmdngbafonaaQFnSqueezedx0
import Derived.Test.YtjepmdngbafonaaQFnSqueezedx6
namespace Go.Proofs.Ytjepmdngbafonaa.QFnSqueezed
open Go.RowKit Go.Proofs.YtjepmdngbafonaaZ.PrintWords Go.Proofs.YtjepmdngbafonaaZ.PrintLast Go.Proofs.YtjepmdngbafonaaZ.PrintMore
attribute [local go_sem] max2_int min2_int max_two min_two max_three min_three max_four min_four   -- for this text's walks alone
set_option linter.unusedVariables false
set_option linter.unusedSimpArgs false

/-! ### slices_Equal_int_int: function 63 -/
def slices_Equal_int_int.l0 : Nat → List Int → List Int → Int → Int → Option (Bool)
 | 0, _, _, _, _ => none
 | k + 1, x0, x1, x12, x13 => if x13 < x12 then (if 0 ≤ x13 then (if x13 < (x0.length : Int) then (if x13 < (x1.length : Int) then (if (rd x0 x13) = (rd x1 x13) then (slices_Equal_int_int.l0 k x0 x1 x12 (wrap64 (x13 + 1))) else (some false)) else (none)) else (none)) else (none)) else (some true)
def slices_Equal_int_int.f (k : Nat) (l0 : List Int) (l1 : List Int) : Option (Bool) := if (l0.length : Int) = (l1.length : Int) then (slices_Equal_int_int.l0 k l0 l1 (l0.length : Int) 0) else (some false)
set_option maxHeartbeats 8000000 in
set_option maxRecDepth 100000 in
theorem slices_Equal_int_int.calls (k : Nat) (A0 : Option Addr) (c0 : Nat) (l0 : List Int) (A1 : Option Addr) (c1 : Nat) (l1 : List Int) (r : Bool) (w : World) (hr0 : Kd.C (Kd.int .i64) w A0 l0.length l0) (hc0 : l0.length ≤ c0) (hr1 : Kd.C (Kd.int .i64) w A1 l1.length l1) (hc1 : l1.length ≤ c1) (h : slices_Equal_int_int.f k l0 l1 = some r) :
  Calls Try.prog 63 #[.slice A0 l0.length c0, .slice A1 l1.length c1] w fun e w' => e = .returned (.bool r) ∧ Drawn0 w w' := by
 have HR0 := Aside0.mk hr0
 have HC0 := Aside0.mk hc0
 clear hr0 hc0
 have HR1 := Aside0.mk hr1
 have HC1 := Aside0.mk hc1
 clear hr1 hc1
 have H : (if (l0.length : Int) = (l1.length : Int) then (slices_Equal_int_int.l0 k l0 l1 (l0.length : Int) 0) else (some false)) = some r := h
 clear h
 by_cases c3 : (l0.length : Int) = (l1.length : Int)
 rotate_left
 ·rw [if_neg c3] at H
  have c3b0 : ((l0.length : Int) == (l1.length : Int)) = false := beq_eq_false_iff_ne.mpr c3
  have c3b1 : ((l0.length : Int) != (l1.length : Int)) = true := bne_iff_ne.mpr c3
  have c3b2 : (l0.length == l1.length) = false := by first | simpa using c3 | (simp at c3 ⊢; omega)
  obtain rfl := Option.some.inj H
  go_enter Try.func63, Try.ntmps63
  go_wp2
  repeat (go_quiet (fail); try go_wp2)
  go_ret
  exact ⟨by first | rfl | (simp; done) | (simp [*]; done), by repeat (first | exact Drawn0.refl _ | apply Drawn0.step)⟩
 rw [if_pos c3] at H
 have c3b0 : ((l0.length : Int) == (l1.length : Int)) = true := beq_iff_eq.mpr c3
 have c3b1 : ((l0.length : Int) != (l1.length : Int)) = false := bne_eq_false_iff_eq.mpr c3
 have c3b2 : (l0.length == l1.length) = true := by first | simpa using c3 | (simp at c3 ⊢; omega)
 clear c3
 have H' := Aside0.mk H
 clear H
 go_enter Try.func63, Try.ntmps63
 go_wp2
 repeat (go_quiet (fail); try go_wp2)
 go_loopg [13] k (fun kq v13 w' => ∃ (x13_1 : Int), v13 = .int .i64 x13_1 ∧ Aside0 (slices_Equal_int_int.l0 kq l0 l1 (l0.length : Int) x13_1 = some r) ∧ Aside0 (kq ≤ k) ∧ Drawn0 w w')
 case atStart => exact ⟨(0), er_, H', ⟨Nat.le_refl _⟩, by repeat (first | exact Drawn0.refl _ | apply Drawn0.step)⟩
 case round =>
  clear H' c3b0 c3b1 c3b2
  obtain ⟨x13_1, rfl, HA, HK1, ⟨m1, rfl⟩⟩ := hrel
  cases gk with
  | zero => exact absurd HA.out (by simp [slices_Equal_int_int.l0])
  | succ k1 =>
   have H := HA.out
   clear HA
   simp only [slices_Equal_int_int.l0] at H
   by_cases c4 : x13_1 < (l0.length : Int)
   rotate_left
   ·rw [if_neg c4] at H
    have c4b0 : decide (x13_1 < (l0.length : Int)) = false := decide_eq_false c4
    clear c4
    obtain rfl := Option.some.inj H
    go_wp2
    repeat (go_quiet (fail); try go_wp2)
    go_ret
    exact ⟨by first | rfl | (simp; done) | (simp [*]; done), by repeat (first | exact Drawn0.refl _ | apply Drawn0.step)⟩
   rw [if_pos c4] at H
   have c4b0 : decide (x13_1 < (l0.length : Int)) = true := decide_eq_true c4
   clear c4
   obtain ⟨c5b0, H⟩ := iq_ H
   obtain ⟨c6b0, H⟩ := iq_ H
   obtain ⟨c7b0, H⟩ := iq_ H
   by_cases c8 : (rd l0 x13_1) = (rd l1 x13_1)
   rotate_left
   ·rw [if_neg c8] at H
    have c8b0 : ((rd l0 x13_1) == (rd l1 x13_1)) = false := beq_eq_false_iff_ne.mpr c8
    have c8b1 : ((rd l0 x13_1) != (rd l1 x13_1)) = true := bne_iff_ne.mpr c8
    obtain rfl := Option.some.inj H
    have p450 : 0 ≤ (x13_1 : Int) := oa_
    have q450 : x13_1 < (l0.length : Int) := oa_
    obtain ⟨ad450, e450, hx450_0⟩ := Kd.at_int HR0.out x13_1 p450 q450
    cases e450
    obtain ⟨p450, q450⟩ := et_ p450 q450
    have p451 : 0 ≤ (x13_1 : Int) := oa_
    have q451 : x13_1 < (l1.length : Int) := oa_
    obtain ⟨ad451, e451, hx451_0⟩ := Kd.at_int HR1.out x13_1 p451 q451
    cases e451
    obtain ⟨p451, q451⟩ := et_ p451 q451
    go_wp2
    repeat (go_quiet (fail); try go_wp2)
    go_ret
    exact ⟨by first | rfl | (simp; done) | (simp [*]; done), by repeat (first | exact Drawn0.refl _ | apply Drawn0.step)⟩
   rw [if_pos c8] at H
   have c8b0 : ((rd l0 x13_1) == (rd l1 x13_1)) = true := beq_iff_eq.mpr c8
   have c8b1 : ((rd l0 x13_1) != (rd l1 x13_1)) = false := bne_eq_false_iff_eq.mpr c8
   clear c8
   have H' := Aside0.mk H
   clear H
   have p450 : 0 ≤ (x13_1 : Int) := oa_
   have q450 : x13_1 < (l0.length : Int) := oa_
   obtain ⟨ad450, e450, hx450_0⟩ := Kd.at_int HR0.out x13_1 p450 q450
   cases e450
   obtain ⟨p450, q450⟩ := et_ p450 q450
   have p451 : 0 ≤ (x13_1 : Int) := oa_
   have q451 : x13_1 < (l1.length : Int) := oa_
   obtain ⟨ad451, e451, hx451_0⟩ := Kd.at_int HR1.out x13_1 p451 q451
   cases e451
   obtain ⟨p451, q451⟩ := et_ p451 q451
   go_wp2
   repeat (go_quiet (fail); try go_wp2)
   go_roundg k1
   case measure => have := HK1.out; omega
   case rel => exact ⟨(wrap64 (x13_1 + 1)), er_, H', ⟨by have := HK1.out; omega⟩, by repeat (first | exact Drawn0.refl _ | apply Drawn0.step)⟩

/-! ### bits_Mul32: function 123 -/
def bits_Mul32.f (a0 : Int) (a1 : Int) : Option (Int × Int) := some (((IntKind.u64.wrap ((IntKind.u64.wrap (a0)) * (IntKind.u64.wrap (a1)))) / 4294967296) % 4294967296, (IntKind.u64.wrap ((IntKind.u64.wrap (a0)) * (IntKind.u64.wrap (a1)))) % 4294967296)
/-! ### bits_Mul64: function 124 -/
def bits_Mul64.f (a0 : Int) (a1 : Int) : Option (Int × Int) := some (IntKind.u64.wrap ((IntKind.u64.wrap ((IntKind.u64.wrap ((a0 / 4294967296) * (a1 / 4294967296))) + ((IntKind.u64.wrap ((IntKind.u64.wrap ((a0 / 4294967296) * (Go.bits .and .u64 a1 4294967295))) + ((IntKind.u64.wrap ((Go.bits .and .u64 a0 4294967295) * (Go.bits .and .u64 a1 4294967295))) / 4294967296))) / 4294967296))) + ((IntKind.u64.wrap ((Go.bits .and .u64 (IntKind.u64.wrap ((IntKind.u64.wrap ((a0 / 4294967296) * (Go.bits .and .u64 a1 4294967295))) + ((IntKind.u64.wrap ((Go.bits .and .u64 a0 4294967295) * (Go.bits .and .u64 a1 4294967295))) / 4294967296))) 4294967295) + (IntKind.u64.wrap ((Go.bits .and .u64 a0 4294967295) * (a1 / 4294967296))))) / 4294967296)), IntKind.u64.wrap (a0 * a1))
set_option maxHeartbeats 8000000 in
set_option maxRecDepth 100000 in
theorem bits_Mul64.calls (a0 : Int) (a1 : Int) (r1 : Int) (r2 : Int) (w : World) (h : bits_Mul64.f a0 a1 = some (r1, r2)) :
  Calls Try.prog 124 #[.int .u64 a0, .int .u64 a1] w fun e w' => e = .returned (.tuple #[.int .u64 r1, .int .u64 r2]) ∧ Drawn0 w w' := by
 have H : (some (IntKind.u64.wrap ((IntKind.u64.wrap ((IntKind.u64.wrap ((a0 / 4294967296) * (a1 / 4294967296))) + ((IntKind.u64.wrap ((IntKind.u64.wrap ((a0 / 4294967296) * (Go.bits .and .u64 a1 4294967295))) + ((IntKind.u64.wrap ((Go.bits .and .u64 a0 4294967295) * (Go.bits .and .u64 a1 4294967295))) / 4294967296))) / 4294967296))) + ((IntKind.u64.wrap ((Go.bits .and .u64 (IntKind.u64.wrap ((IntKind.u64.wrap ((a0 / 4294967296) * (Go.bits .and .u64 a1 4294967295))) + ((IntKind.u64.wrap ((Go.bits .and .u64 a0 4294967295) * (Go.bits .and .u64 a1 4294967295))) / 4294967296))) 4294967295) + (IntKind.u64.wrap ((Go.bits .and .u64 a0 4294967295) * (a1 / 4294967296))))) / 4294967296)), IntKind.u64.wrap (a0 * a1))) = some (r1, r2) := h
 clear h
 simp only [Option.some.injEq, Prod.mk.injEq] at H
 obtain ⟨rfl, rfl⟩ := H
 go_enter Try.func124, Try.ntmps124
 go_wp2
 go_ret2
 exact ⟨by first | rfl | (simp; done) | (simp [*]; done), by repeat (first | exact Drawn0.refl _ | apply Drawn0.step)⟩

/-! ### bits_Mul: function 110 -/
def bits_Mul.f (a0 : Int) (a1 : Int) : Option (Int × Int) := (bits_Mul64.f a0 a1).bind fun bt452 => (some (bt452.1, bt452.2))
set_option maxHeartbeats 8000000 in
set_option maxRecDepth 100000 in
theorem bits_Mul.calls (a0 : Int) (a1 : Int) (r1 : Int) (r2 : Int) (w : World) (h : bits_Mul.f a0 a1 = some (r1, r2)) :
  Calls Try.prog 110 #[.int .u64 a0, .int .u64 a1] w fun e w' => e = .returned (.tuple #[.int .u64 r1, .int .u64 r2]) ∧ Drawn0 w w' := by
 have H : ((bits_Mul64.f a0 a1).bind fun bt452 => (some (bt452.1, bt452.2))) = some (r1, r2) := h
 clear h
 obtain ⟨⟨t452, t453⟩, A3, H⟩ := ob_ H
 simp only [Option.some.injEq, Prod.mk.injEq] at H
 obtain ⟨rfl, rfl⟩ := H
 go_enter Try.func110, Try.ntmps110
 go_wp2_with ((with_reducible refine gate_callee (f := 124) rfl ?_); refine gl_ (some 25) Try.func124 #[.int .u64 a0, .int .u64 a1] ?_; (with_reducible refine (bits_Mul64.calls a0 a1 t452 t453 _ A3.out).mono ?_); rintro e w' ⟨rfl, ⟨nd, rfl⟩⟩; refine ⟨_, rfl, ?_⟩)
 go_ret2
 exact ⟨by first | rfl | (simp; done) | (simp [*]; done), by repeat (first | exact Drawn0.refl _ | apply Drawn0.step)⟩

/-! ### slices_Repeat_int_int: function 99 -/
def slices_Repeat_int_int.f (l0 : List Int) (a1 : Int) : Option (List Int) := if l0.length = 1 then (if 0 ≤ a1 then (if a1 ≤ 65536 then some (List.replicate a1.toNat (rd l0 0)) else none) else none) else none
theorem mul_one (n : Nat) (h : n ≤ 65536) : bits_Mul.f 1 n = some (0, (n : Int)) := by
 have e1 := and_small 1 (by omega)
 have e2 := and_small n h
 have e3 := and_small 0 (by omega)
 have u : ∀ m : Int, 0 ≤ m → m ≤ 4294967296 → IntKind.u64.wrap m = m := fun m h0 h1 => by simp [IntKind.wrap, IntKind.bits, IntKind.signed]; omega
 unfold bits_Mul.f bits_Mul64.f
 have c1 : (1 : Int) / 4294967296 = 0 := by decide
 have c2 : (n : Int) / 4294967296 = 0 := by omega
 have e1' : Go.bits .and .u64 1 4294967295 = 1 := e1
 have e3' : Go.bits .and .u64 0 4294967295 = 0 := e3
 simp only [Option.bind_some, c1, c2, e1', e2, Int.zero_mul, Int.mul_zero, Int.one_mul, u 0 (by omega) (by omega), u n (by omega) (by omega), Int.zero_add, Int.add_zero, Int.zero_ediv, e3']
set_option maxHeartbeats 1000000 in
set_option maxRecDepth 100000 in
theorem slices_Repeat_int_int.calls (A0 : Option Addr) (c0 : Nat) (l0 : List Int) (a1 : Int) (r : List Int) (w : World) (hr0 : Kd.C (Kd.int .i64) w A0 l0.length l0) (hc0 : l0.length ≤ c0) (h : slices_Repeat_int_int.f l0 a1 = some r) :
  Calls Try.prog 99 #[.slice A0 l0.length c0, .int .i64 a1] w fun e w' => ∃ v0_ : Value, e = .returned (v0_) ∧ Kd.R (Kd.int .i64) 3 w' w.heap.size (fun _ => True) v0_ r ∧ Below w.heap.size w w' := by
 unfold slices_Repeat_int_int.f at h
 by_cases h1 : l0.length = 1
 rotate_left
 ·rw [if_neg h1] at h; cases h
 rw [if_pos h1] at h
 by_cases h2 : 0 ≤ a1
 rotate_left
 ·rw [if_neg h2] at h; cases h
 rw [if_pos h2] at h
 by_cases h3 : a1 ≤ 65536
 rotate_left
 ·rw [if_neg h3] at h; cases h
 rw [if_pos h3] at h
 obtain rfl := Option.some.inj h
 obtain ⟨N, rfl⟩ := Int.eq_ofNat_of_zero_le h2
 have hN : N ≤ 65536 := by omega
 obtain ⟨ad, c, rfl, _, hK, hcell⟩ := Kd.C_get hr0 0 0 (by omega) (by omega)
 obtain ⟨x, rfl⟩ : ∃ x, l0 = [x] := by
  match l0, h1 with
  | [x], _ => exact ⟨x, rfl⟩
 have hcx : w.cell? ad = some (.int .i64 x) := by
  have hk : c = [.int .i64 x] := hK
  subst hk
  have := hcell 0 _ rfl
  simpa [Addr.add] using this
 have hmul := Aside0.mk (mul_one N hN)
 clear h h1 h2 h3 hcell hK hr0 hc0
 go_enter Try.func99, Try.ntmps99
 have hinfo : (Try.prog.info? 3).map (fun i => (i.zero, i.size, i.bytes)) = some (some (.int .i64 0), 1, 8) := by kernel_rfl
 obtain ⟨i0, hi, hz0, hz1, hz2⟩ := info_parts hinfo
 have HI := Aside0.mk hi
 have HZ0 := Aside0.mk hz0
 have HZ1 := Aside0.mk hz1
 have hz2b := Aside0.mk hz2
 clear hi hz0 hz1 hz2 hinfo
 have b2 : i0.bytes * N ≤ 281474976710656 := by rw [hz2b.out]; omega
 have b3 : N ≤ maxLen := by unfold maxLen; omega
 go_wp2_with (first | (go_at_call 110; refine (bits_Mul.calls 1 N 0 N _ hmul.out).mono ?_; rintro e w' ⟨rfl, ⟨nd, rfl⟩⟩) | ((with_reducible refine gate_dst (N := 30) rfl ?_); refine wpList_make_full _ rfl _ _ 46 rfl w.heap.size 3 i0 (.int .i64 0) 1 Try.underlying46 HI.out HZ0.out HZ1.out .i64 .i64 N N N rfl rfl rfl rfl b2 b3 (Nat.le_refl _) ?_; intro w1 hown hgr; have HBW := Aside0.mk ((pw_below_drewN (Below.refl w.heap.size w) _).grown hgr (Nat.le_refl _) nofun); have HB1 := Aside0.mk (own_block hown); clear hown hgr) | ((with_reducible refine gate_dst (N := 33) rfl ?_); refine wpList_copy_splice rfl _ _ 46 46 rfl 3 Try.underlying46 (by kernel_rfl) (some ⟨w.heap.size, 0, none⟩) (some ad) N N 1 c0 rfl rfl w.heap.size 0 _ 3 HB1.out (List.replicate (min 1 N) (.int .i64 x)) ?hn ?hpos ?hfit ?h1 w.heap.size w ?hb (Nat.le_refl _) ?_; (case hn => simp); (case hpos => exact fun _ => ⟨rfl, ad, rfl, one_src ((HBW.out.cell (World.block_lt_of_cell? w _ hcx)).trans hcx)⟩); (case hfit => exact made_fit _ N); (case h1 => exact one_all _ _); (case hb => exact HBW.out); intro w2 hh2 hb2; clear HB1 HBW))
 have hF := Aside0.mk (filled_splice (x := x) (m := 0) (L := (madeCells (Value.int .i64 0).cells (N * 1)).toList) ⟨by simp [size_madeCells], fun j hj => by omega⟩ (Nat.zero_le N) (min 1 N) (by omega))
 generalize splice (madeCells (Value.int .i64 0).cells (N * 1)).toList 0 (List.replicate (min 1 N) (.int .i64 x)) = L0 at hh2 hF
 go_loopw [8] (fun v8 wr => ∃ (m : Nat) (L : List Value), v8 = .int .i64 m ∧ m ≤ N ∧ (0 < N → 0 < m) ∧ Aside0 (Filled N m x L) ∧ Aside0 (wr.heap[w.heap.size]? = some (.cells L.toArray 3 (0, 0))) ∧ Aside0 (Below w.heap.size w wr)) (fun v8 _ => N - (intOf v8).toNat)
 case atStart => exact ⟨min 1 N, L0, by go_num, by omega, by omega, ⟨by have := hF.out; rw [Nat.zero_add] at this; exact this⟩, ⟨hh2⟩, ⟨hb2⟩⟩
 case round =>
  obtain ⟨m, L, rfl, hm, hpos, hF, HL, HB⟩ := hrel
  by_cases hlt : m < N
  rotate_left
  ·obtain rfl : m = N := by omega
   go_wp2_with fail
   go_ret
   exact ⟨_, rfl, by
    have e1 := filled_all hF.out
    have e2 := HL.out
    rw [e1] at e2
    have := R_of_block (base := w.heap.size) (Nat.le_refl _) (by simpa using b3) e2
    simpa [rd] using this, HB.out⟩
  have hlen := hF.out.1
  have hsl1 : m + min m (N - m) ≤ L.length := by omega
  have hne : Aside0 (¬ N = m) := ⟨by omega⟩
  have hcs := copy_src (c := min m (N - m)) HL.out hF.out (Nat.min_le_left _ _)
  go_wp2_with fail
  go_region_law (refine step_copy_splice rfl (.tmp 41) (.tmp 44) 46 46 rfl 3 Try.underlying46 (by kernel_rfl) (if N = m then some ⟨w.heap.size, 0, none⟩ else some ⟨w.heap.size, m, none⟩) (some ⟨w.heap.size, 0, none⟩) (N - m) (N - m) m N (by simp [Act.eval, Act.put]) (by simp [Act.eval, Act.put]) w.heap.size m L 3 HL.out (List.replicate (min m (N - m)) (.int .i64 x)) ?hn ?hpos ?hfit (one_all _ _) w.heap.size w HB.out.drew (Nat.le_refl _) ?_; (case hn => simp); (case hpos => exact fun _ => ⟨if_neg hne.out, _, rfl, hcs⟩); (case hfit => simpa using hsl1); intro w4 hh4 hb4)
  have hws : IntKind.i64.wrap ((m : Int) + ((min m (N - m) : Nat) : Int)) = ((m + min m (N - m) : Nat) : Int) := by rw [IntKind.wrap_i64]; omega
  simp only [hws]
  go_wp2_with fail
  go_roundw
  case rel => exact ⟨m + min m (N - m), by omega, by omega, by omega, splice L m (List.replicate (min m (N - m)) (.int .i64 x)), ⟨filled_splice hF.out hm (min m (N - m)) (by omega)⟩, ⟨hh4⟩, ⟨trivial⟩⟩
  case measure => have := hpos; simp [intOf]; omega

/-! ### impl_hopsOf_1: function 101 -/
def impl_hopsOf_1.f (a0_0 : Int) (a0_1 : Int) (a0_2 : Int) (a1_0 : Int) (a1_1 : Int) (a1_2 : Int) : Option (Int) := some (wrap64 (a0_1 - a1_1))
set_option maxHeartbeats 8000000 in
set_option maxRecDepth 100000 in
theorem impl_hopsOf_1.calls (a0_0 : Int) (a0_1 : Int) (a0_2 : Int) (a1_0 : Int) (a1_1 : Int) (a1_2 : Int) (r : Int) (w : World) (h : impl_hopsOf_1.f a0_0 a0_1 a0_2 a1_0 a1_1 a1_2 = some r) :
  Calls Try.prog 101 #[.agg #[.int .i64 a0_0, .int .i64 a0_1, .int .i64 a0_2], .agg #[.int .i64 a1_0, .int .i64 a1_1, .int .i64 a1_2]] w fun e w' => e = .returned (.int .i64 r) ∧ Below w.heap.size w w' := by
 have hu30 := Try.underlying30
 have HB := Aside0.mk (Below.refl w.heap.size w)
 have H : (some (wrap64 (a0_1 - a1_1))) = some r := h
 clear h
 obtain rfl := Option.some.inj H
 go_enter Try.func101, Try.ntmps101
 go_wp2_with (first | ((with_reducible refine gate_dst (N := 2) rfl ?_); refine be_ 2 #[.int .i64 a0_0, .int .i64 a0_1, .int .i64 a0_2] 30 ?_; intro gb454 hg w3 BK454 hb; have GW454 := ge_ HB hg; have GE454 := ge_ HB hg; replace HB := at_ HB hb; clear hb hg) | ((with_reducible refine gate_dst (N := 3) rfl ?_); refine be_ 3 #[.int .i64 a1_0, .int .i64 a1_1, .int .i64 a1_2] 30 ?_; intro gb455 hg w4 BK455 hb; have GW455 := ge_ HB hg; have GE455 := ge_ HB hg; have NB454_455 := nl_ BK454 hg; have NB455_454 := ng_ BK454 hg; replace HB := at_ HB hb; replace BK454 := ab_ BK454 hb; clear hb hg; have hnb5 := NB454_455.out; have hnc5 := NB455_454.out; have hcz6_0 := cz_ BK454 0 (.int .i64 a0_0); have hcz6_1 := cz_ BK454 1 (.int .i64 a0_1); have hcz6_2 := cz_ BK454 2 (.int .i64 a0_2); have hfz6_0 := fz_ BK454 0; have hfz6_1 := fz_ BK454 1; have hfz6_2 := fz_ BK454 2; have hcz7_0 := cz_ BK455 0 (.int .i64 a1_0); have hcz7_1 := cz_ BK455 1 (.int .i64 a1_1); have hcz7_2 := cz_ BK455 2 (.int .i64 a1_2); have hfz7_0 := fz_ BK455 0; have hfz7_1 := fz_ BK455 1; have hfz7_2 := fz_ BK455 2))
 go_ret
 exact ⟨by first | rfl | (simp [errW_none, errW_some] <;> rfl) | (simp [*, errW_none, errW_some] <;> rfl), bw112_⟩

end Go.Proofs.Ytjepmdngbafonaa.QFnSqueezed
