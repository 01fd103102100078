/- Contracts of functions that the law reaches: what each call returns and what it leaves in memory. Made by this session over the print of the kit. -/
import Derived.Test.YthmahcohcphljaaQFnCheapestx0
namespace Go.Proofs.Ythmahcohcphljaa.QFnCheapest
open Go.RowKit Go.Proofs.YthmahcohcphljaaC.PrintWords Go.Proofs.YthmahcohcphljaaC.PrintLast Go.Proofs.YthmahcohcphljaaC.PrintMore
attribute [local go_sem] max2_int min2_int max_two min_two max_three min_three max_four min_four
set_option linter.unusedVariables false
set_option linter.unusedSimpArgs false
def ba5_0 := bs_ 19 0
def ba5_1 := bs_ 19 1
def ba5_2 := bs_ 19 3
def ba5_3 := bs_ 19 11
def ba5_4 := bs_ 19 27
def ba5_5 := bs_ 19 283
def ba5_6 := bs_ 19 795
def ba5_7 := bs_ 19 8987
def ba5_8 := bs_ 19 8991
def ba5_9 := bs_ 19 9023
def ba5_10 := bs_ 19 9087
def ba5_11 := bs_ 19 9215
def ba5_12 := bs_ 19 10239
def ba5_13 := bs_ 19 12287
def ba5_14 := bs_ 19 16383
def ba5_15 := bs_ 19 32767
def ba5_16 := bs_ 19 65535
def ba5_17 := bs_ 19 131071
def ba5_18 := bs_ 19 262143
def ba5_19 := bs_ 19 524287
def bits_Mul32.f (a0 : Int) (a1 : Int) : Option (Int × Int) := some (((IntKind.u64.wrap ((IntKind.u64.wrap (a0)) * (IntKind.u64.wrap (a1)))) / 4294967296) % 4294967296, (IntKind.u64.wrap ((IntKind.u64.wrap (a0)) * (IntKind.u64.wrap (a1)))) % 4294967296)
def bits_Mul64.f (a0 : Int) (a1 : Int) : Option (Int × Int) := some (IntKind.u64.wrap ((IntKind.u64.wrap ((IntKind.u64.wrap ((a0 / 4294967296) * (a1 / 4294967296))) + ((IntKind.u64.wrap ((IntKind.u64.wrap ((a0 / 4294967296) * (Go.bits .and .u64 a1 4294967295))) + ((IntKind.u64.wrap ((Go.bits .and .u64 a0 4294967295) * (Go.bits .and .u64 a1 4294967295))) / 4294967296))) / 4294967296))) + ((IntKind.u64.wrap ((Go.bits .and .u64 (IntKind.u64.wrap ((IntKind.u64.wrap ((a0 / 4294967296) * (Go.bits .and .u64 a1 4294967295))) + ((IntKind.u64.wrap ((Go.bits .and .u64 a0 4294967295) * (Go.bits .and .u64 a1 4294967295))) / 4294967296))) 4294967295) + (IntKind.u64.wrap ((Go.bits .and .u64 a0 4294967295) * (a1 / 4294967296))))) / 4294967296)), IntKind.u64.wrap (a0 * a1))
set_option maxHeartbeats 8000000 in
set_option maxRecDepth 100000 in
theorem bits_Mul64.calls (a0 : Int) (a1 : Int) (r1 : Int) (r2 : Int) (w : World) (h : bits_Mul64.f a0 a1 = some (r1, r2)) :
  Calls Try.prog 106 #[.int .u64 a0, .int .u64 a1] w fun e w' => e = .returned (.tuple #[.int .u64 r1, .int .u64 r2]) ∧ Drawn0 w w' := by
 have H : (some (IntKind.u64.wrap ((IntKind.u64.wrap ((IntKind.u64.wrap ((a0 / 4294967296) * (a1 / 4294967296))) + ((IntKind.u64.wrap ((IntKind.u64.wrap ((a0 / 4294967296) * (Go.bits .and .u64 a1 4294967295))) + ((IntKind.u64.wrap ((Go.bits .and .u64 a0 4294967295) * (Go.bits .and .u64 a1 4294967295))) / 4294967296))) / 4294967296))) + ((IntKind.u64.wrap ((Go.bits .and .u64 (IntKind.u64.wrap ((IntKind.u64.wrap ((a0 / 4294967296) * (Go.bits .and .u64 a1 4294967295))) + ((IntKind.u64.wrap ((Go.bits .and .u64 a0 4294967295) * (Go.bits .and .u64 a1 4294967295))) / 4294967296))) 4294967295) + (IntKind.u64.wrap ((Go.bits .and .u64 a0 4294967295) * (a1 / 4294967296))))) / 4294967296)), IntKind.u64.wrap (a0 * a1))) = some (r1, r2) := h
 clear h
 simp only [Option.some.injEq, Prod.mk.injEq] at H
 obtain ⟨rfl, rfl⟩ := H
 go_enter Try.func106, Try.ntmps106
 go_wp2
 go_ret2
 exact ⟨by first | rfl | (simp; done) | (simp [*]; done), by repeat (first | exact Drawn0.refl _ | apply Drawn0.step)⟩
def bits_Mul.f (a0 : Int) (a1 : Int) : Option (Int × Int) := (bits_Mul64.f a0 a1).bind fun bt144 => (some (bt144.1, bt144.2))
set_option maxHeartbeats 8000000 in
set_option maxRecDepth 100000 in
theorem bits_Mul.calls (a0 : Int) (a1 : Int) (r1 : Int) (r2 : Int) (w : World) (h : bits_Mul.f a0 a1 = some (r1, r2)) :
  Calls Try.prog 99 #[.int .u64 a0, .int .u64 a1] w fun e w' => e = .returned (.tuple #[.int .u64 r1, .int .u64 r2]) ∧ Drawn0 w w' := by
 have H : ((bits_Mul64.f a0 a1).bind fun bt144 => (some (bt144.1, bt144.2))) = some (r1, r2) := h
 clear h
 obtain ⟨⟨t144, t145⟩, A3, H⟩ := ob_ H
 simp only [Option.some.injEq, Prod.mk.injEq] at H
 obtain ⟨rfl, rfl⟩ := H
 go_enter Try.func99, Try.ntmps99
 go_wp2_with ((with_reducible refine gate_callee (f := 106) rfl ?_); refine gl_ (some 25) Try.func106 #[.int .u64 a0, .int .u64 a1] ?_; (with_reducible refine (bits_Mul64.calls a0 a1 t144 t145 _ A3.out).mono ?_); rintro e w' ⟨rfl, ⟨nd, rfl⟩⟩; refine ⟨_, rfl, ?_⟩)
 go_ret2
 exact ⟨by first | rfl | (simp; done) | (simp [*]; done), by repeat (first | exact Drawn0.refl _ | apply Drawn0.step)⟩
def slices_Repeat_int_int.f (l0 : List Int) (a1 : Int) : Option (List Int) := if l0.length = 1 then (if 0 ≤ a1 then (if a1 ≤ 65536 then some (List.replicate a1.toNat (rd l0 0)) else none) else none) else none
set_option maxHeartbeats 8000000 in
set_option maxRecDepth 100000 in
theorem mul_one (n : Nat) (h : n ≤ 65536) : bits_Mul.f 1 n = some (0, (n : Int)) := by
 have e1 := and_small 1 (by omega)
 have e2 := and_small n h
 have e3 := and_small 0 (by omega)
 have u : ∀ m : Int, 0 ≤ m → m ≤ 4294967296 → IntKind.u64.wrap m = m := fun m h0 h1 => by simp [IntKind.wrap, IntKind.bits, IntKind.signed]; omega
 unfold bits_Mul.f bits_Mul64.f
 have c1 : (1 : Int) / 4294967296 = 0 := by decide
 have c2 : (n : Int) / 4294967296 = 0 := by omega
 have e1' : Go.bits .and .u64 1 4294967295 = 1 := e1
 have e3' : Go.bits .and .u64 0 4294967295 = 0 := e3
 simp only [Option.bind_some, c1, c2, e1', e2, Int.zero_mul, Int.mul_zero, Int.one_mul, u 0 (by omega) (by omega), u n (by omega) (by omega), Int.zero_add, Int.add_zero, Int.zero_ediv, e3']
set_option maxHeartbeats 1000000 in
theorem slices_Repeat_int_int.calls (A0 : Option Addr) (c0 : Nat) (l0 : List Int) (a1 : Int) (r : List Int) (w : World) (hr0 : Kd.C (Kd.int .i64) w A0 l0.length l0) (hc0 : l0.length ≤ c0) (h : slices_Repeat_int_int.f l0 a1 = some r) :
  Calls Try.prog 87 #[.slice A0 l0.length c0, .int .i64 a1] w fun e w' => ∃ v0_ : Value, e = .returned (v0_) ∧ Kd.R (Kd.int .i64) 3 w' w.heap.size (fun _ => True) v0_ r ∧ Below w.heap.size w w' := by
 unfold slices_Repeat_int_int.f at h
 by_cases h1 : l0.length = 1
 rotate_left
 ·rw [if_neg h1] at h; cases h
 rw [if_pos h1] at h
 by_cases h2 : 0 ≤ a1
 rotate_left
 ·rw [if_neg h2] at h; cases h
 rw [if_pos h2] at h
 by_cases h3 : a1 ≤ 65536
 rotate_left
 ·rw [if_neg h3] at h; cases h
 rw [if_pos h3] at h
 obtain rfl := Option.some.inj h
 obtain ⟨N, rfl⟩ := Int.eq_ofNat_of_zero_le h2
 have hN : N ≤ 65536 := by omega
 obtain ⟨ad, c, rfl, _, hK, hcell⟩ := Kd.C_get hr0 0 0 (by omega) (by omega)
 obtain ⟨x, rfl⟩ : ∃ x, l0 = [x] := by
  match l0, h1 with
  | [x], _ => exact ⟨x, rfl⟩
 have hcx : w.cell? ad = some (.int .i64 x) := by
  have hk : c = [.int .i64 x] := hK
  subst hk
  have := hcell 0 _ rfl
  simpa [Addr.add] using this
 have hmul := Aside0.mk (mul_one N hN)
 clear h h1 h2 h3 hcell hK hr0 hc0
 go_enter Try.func87, Try.ntmps87
 have hinfo : (Try.prog.info? 3).map (fun i => (i.zero, i.size, i.bytes)) = some (some (.int .i64 0), 1, 8) := by kernel_rfl
 obtain ⟨i0, hi, hz0, hz1, hz2⟩ := info_parts hinfo
 have HI := Aside0.mk hi
 have HZ0 := Aside0.mk hz0
 have HZ1 := Aside0.mk hz1
 have hz2b := Aside0.mk hz2
 clear hi hz0 hz1 hz2 hinfo
 have b2 : i0.bytes * N ≤ 281474976710656 := by rw [hz2b.out]; omega
 have b3 : N ≤ maxLen := by unfold maxLen; omega
 go_wp2_with (first | (go_at_call 99; refine (bits_Mul.calls 1 N 0 N _ hmul.out).mono ?_; rintro e w' ⟨rfl, ⟨nd, rfl⟩⟩) | ((with_reducible refine gate_dst (N := 30) rfl ?_); refine wpList_make_full _ rfl _ _ 26 rfl w.heap.size 3 i0 (.int .i64 0) 1 Try.underlying26 HI.out HZ0.out HZ1.out .i64 .i64 N N N rfl rfl rfl rfl b2 b3 (Nat.le_refl _) ?_; intro w1 hown hgr; have HBW := Aside0.mk ((pw_below_drewN (Below.refl w.heap.size w) _).grown hgr (Nat.le_refl _) nofun); have HB1 := Aside0.mk (own_block hown); clear hown hgr) | ((with_reducible refine gate_dst (N := 33) rfl ?_); refine wpList_copy_splice rfl _ _ 26 26 rfl 3 Try.underlying26 (by kernel_rfl) (some ⟨w.heap.size, 0, none⟩) (some ad) N N 1 c0 rfl rfl w.heap.size 0 _ 3 HB1.out (List.replicate (min 1 N) (.int .i64 x)) ?hn ?hpos ?hfit ?h1 w.heap.size w ?hb (Nat.le_refl _) ?_; (case hn => simp); (case hpos => exact fun _ => ⟨rfl, ad, rfl, one_src ((HBW.out.cell (World.block_lt_of_cell? w _ hcx)).trans hcx)⟩); (case hfit => exact made_fit _ N); (case h1 => exact one_all _ _); (case hb => exact HBW.out); intro w2 hh2 hb2; clear HB1 HBW))
 have hF := Aside0.mk (filled_splice (x := x) (m := 0) (L := (madeCells (Value.int .i64 0).cells (N * 1)).toList) ⟨by simp [size_madeCells], fun j hj => by omega⟩ (Nat.zero_le N) (min 1 N) (by omega))
 generalize splice (madeCells (Value.int .i64 0).cells (N * 1)).toList 0 (List.replicate (min 1 N) (.int .i64 x)) = L0 at hh2 hF
 go_loopw [8] (fun v8 wr => ∃ (m : Nat) (L : List Value), v8 = .int .i64 m ∧ m ≤ N ∧ (0 < N → 0 < m) ∧ Aside0 (Filled N m x L) ∧ Aside0 (wr.heap[w.heap.size]? = some (.cells L.toArray 3 (0, 0))) ∧ Aside0 (Below w.heap.size w wr)) (fun v8 _ => N - (intOf v8).toNat)
 case atStart => exact ⟨min 1 N, L0, by go_num, by omega, by omega, ⟨by have := hF.out; rw [Nat.zero_add] at this; exact this⟩, ⟨hh2⟩, ⟨hb2⟩⟩
 obtain ⟨m, L, rfl, hm, hpos, hF, HL, HB⟩ := hrel
 by_cases hlt : m < N
 rotate_left
 ·obtain rfl : m = N := by omega
  go_wp2_with fail
  go_ret
  exact ⟨_, rfl, by
   have e1 := filled_all hF.out
   have e2 := HL.out
   rw [e1] at e2
   have := R_of_block (base := w.heap.size) (Nat.le_refl _) (by simpa using b3) e2
   simpa [rd] using this, HB.out⟩
 have hlen := hF.out.1
 have hsl1 : m + min m (N - m) ≤ L.length := by omega
 have hne : Aside0 (¬ N = m) := ⟨by omega⟩
 have hcs := copy_src (c := min m (N - m)) HL.out hF.out (Nat.min_le_left _ _)
 go_wp2_with fail
 go_region_law (refine step_copy_splice rfl (.tmp 41) (.tmp 44) 26 26 rfl 3 Try.underlying26 (by kernel_rfl) (if N = m then some ⟨w.heap.size, 0, none⟩ else some ⟨w.heap.size, m, none⟩) (some ⟨w.heap.size, 0, none⟩) (N - m) (N - m) m N (by simp [Act.eval, Act.put]) (by simp [Act.eval, Act.put]) w.heap.size m L 3 HL.out (List.replicate (min m (N - m)) (.int .i64 x)) ?hn ?hpos ?hfit (one_all _ _) w.heap.size w HB.out.drew (Nat.le_refl _) ?_; (case hn => simp); (case hpos => exact fun _ => ⟨if_neg hne.out, _, rfl, hcs⟩); (case hfit => simpa using hsl1); intro w4 hh4 hb4)
 have hws : IntKind.i64.wrap ((m : Int) + ((min m (N - m) : Nat) : Int)) = ((m + min m (N - m) : Nat) : Int) := by rw [IntKind.wrap_i64]; omega
 simp only [hws]
 go_wp2_with fail
 go_roundw
 case rel => exact ⟨m + min m (N - m), by omega, by omega, by omega, splice L m (List.replicate (min m (N - m)) (.int .i64 x)), ⟨filled_splice hF.out hm (min m (N - m)) (by omega)⟩, ⟨hh4⟩, ⟨trivial⟩⟩
 case measure => have := hpos; simp [intOf]; omega
mutual
def impl_Graph_distances.l0 : Nat → List Int → Int → Int → Int → List (S76) → Option (List Int)
 | 0, _, _, _, _, _ => none
 | k + 1, x5, x16, x17, x147000, x147001 => if x17 < x16 then (impl_Graph_distances.l1 k x5 x16 x17 x147001 (x147001.length : Int) 0 x147000 x147001) else (some x5)
def impl_Graph_distances.l1 : Nat → List Int → Int → Int → List (S76) → Int → Int → Int → List (S76) → Option (List Int)
 | 0, _, _, _, _, _, _, _, _ => none
 | k + 1, x5, x16, x17, x20, x21, x22, x147000, x147001 => if x22 < x21 then (if 0 ≤ x22 then (if x22 < (x20.length : Int) then (if 0 ≤ ((rd_T76 x20 x22).f0) then (if ((rd_T76 x20 x22).f0) < (x5.length : Int) then (if (rd x5 ((rd_T76 x20 x22).f0)) < 1000000 then (if 0 ≤ ((rd_T76 x20 x22).f1) then (if ((rd_T76 x20 x22).f1) < (x5.length : Int) then (impl_Graph_distances.l1 k (x5.set (((rd_T76 x20 x22).f1) : Int).toNat (mn (rd x5 ((rd_T76 x20 x22).f1)) (wrap64 ((rd x5 ((rd_T76 x20 x22).f0)) + ((rd_T76 x20 x22).f2))))) x16 x17 x20 x21 (wrap64 (x22 + 1)) x147000 x147001) else (none)) else (none)) else (impl_Graph_distances.l1 k x5 x16 x17 x20 x21 (wrap64 (x22 + 1)) x147000 x147001)) else (none)) else (none)) else (none)) else (none)) else (impl_Graph_distances.l0 k x5 x16 (wrap64 (x17 + 1)) x147000 x147001)
end
def impl_Graph_distances.f (k : Nat) (a0_0 : Int) (l0_1 : List (S76)) (a1 : Int) : Option (List Int) := (slices_Repeat_int_int.f (([1000000] : List Int)) a0_0).bind fun t150 => (if 0 ≤ a1 then (if a1 < (t150.length : Int) then (impl_Graph_distances.l0 k (t150.set (a1 : Int).toNat 0) a0_0 0 a0_0 l0_1) else (none)) else (none))
def impl_Graph_distances.T9 : Bool × List (List Nat × List Nat) := (true, [([], []), ([], []), ([1], [1]), ([], []), ([], []), ([4], [4]), ([3, 5], [3, 5]), ([6], [6]), ([], []), ([], []), ([9], [9]), ([8, 10], [8, 10]), ([11], [11]), ([], []), ([13], [13]), ([12, 14], [12, 14]), ([7, 15], [7, 15]), ([0, 2, 0, 1, 2, 3, 4, 5, 6, 7, 8, 9, 10, 11, 12, 13, 14, 15, 16], [0, 2]), ([17, 16, 0, 1, 2, 3, 4, 5, 6, 7, 8, 9, 10, 11, 12, 13, 14, 15, 16], [16, 17])])
def impl_Graph_distances.B9 : List Nat := [0, 0, 2, 0, 0, 16, 56, 120, 0, 0, 512, 1792, 3840, 0, 8192, 32512, 65528, 131071, 262143]
theorem impl_Graph_distances.tab9 : rtab .any (opsOf Try.f73 9) = impl_Graph_distances.T9 := by kernel_rfl
theorem impl_Graph_distances.bits9 : waitsOk impl_Graph_distances.T9.2 impl_Graph_distances.B9 = true := by kernel_rfl
set_option maxHeartbeats 8000000 in
set_option maxRecDepth 100000 in
theorem impl_Graph_distances.calls (k : Nat) (a0_0 : Int) (A0_1 : Option Addr) (c0_1 : Nat) (l0_1 : List (S76)) (a1 : Int) (r : List Int) (w : World) (hr0_1 : Kd.C k76 w A0_1 l0_1.length l0_1) (hc0_1 : l0_1.length ≤ c0_1) (h : impl_Graph_distances.f k a0_0 l0_1 a1 = some r) :
  Calls Try.prog 73 #[.agg #[.int .i64 a0_0, .slice A0_1 l0_1.length c0_1], .int .i64 a1] w fun e w' => ∃ v0_ : Value, e = .returned (v0_) ∧ Kd.R (Kd.int .i64) 3 w' w.heap.size (fun _ => True) v0_ r ∧ Below w.heap.size w w' := by
 have hu30 := Try.underlying30
 have hu76 := Try.underlying76
 have HR0_1 := Aside0.mk hr0_1
 have HC0_1 := Aside0.mk hc0_1
 clear hr0_1 hc0_1
 have HB := Aside0.mk (Below.refl w.heap.size w)
 have H : ((slices_Repeat_int_int.f (([1000000] : List Int)) a0_0).bind fun t150 => (if 0 ≤ a1 then (if a1 < (t150.length : Int) then (impl_Graph_distances.l0 k (t150.set (a1 : Int).toNat 0) a0_0 0 a0_0 l0_1) else (none)) else (none))) = some r := h
 clear h
 obtain ⟨y147, hy147⟩ : ∃ y_ : List Int, y_ = (([1000000] : List Int)) := ⟨_, rfl⟩
 replace H : ((slices_Repeat_int_int.f y147 a0_0).bind fun t150 => (if 0 ≤ a1 then (if a1 < (t150.length : Int) then (impl_Graph_distances.l0 k (t150.set (a1 : Int).toNat 0) a0_0 0 a0_0 l0_1) else (none)) else (none))) = some r := by first | (rw [hy147]; with_reducible exact H) | (have H2_ := (Option.bind_some _ _).symm.trans H; rw [hy147]; with_reducible exact H2_) | (have H2_ := (Option.bind_some _ _).symm.trans H; with_reducible exact H2_) | with_reducible exact H | (rw [hy147]; exact H) | exact H
 have Ny147 := Aside0.mk hy147
 clear hy147
 obtain ⟨t150, A3, H⟩ := ob_ H
 obtain ⟨c4b0, H⟩ := iq_ H
 obtain ⟨c5b0, H⟩ := iq_ H
 obtain ⟨y153, hy153⟩ : ∃ y_ : List Int, y_ = (t150.set (a1 : Int).toNat 0) := ⟨_, rfl⟩
 replace H : (impl_Graph_distances.l0 k y153 a0_0 0 a0_0 l0_1) = some r := by first | (rw [hy153]; with_reducible exact H) | (have H2_ := (Option.bind_some _ _).symm.trans H; rw [hy153]; with_reducible exact H2_) | (have H2_ := (Option.bind_some _ _).symm.trans H; with_reducible exact H2_) | with_reducible exact H | (rw [hy153]; exact H) | exact H
 have Ny153 := Aside0.mk hy153
 clear hy153
 have H' := Aside0.mk H
 clear H
 go_enter Try.func73, Try.ntmps73
 go_wp2_with (first | ((with_reducible refine gate_dst (N := 2) rfl ?_); refine be_ 2 #[.int .i64 a0_0, .slice A0_1 l0_1.length c0_1] 30 ?_; intro gb146 hg w7 BK146 hb; have GW146 := ge_ HB hg; have GE146 := ge_ HB hg; replace HB := at_ HB hb; clear hb hg) | ((with_reducible refine gate_dst (N := 8) rfl ?_); refine Kd.R_lit (Kd.int .i64) _ 3 ?hg (N := 8) ?hd (xs := ([1000000] : List Int)) (inner := [.int .i64 1000000]) (ok := fun _ => True) (okp := fun _ => True) ?hr ?hp (fun _ hk => hk) trivial (Below.refl _ _) (Nat.le_refl _) (by simp) ?_; (case hd => rfl); (case hg => rfl); (case hr => first | (go_simp; done) | (go_simp; rfl)); (case hp => exact (Reps.one (show Kd.M (Kd.int .i64) _ _ _ 1000000 [.int .i64 1000000] from rfl) (Reps.none _ _))); intro v148 w8 ho9 hb hg_ hnew_; clear hg_ hnew_; (first | rw [← Ny147.out] at ho9 | (simp only [Int.reduceToNat] at ho9; rw [← Ny147.out] at ho9)); have HO149 := Aside0.mk (Kd.R_lower ho9 (bz_ HB)); replace BK146 := ab_ BK146 hb; replace HB := at_ HB hb; clear hb ho9; have hcz10_0 := cz_ BK146 0 (.int .i64 a0_0); have hcz10_1 := cz_ BK146 1 (.slice A0_1 l0_1.length c0_1); have hfz10_0 := fz_ BK146 0; have hfz10_1 := fz_ BK146 1; obtain ⟨Ao11, co11, eo11⟩ := Kd.R_slice HO149.out; subst eo11) | ((with_reducible refine gate_callee (f := 87) rfl ?_); refine gl_ (some 11) Try.func87 #[.slice Ao11 y147.length co11, .int .i64 a0_0] ?_; (with_reducible refine (slices_Repeat_int_int.calls _ _ y147 a0_0 t150 _ ?side1 ?side2 A3.out).mono ?_); (case side1 => exact rc_ HO149); (case side2 => exact (Kd.R_reads' HO149.out).2.1); rintro e w12 ⟨v151, rfl, ho0, hb⟩; refine ⟨_, rfl, ?_⟩; have HO152 := Aside0.mk (Kd.R_lower (Kd.R_new' ho0 (Kd.R_lt (hd_ HO149))) (bz_ HB)); replace HO149 := Aside0.mk (Kd.R_elder' (hd_ HO149) (Kd.R_base ho0) hb); replace BK146 := ab_ BK146 hb; replace HB := at_ HB hb; clear hb ho0; have p6 : 0 ≤ (a1 : Int) := oa_; have q6 : (a1 : Int) < ((t150.length : Int) : Int) := oa_; obtain ⟨go6, co6, eo6, gb6, gl6, cl6, HG6⟩ := Kd.R_form HO152.out (by omega); (first | cases eo6 | (injection eo6 with ea_ en_ ec_; (first | subst ea_ | (injection ea_ with ea_; subst ea_)); subst ec_; clear en_)); have GB6 := Aside0.mk gb6; have GG6 := Aside0.mk HG6; clear gb6 gl6 HG6; obtain ⟨hx6_0, hf6_0⟩ := Kd.R_celln 0 HO152.out (a1 : Int) p6 q6; obtain ⟨p6, q6⟩ := et_ p6 q6; have n_ := Aside0.mk (Kd.R_mono (ok' := (fun k_ => some k_ ≠ (.slice Ao11 y147.length co11 : Value).ownBlock)) HO152.out (fun k_ hk => hk.2)); clear HO152; have HO152 := n_; clear n_; obtain ⟨hy13_, hz13_⟩ := Kd.R_celln 0 HO152.out (a1 : Int) oa_ oa_; have HP13 := Kd.R_putg HO152.out (a1 : Int) 0) | ((with_reducible refine gate_store (t := 3) (p := 14) rfl ?_); refine store_event (t := 3) (p := 14) (v := ?vo_w14) (w1 := (w12.setCell ⟨go6, (a1 : Int).toNat, none⟩ (.int .i64 0))) ?hg ?ho ?hn ?hr ?_; (case ho => rfl); (case hg => rfl); (case hn => rfl); (case hr => first | (go_simp; done) | (go_simp; rfl)); intro w14 hw; have hg : w12.grownBy w14 (some go6) := (by rw [hw]; exact HP13.2); have hp_ : Kd.R (Kd.int .i64) 3 w14 w.heap.size (fun k_ => some k_ ≠ (.slice Ao11 y147.length co11 : Value).ownBlock) (.slice (some ⟨go6, 0, none⟩) t150.length co6) y153 := (by rw [hw, Ny153.out]; exact HP13.1); clear HP13; replace BK146 := Aside0.mk (blk_grown (g := gb146) (o := .cells #[.int .i64 a0_0, .slice A0_1 l0_1.length c0_1] 30 (0, 0)) (bx_ BK146) hg (Kd.R_ne HO152.out BK146.out (by decide))); replace HO149 := Aside0.mk (Kd.R_after (v := (.slice (some ⟨go6, 0, none⟩) t150.length co6)) (v1 := (.slice (some ⟨go6, 0, none⟩) t150.length co6)) (ok := (fun _ => True)) (hd_ HO149) hg (.inl rfl)); replace HO152 := Aside0.mk (hp_); replace HB := Aside0.mk ((by rw [hw]; exact below_set (HB.out) GB6.out : Below w.heap.size w w14)); clear hg hw hp_; have hcz15_0 := cz_ BK146 0 (.int .i64 a0_0); have hcz15_1 := cz_ BK146 1 (.slice A0_1 l0_1.length c0_1); have hfz15_0 := fz_ BK146 0; have hfz15_1 := fz_ BK146 1))
 (try simp only [Act.put, List.setIfInBounds_toArray, List.set_cons_zero, List.set_cons_succ])
 go_loopg [17] k (fun kq v17 w' => ∃ (x5_1 : List Int) (x17_1 : Int), v17 = .int .i64 x17_1 ∧ Aside0 (impl_Graph_distances.l0 kq x5_1 a0_0 x17_1 a0_0 l0_1 = some r) ∧ Aside0 (kq ≤ k) ∧ Aside0 (Kd.R (Kd.int .i64) 3 w' w.heap.size (fun _ => True) (.slice (some ⟨go6, 0, none⟩) t150.length co6) x5_1) ∧ Aside0 (w'.heap[gb146]? = some (.cells #[.int .i64 a0_0, (.slice A0_1 l0_1.length c0_1)] 30 (0, 0))) ∧ Aside0 (Below w.heap.size w w'))
 case atStart => exact ⟨(y153), (0), er_, H', ⟨Nat.le_refl _⟩, ⟨hq_ (Kd.R_mono HO152.out (fun _ hk => trivial))⟩, ⟨bx_ BK146⟩, ⟨bw_⟩⟩
 clear H' c4b0 c5b0 p6 q6 hcz10_0 hcz10_1 hcz15_0 hcz15_1 hfz10_0 hfz10_1 hfz15_0 hfz15_1 hx6_0
 clear p6 q6
 obtain ⟨x5_1, x17_1, rfl, HA, HK1, HO_5, BK146, HB⟩ := hrel
 have hl5_1 := (Kd.R_reads' HO_5.out).1
 rw [hl5_1] at HO_5
 (try simp only [hl5_1])
 (try simp only [hl5_1] at BK146)
 cases gk with
 | zero => exact absurd HA.out (by simp [impl_Graph_distances.l0])
 | succ k1 =>
  have H := HA.out
  clear HA
  simp only [impl_Graph_distances.l0] at H
  by_cases c16 : x17_1 < a0_0
  rotate_left
  ·rw [if_neg c16] at H
   have c16b0 : decide (x17_1 < a0_0) = false := decide_eq_false c16
   clear c16
   obtain rfl := Option.some.inj H
   go_wp2
   go_ret
   exact ⟨_, ew_, by (with_reducible repeat (first | apply Kd.R_alloc | apply Kd.R_drewN | apply Kd.R_drew)); exact HO_5.out, bw_⟩
  rw [if_pos c16] at H
  have c16b0 : decide (x17_1 < a0_0) = true := decide_eq_true c16
  clear c16
  have H' := Aside0.mk H
  clear H
  have hcz17_0 := cz_ BK146 0 (.int .i64 a0_0)
  have hcz17_1 := cz_ BK146 1 (.slice A0_1 l0_1.length c0_1)
  have hfz17_0 := fz_ BK146 0
  have hfz17_1 := fz_ BK146 1
  go_wp2
  go_loopg [22] k1 (fun kq v22 w' => ∃ (x5_2 : List Int) (x22_2 : Int), v22 = .int .i64 x22_2 ∧ Aside0 (impl_Graph_distances.l1 kq x5_2 a0_0 x17_1 l0_1 (l0_1.length : Int) x22_2 a0_0 l0_1 = some r) ∧ Aside0 (kq ≤ k1) ∧ Aside0 (Kd.R (Kd.int .i64) 3 w' w.heap.size (fun _ => True) (.slice (some ⟨go6, 0, none⟩) x5_1.length co6) x5_2) ∧ Aside0 (w'.heap[gb146]? = some (.cells #[.int .i64 a0_0, (.slice A0_1 l0_1.length c0_1)] 30 (0, 0))) ∧ Aside0 (Below w.heap.size w w'))
  case atStart => exact ⟨(x5_1), (0), er_, H', ⟨Nat.le_refl _⟩, ⟨by (try simp only [hl5_1]); (with_reducible repeat (first | apply Kd.R_alloc | apply Kd.R_drewN | apply Kd.R_drew)); exact HO_5.out⟩, ⟨by (try simp only [hl5_1]); refine bd_ ?_; exact BK146.out⟩, ⟨bw_⟩⟩
  clear H' c16b0 hcz17_0 hcz17_1 hfz17_0 hfz17_1
  obtain ⟨x5_2, x22_2, rfl, HA, HK2, HO_5, BK146, HB⟩ := hrel
  have hl5_2 := (Kd.R_reads' HO_5.out).1
  rw [hl5_2] at HO_5
  (try simp only [hl5_2])
  (try simp only [hl5_2] at BK146)
  cases gk with
  | zero => exact absurd HA.out (by simp [impl_Graph_distances.l1])
  | succ k2 =>
   have H := HA.out
   clear HA
   simp only [impl_Graph_distances.l1] at H
   by_cases c18 : x22_2 < (l0_1.length : Int)
   rotate_left
   ·rw [if_neg c18] at H
    have c18b0 : decide (x22_2 < (l0_1.length : Int)) = false := decide_eq_false c18
    (try simp only [hl5_1] at c18b0)
    (try simp only [hl5_2] at c18b0)
    clear c18
    have H' := Aside0.mk H
    clear H
    go_wp2
    (try simp only [← hl5_1, ← hl5_2])
    go_roundg k2
    case measure => have := HK1.out; have := HK2.out; omega
    case rel => exact ⟨(x5_2), (wrap64 (x17_1 + 1)), er_, H', ⟨by have := HK1.out; have := HK2.out; omega⟩, ⟨by (try simp only [hl5_1]); (try simp only [hl5_2]); (with_reducible repeat (first | apply Kd.R_alloc | apply Kd.R_drewN | apply Kd.R_drew)); exact HO_5.out⟩, ⟨by (try simp only [hl5_1]); (try simp only [hl5_2]); refine bd_ ?_; exact BK146.out⟩, ⟨bw_⟩⟩
   rw [if_pos c18] at H
   have c18b0 : decide (x22_2 < (l0_1.length : Int)) = true := decide_eq_true c18
   clear c18
   obtain ⟨c19b0, H⟩ := iq_ H
   obtain ⟨c20b0, H⟩ := iq_ H
   obtain ⟨c21b0, H⟩ := iq_ H
   obtain ⟨c22b0, H⟩ := iq_ H
   by_cases c23 : (rd x5_2 ((rd_T76 l0_1 x22_2).f0)) < 1000000
   rotate_left
   ·rw [if_neg c23] at H
    have c23b0 : decide ((rd x5_2 ((rd_T76 l0_1 x22_2).f0)) < 1000000) = false := decide_eq_false c23
    clear c23
    have H' := Aside0.mk H
    clear H
    have p154 : 0 ≤ (x22_2 : Int) := oa_
    have q154 : x22_2 < (l0_1.length : Int) := oa_
    obtain ⟨ad154, e154, hx154_0, hx154_1, hx154_2⟩ := at_T76 HR0_1.out x22_2 p154 q154
    cases e154
    replace hx154_0 := hc5_ HB hx154_0
    replace hx154_1 := hc5_ HB hx154_1
    replace hx154_2 := hc5_ HB hx154_2
    obtain ⟨p154, q154⟩ := et_ p154 q154
    go_wp2_with ((with_reducible refine gate_dst (N := 7) rfl ?_); refine be_ 7 #[.int .i64 0, .int .i64 0, .int .i64 0] 76 ?_; intro gb155 hg w34 BK155 hb; have GW155 := ge_ HB hg; have GE155 := ge_ HB hg; have NB146_155 := nl_ BK146 hg; have NB155_146 := ng_ BK146 hg; replace HO_5 := rb_ HO_5 hb; replace HB := at_ HB hb; replace BK146 := ab_ BK146 hb; clear hb hg; have hnb35 := NB155_146.out; have hnc35 := NB146_155.out; have hcz36_0 := cz_ BK155 0 (.int .i64 0); have hcz36_1 := cz_ BK155 1 (.int .i64 0); have hcz36_2 := cz_ BK155 2 (.int .i64 0); have hfz36_0 := fz_ BK155 0; have hfz36_1 := fz_ BK155 1; have hfz36_2 := fz_ BK155 2; have p156 : 0 ≤ (((rd_T76 l0_1 x22_2).f0) : Int) := oa_; have q156 : ((rd_T76 l0_1 x22_2).f0) < (x5_2.length : Int) := oa_; obtain ⟨ad156, e156, hx156_0⟩ := Kd.at_int (Kd.R_reads' HO_5.out).2.2 ((rd_T76 l0_1 x22_2).f0) p156 q156; obtain rfl : (⟨go6, 0, none⟩ : Addr) = ad156 := (by injection e156); (first | simp only [add_plain] at hx156_0 | simp only [add_at] at hx156_0 | simp only [Addr.add, Nat.zero_add] at hx156_0 | skip); have hn156_0 : (⟨go6, 0, none⟩ : Addr).block ≠ gb155 := Kd.own_blk (Kd.R_ne HO_5.out BK155.out (by decide)); have hn156_1 : (⟨go6, 0, none⟩ : Addr).block ≠ gb155 := Kd.own_blk (Kd.R_ne HO_5.out BK155.out (by decide)); have hn156_2 : (⟨go6, 0, none⟩ : Addr).block ≠ gb155 := Kd.own_blk (Kd.R_ne HO_5.out BK155.out (by decide)); replace hx156_0 := cf_ (p := ⟨gb155, 0, none⟩) (u := (.int .i64 ((rd_T76 l0_1 x22_2).f0))) hx156_0 hn156_0; replace hx156_0 := cf_ (p := ⟨gb155, 1, none⟩) (u := (.int .i64 ((rd_T76 l0_1 x22_2).f1))) hx156_0 hn156_1; replace hx156_0 := cf_ (p := ⟨gb155, 2, none⟩) (u := (.int .i64 ((rd_T76 l0_1 x22_2).f2))) hx156_0 hn156_2; clear hn156_0 hn156_1 hn156_2; obtain ⟨p156, q156⟩ := et_ p156 q156)
    (try simp only [← hl5_2])
    go_roundg k2
    case measure => have := HK1.out; have := HK2.out; omega
    case rel => exact ⟨(x5_2), (wrap64 (x22_2 + 1)), er_, H', ⟨by have := HK1.out; have := HK2.out; omega⟩, ⟨by (try simp only [hl5_1]); (try simp only [hl5_2]); (with_reducible repeat (first | apply Kd.R_alloc | apply Kd.R_drewN | apply Kd.R_drew)); exact Kd.R_mono (Kd.R_far (Kd.R_far (Kd.R_far (Kd.R_types HO_5.out BK155.out (by decide)) (fun _ hk => hk.2) _) (fun _ hk => hk.2) _) (fun _ hk => hk.2) _) (fun _ hk => trivial)⟩, ⟨by (try simp only [hl5_1]); (try simp only [hl5_2]); refine bd_ ?_; refine blk_far ?_ NB146_155.out _; refine bd_ ?_; refine blk_far ?_ NB146_155.out _; refine bd_ ?_; refine blk_far ?_ NB146_155.out _; refine bd_ ?_; exact BK146.out⟩, ⟨bw_⟩⟩
   rw [if_pos c23] at H
   have c23b0 : decide ((rd x5_2 ((rd_T76 l0_1 x22_2).f0)) < 1000000) = true := decide_eq_true c23
   clear c23
   obtain ⟨c24b0, H⟩ := iq_ H
   obtain ⟨c25b0, H⟩ := iq_ H
   obtain ⟨ji26, hji26⟩ : ∃ j_ : Int, (mn (rd x5_2 ((rd_T76 l0_1 x22_2).f1)) (wrap64 ((rd x5_2 ((rd_T76 l0_1 x22_2).f0)) + ((rd_T76 l0_1 x22_2).f2)))) = j_ := ⟨_, rfl⟩
   first | rw [hji26] at H | simp only [hji26] at H
   have hji26_ : (if (wrap64 ((rd x5_2 ((rd_T76 l0_1 x22_2).f0)) + ((rd_T76 l0_1 x22_2).f2))) < (rd x5_2 ((rd_T76 l0_1 x22_2).f1)) then (wrap64 ((rd x5_2 ((rd_T76 l0_1 x22_2).f0)) + ((rd_T76 l0_1 x22_2).f2))) else (rd x5_2 ((rd_T76 l0_1 x22_2).f1))) = ji26 := hji26
   obtain ⟨y159, hy159⟩ : ∃ y_ : List Int, y_ = (x5_2.set (((rd_T76 l0_1 x22_2).f1) : Int).toNat (ji26)) := ⟨_, rfl⟩
   replace H : (impl_Graph_distances.l1 k2 y159 a0_0 x17_1 l0_1 (l0_1.length : Int) (wrap64 (x22_2 + 1)) a0_0 l0_1) = some r := by first | (rw [hy159]; with_reducible exact H) | (have H2_ := (Option.bind_some _ _).symm.trans H; rw [hy159]; with_reducible exact H2_) | (have H2_ := (Option.bind_some _ _).symm.trans H; with_reducible exact H2_) | with_reducible exact H | (rw [hy159]; exact H) | exact H
   have Ny159 := Aside0.mk hy159
   clear hy159
   have H' := Aside0.mk H
   clear H
   have p154 : 0 ≤ (x22_2 : Int) := oa_
   have q154 : x22_2 < (l0_1.length : Int) := oa_
   obtain ⟨ad154, e154, hx154_0, hx154_1, hx154_2⟩ := at_T76 HR0_1.out x22_2 p154 q154
   cases e154
   replace hx154_0 := hc5_ HB hx154_0
   replace hx154_1 := hc5_ HB hx154_1
   replace hx154_2 := hc5_ HB hx154_2
   obtain ⟨p154, q154⟩ := et_ p154 q154
   try go_wp2_with ((with_reducible refine gate_dst (N := 7) rfl ?_); refine be_ 7 #[.int .i64 0, .int .i64 0, .int .i64 0] 76 ?_; intro gb155 hg w28 BK155 hb; have GW155 := ge_ HB hg; have GE155 := ge_ HB hg; have NB146_155 := nl_ BK146 hg; have NB155_146 := ng_ BK146 hg; replace HO_5 := rb_ HO_5 hb; replace HB := at_ HB hb; replace BK146 := ab_ BK146 hb; clear hb hg; have hnb29 := NB155_146.out; have hnc29 := NB146_155.out; have hcz30_0 := cz_ BK155 0 (.int .i64 0); have hcz30_1 := cz_ BK155 1 (.int .i64 0); have hcz30_2 := cz_ BK155 2 (.int .i64 0); have hfz30_0 := fz_ BK155 0; have hfz30_1 := fz_ BK155 1; have hfz30_2 := fz_ BK155 2; have p156 : 0 ≤ (((rd_T76 l0_1 x22_2).f0) : Int) := oa_; have q156 : ((rd_T76 l0_1 x22_2).f0) < (x5_2.length : Int) := oa_; obtain ⟨ad156, e156, hx156_0⟩ := Kd.at_int (Kd.R_reads' HO_5.out).2.2 ((rd_T76 l0_1 x22_2).f0) p156 q156; obtain rfl : (⟨go6, 0, none⟩ : Addr) = ad156 := (by injection e156); (first | simp only [add_plain] at hx156_0 | simp only [add_at] at hx156_0 | simp only [Addr.add, Nat.zero_add] at hx156_0 | skip); have hn156_0 : (⟨go6, 0, none⟩ : Addr).block ≠ gb155 := Kd.own_blk (Kd.R_ne HO_5.out BK155.out (by decide)); have hn156_1 : (⟨go6, 0, none⟩ : Addr).block ≠ gb155 := Kd.own_blk (Kd.R_ne HO_5.out BK155.out (by decide)); have hn156_2 : (⟨go6, 0, none⟩ : Addr).block ≠ gb155 := Kd.own_blk (Kd.R_ne HO_5.out BK155.out (by decide)); replace hx156_0 := cf_ (p := ⟨gb155, 0, none⟩) (u := (.int .i64 ((rd_T76 l0_1 x22_2).f0))) hx156_0 hn156_0; replace hx156_0 := cf_ (p := ⟨gb155, 1, none⟩) (u := (.int .i64 ((rd_T76 l0_1 x22_2).f1))) hx156_0 hn156_1; replace hx156_0 := cf_ (p := ⟨gb155, 2, none⟩) (u := (.int .i64 ((rd_T76 l0_1 x22_2).f2))) hx156_0 hn156_2; clear hn156_0 hn156_1 hn156_2; obtain ⟨p156, q156⟩ := et_ p156 q156)
   generalize hW_ : (((w28.setCell ⟨gb155, 0, none⟩ (.int .i64 ((rd_T76 l0_1 x22_2).f0))).setCell ⟨gb155, 1, none⟩ (.int .i64 ((rd_T76 l0_1 x22_2).f1))).setCell ⟨gb155, 2, none⟩ (.int .i64 ((rd_T76 l0_1 x22_2).f2))) = w31
   have n0_ : Aside0 (Kd.R (Kd.int .i64) 3 w31 w.heap.size (fun _ => True) (.slice (some ⟨go6, 0, none⟩) x5_2.length co6) x5_2) := by subst hW_; exact ⟨hq_ (Kd.R_mono (Kd.R_far (Kd.R_far (Kd.R_far (Kd.R_types HO_5.out BK155.out (by decide)) (fun _ hk => hk.2) _) (fun _ hk => hk.2) _) (fun _ hk => hk.2) _) (fun _ hk => trivial))⟩
   have n1_ : Aside0 (w31.heap[gb146]? = some (.cells #[.int .i64 a0_0, .slice (some ad154) l0_1.length c0_1] 30 (0, 0))) := by subst hW_; exact ⟨bc_ BK146⟩
   have n2_ : Aside0 (w31.heap[gb155]? = some (.cells #[.int .i64 ((rd_T76 l0_1 x22_2).f0), .int .i64 ((rd_T76 l0_1 x22_2).f1), .int .i64 ((rd_T76 l0_1 x22_2).f2)] 76 (0, 0))) := by subst hW_; exact ⟨by refine bd_ ?_; refine blk_put (cs := #[.int .i64 ((rd_T76 l0_1 x22_2).f0), .int .i64 ((rd_T76 l0_1 x22_2).f1), .int .i64 0]) ?_ 2 _ rfl; refine bd_ ?_; refine blk_put (cs := #[.int .i64 ((rd_T76 l0_1 x22_2).f0), .int .i64 0, .int .i64 0]) ?_ 1 _ rfl; refine bd_ ?_; refine blk_put (cs := #[.int .i64 0, .int .i64 0, .int .i64 0]) ?_ 0 _ rfl; refine bd_ ?_; exact BK155.out⟩
   have n3_ : Aside0 (Below w.heap.size w w31) := by subst hW_; exact ⟨bw_⟩
   clear hW_ HO_5 BK146 BK155 HB
   have HO_5 := n0_
   have BK146 := n1_
   have BK155 := n2_
   have HB := n3_
   clear n0_ n1_ n2_ n3_
   replace HO_5 := rw5_ HO_5
   replace BK146 := ad_ BK146
   replace BK155 := ad_ BK155
   replace HB := Aside0.mk (below_drew1 HB.out)
   have p157 : 0 ≤ (((rd_T76 l0_1 x22_2).f1) : Int) := oa_
   have q157 : ((rd_T76 l0_1 x22_2).f1) < (x5_2.length : Int) := oa_
   obtain ⟨ad157, e157, hx157_0⟩ := Kd.at_int (Kd.R_reads' HO_5.out).2.2 ((rd_T76 l0_1 x22_2).f1) p157 q157
   obtain rfl : (⟨go6, 0, none⟩ : Addr) = ad157 := (by injection e157)
   simp only [add_plain] at hx157_0
   obtain ⟨p157, q157⟩ := et_ p157 q157
   have p158 : 0 ≤ (((rd_T76 l0_1 x22_2).f0) : Int) := oa_
   have q158 : ((rd_T76 l0_1 x22_2).f0) < (x5_2.length : Int) := oa_
   obtain ⟨ad158, e158, hx158_0⟩ := Kd.at_int (Kd.R_reads' HO_5.out).2.2 ((rd_T76 l0_1 x22_2).f0) p158 q158
   obtain rfl : (⟨go6, 0, none⟩ : Addr) = ad158 := (by injection e158)
   simp only [add_plain] at hx158_0
   obtain ⟨p158, q158⟩ := et_ p158 q158
   have p27 : 0 ≤ (((rd_T76 l0_1 x22_2).f1) : Int) := oa_
   have q27 : (((rd_T76 l0_1 x22_2).f1) : Int) < ((x5_2.length : Int) : Int) := oa_
   obtain ⟨hx27_0, hf27_0⟩ := Kd.R_celln 0 HO_5.out (((rd_T76 l0_1 x22_2).f1) : Int) p27 q27
   obtain ⟨p27, q27⟩ := et_ p27 q27
   have HP33 := Kd.R_putn HO_5.out (((rd_T76 l0_1 x22_2).f1) : Int) ji26
   rw [← Ny159.out] at HP33
   have HQ33 := Aside0.mk HP33
   clear HP33
   refine start_ (n := 19) (S := fun w' => w'.cell? ⟨gb155, 0, none⟩ = some (.int .i64 ((rd_T76 l0_1 x22_2).f0)) ∧ w'.cell? ⟨gb155, 1, none⟩ = some (.int .i64 ((rd_T76 l0_1 x22_2).f1)) ∧ w'.cell? ⟨gb155, 2, none⟩ = some (.int .i64 ((rd_T76 l0_1 x22_2).f2)) ∧ w'.cell? ⟨go6, (((rd_T76 l0_1 x22_2).f1)).toNat, none⟩ = some (.int .i64 (rd x5_2 ((rd_T76 l0_1 x22_2).f1))) ∧ w'.cell? ⟨go6, (((rd_T76 l0_1 x22_2).f0)).toNat, none⟩ = some (.int .i64 (rd x5_2 ((rd_T76 l0_1 x22_2).f0)))) (ds := [18]) ba5_0 (by kernel_rfl) rfl rfl ⟨bq5_ BK155 0, bq5_ BK155 1, bq5_ BK155 2, hx157_0, hx158_0⟩ (fun hHeld => ?_); refine with_tabW impl_Graph_distances.tab9 impl_Graph_distances.bits9 (fun HT_ HW_ => ?_)
   generalize w31.drew = w32 at HO_5 BK146 BK155 HB HQ33 hf27_0 hx157_0 hx158_0 hx27_0 hHeld ⊢
   refine pz_ 0 32 ba5_1 HT_ ?_
   refine pz_ 1 33 ba5_2 HT_ ?_
   refine pz_ 3 35 ba5_3 HT_ ?_
   refine pz_ 4 36 ba5_4 HT_ ?_
   refine pz_ 8 40 ba5_5 HT_ ?_
   refine pz_ 9 41 ba5_6 HT_ ?_
   refine pz_ 13 45 ba5_7 HT_ ?_
   refine pt_ 2 34 ba5_8 HT_ HW_ hHeld ?_
   refine pt_ 5 37 ba5_9 HT_ HW_ hHeld ?_
   refine pz_ 6 38 ba5_10 HT_ ?_
   refine pt_ 7 39 ba5_11 HT_ HW_ hHeld ?_
   refine pt_ 10 42 ba5_12 HT_ HW_ hHeld ?_
   refine pz_ 11 43 ba5_13 HT_ ?_
   refine pt_ 12 44 ba5_14 HT_ HW_ hHeld ?_
   refine pt_ 14 46 ba5_15 HT_ HW_ hHeld ?_
   refine pz_ 15 47 ba5_16 HT_ ?_
   refine pz_ 16 48 ba5_17 HT_ ?_
   refine pz_ 17 49 ba5_18 HT_ ?_
   refine last_ (i := 18) (N := none) ba5_19 rfl rfl (one_of HT_.out (by kernel_rfl)) (by decide) (fun K hK => ?_)
   refine skip_ (w1 := ?_) (by rfl) rfl ?_ ?_
   rotate_left; · go_simp; rfl
   refine hK.out _ _ ?_
   clear hK K
   refine done_ (done_of HT_.out (by kernel_rfl)) ?_
   go_wp2
   (try simp only [← hl5_2])
   go_roundg k2
   case measure => have := HK1.out; have := HK2.out; omega
   case rel => exact ⟨(y159), (wrap64 (x22_2 + 1)), er_, H', ⟨by have := HK1.out; have := HK2.out; omega⟩, ⟨by (try simp only [hl5_1]); (try simp only [hl5_2]); (with_reducible repeat (first | apply Kd.R_alloc | apply Kd.R_drewN | apply Kd.R_drew)); exact HQ33.out⟩, ⟨by (try simp only [hl5_1]); (try simp only [hl5_2]); refine bd_ ?_; refine blk_far ?_ (by have h_ := Kd.R_ne HO_5.out BK146.out (by decide); intro e_; exact h_ (by rw [e_]; rfl)) _; refine bd_ ?_; exact BK146.out⟩, ⟨by repeat (first | (with_reducible first | exact HB.out | apply below_alloc | apply pw_below_drewN | apply below_drew1 | refine below_set ?_ GB6.out | refine below_set ?_ GE146.out | refine below_set ?_ GE155.out) | exact HB.out)⟩⟩
def impl_Graph_all.l0 : Nat → List (List Int) → Int → Int → Int → List (S76) → Option ((List (List Int)))
 | 0, _, _, _, _, _ => none
 | k + 1, x3, x7, x8, x161000, x161001 => if x8 < x7 then ((impl_Graph_distances.f k x161000 x161001 x8).bind fun t164 => (if x3.length < 5864062014805 then (impl_Graph_all.l0 k (x3 ++ [t164]) x7 (wrap64 (x8 + 1)) x161000 x161001) else (none))) else (some x3)
def impl_Graph_all.f (k : Nat) (a0_0 : Int) (l0_1 : List (S76)) : Option ((List (List Int))) := impl_Graph_all.l0 k (([] : List (List Int))) a0_0 0 a0_0 l0_1
set_option maxHeartbeats 8000000 in
set_option maxRecDepth 100000 in
theorem impl_Graph_all.calls (k : Nat) (a0_0 : Int) (A0_1 : Option Addr) (c0_1 : Nat) (l0_1 : List (S76)) (r : List (List Int)) (w : World) (hr0_1 : Kd.C k76 w A0_1 l0_1.length l0_1) (hc0_1 : l0_1.length ≤ c0_1) (h : impl_Graph_all.f k a0_0 l0_1 = some r) :
  Calls Try.prog 55 #[.agg #[.int .i64 a0_0, .slice A0_1 l0_1.length c0_1]] w fun e w' => ∃ v0_ : Value, e = .returned (v0_) ∧ Kd.S (Kd.slice 3 (Kd.int .i64)) 26 w' w.heap.size (fun _ => True) v0_ r ∧ Below w.heap.size w w' := by
 have hu30 := Try.underlying30
 have HR0_1 := Aside0.mk hr0_1
 have HC0_1 := Aside0.mk hc0_1
 clear hr0_1 hc0_1
 have HB := Aside0.mk (Below.refl w.heap.size w)
 have H : (impl_Graph_all.l0 k (([] : List (List Int))) a0_0 0 a0_0 l0_1) = some r := h
 clear h
 obtain ⟨y161, hy161⟩ : ∃ y_ : List (List Int), y_ = (([] : List (List Int))) := ⟨_, rfl⟩
 replace H : (impl_Graph_all.l0 k y161 a0_0 0 a0_0 l0_1) = some r := by first | (rw [hy161]; with_reducible exact H) | (have H2_ := (Option.bind_some _ _).symm.trans H; rw [hy161]; with_reducible exact H2_) | (have H2_ := (Option.bind_some _ _).symm.trans H; with_reducible exact H2_) | with_reducible exact H | (rw [hy161]; exact H) | exact H
 have Ny161 := Aside0.mk hy161
 clear hy161
 have H' := Aside0.mk H
 clear H
 go_enter Try.func55, Try.ntmps55
 go_wp2_with (first | ((with_reducible refine gate_dst (N := 1) rfl ?_); refine be_ 1 #[.int .i64 a0_0, .slice A0_1 l0_1.length c0_1] 30 ?_; intro gb160 hg w2 BK160 hb; have GW160 := ge_ HB hg; have GE160 := ge_ HB hg; replace HB := at_ HB hb; clear hb hg) | ((with_reducible refine gate_dst (N := 5) rfl ?_); refine Kd.S_lit (Kd.slice 3 (Kd.int .i64)) _ 26 ?hg (N := 5) ?hd (xs := ([] : List (List Int))) (inner := []) (ok := fun _ => True) (okp := fun _ => True) ?hr ?hp (fun _ hk => hk) trivial (Below.refl _ _) (Nat.le_refl _) (by simp) ?_; (case hd => rfl); (case hg => rfl); (case hr => first | (go_simp; done) | (go_simp; rfl)); (case hp => exact (Reps.none _ _)); intro v162 w3 ho4 hb hg_ hnew_; clear hg_ hnew_; (first | rw [← Ny161.out] at ho4 | (simp only [Int.reduceToNat] at ho4; rw [← Ny161.out] at ho4)); have HO163 := Aside0.mk (Kd.S_lower ho4 (bz_ HB)); replace BK160 := ab_ BK160 hb; replace HB := at_ HB hb; clear hb ho4; have hcz5_0 := cz_ BK160 0 (.int .i64 a0_0); have hcz5_1 := cz_ BK160 1 (.slice A0_1 l0_1.length c0_1); have hfz5_0 := fz_ BK160 0; have hfz5_1 := fz_ BK160 1))
 go_loopg [3, 8] k (fun kq v3 v8 w' => ∃ (x3_1 : List (List Int)) (x8_1 : Int), v8 = .int .i64 x8_1 ∧ Aside0 (impl_Graph_all.l0 kq x3_1 a0_0 x8_1 a0_0 l0_1 = some r) ∧ Aside0 (kq ≤ k) ∧ Aside0 (Kd.S (Kd.slice 3 (Kd.int .i64)) 26 w' w.heap.size (fun _ => True) v3 x3_1) ∧ Aside0 (w'.heap[gb160]? = some (.cells #[.int .i64 a0_0, (.slice A0_1 l0_1.length c0_1)] 30 (0, 0))) ∧ Aside0 (Below w.heap.size w w'))
 case atStart => exact ⟨(y161), (0), er_, H', ⟨Nat.le_refl _⟩, ⟨hS_ HO163⟩, ⟨bx_ BK160⟩, ⟨bw_⟩⟩
 clear H' hcz5_0 hcz5_1 hfz5_0 hfz5_1
 obtain ⟨x3_1, x8_1, rfl, HA, HK1, HO_3, BK160, HB⟩ := hrel
 cases gk with
 | zero => exact absurd HA.out (by simp [impl_Graph_all.l0])
 | succ k1 =>
  have H := HA.out
  clear HA
  simp only [impl_Graph_all.l0] at H
  by_cases c6 : x8_1 < a0_0
  rotate_left
  ·rw [if_neg c6] at H
   have c6b0 : decide (x8_1 < a0_0) = false := decide_eq_false c6
   clear c6
   obtain rfl := Option.some.inj H
   go_wp2
   go_ret
   exact ⟨_, ew_, by (with_reducible repeat (first | apply Kd.S_alloc | apply Kd.S_drewN | apply Kd.S_drew)); exact HO_3.out, bw_⟩
  rw [if_pos c6] at H
  have c6b0 : decide (x8_1 < a0_0) = true := decide_eq_true c6
  clear c6
  obtain ⟨t164, A7, H⟩ := ob_ H
  by_cases c8 : x3_1.length < 5864062014805
  rotate_left
  ·rw [if_neg c8] at H
   exact absurd H (by simp)
  rw [if_pos c8] at H
  have LMc8 := Aside0.mk c8
  clear c8
  obtain ⟨y167, hy167⟩ : ∃ y_ : List (List Int), y_ = (x3_1 ++ [t164]) := ⟨_, rfl⟩
  replace H : (impl_Graph_all.l0 k1 y167 a0_0 (wrap64 (x8_1 + 1)) a0_0 l0_1) = some r := by first | (rw [hy167]; with_reducible exact H) | (have H2_ := (Option.bind_some _ _).symm.trans H; rw [hy167]; with_reducible exact H2_) | (have H2_ := (Option.bind_some _ _).symm.trans H; with_reducible exact H2_) | with_reducible exact H | (rw [hy167]; exact H) | exact H
  have Ny167 := Aside0.mk hy167
  clear hy167
  have H' := Aside0.mk H
  clear H
  have hcz9_0 := cz_ BK160 0 (.int .i64 a0_0)
  have hcz9_1 := cz_ BK160 1 (.slice A0_1 l0_1.length c0_1)
  have hfz9_0 := fz_ BK160 0
  have hfz9_1 := fz_ BK160 1
  go_wp2_with (first | ((with_reducible refine gate_callee (f := 73) rfl ?_); refine gl_ (some 14) Try.func73 #[.agg #[.int .i64 a0_0, .slice A0_1 l0_1.length c0_1], .int .i64 x8_1] ?_; (with_reducible refine (impl_Graph_distances.calls k1 a0_0 _ _ l0_1 x8_1 t164 _ ?side1 ?side2 A7.out).mono ?_); (case side1 => exact cb_ HR0_1 HB); (case side2 => exact HC0_1.out); rintro e w10 ⟨v165, rfl, ho0, hb⟩; refine ⟨_, rfl, ?_⟩; have HO166 := Aside0.mk (Kd.R_lower ho0 (bz_ HB)); replace HO_3 := Aside0.mk (Kd.S_elder' (hS_ HO_3) (Kd.R_base ho0) hb); replace BK160 := ab_ BK160 hb; replace HB := at_ HB hb; clear hb ho0; obtain ⟨Ao12, co12, eo12⟩ := Kd.R_slice HO166.out; subst eo12) | ((with_reducible refine gate_builtin (b := .append) (xs := #[.tmp 11, .tmp 15]) rfl ?_); at_builtin; refine Kd.S_append (Kd.slice 3 (Kd.int .i64)) (w0 := w) w.heap.size rfl (.tmp 11) (.tmp 15) 45 26 (.slice none 0 0) 24 rfl Try.underlying45 info26 rfl (by decide) (by omega) u3 x3_1 t164 [.slice Ao12 t164.length co12] (fun _ => True) (fun k_ => some k_ = (.slice Ao12 t164.length co12 : Value).ownBlock) rfl rfl ?aP (fun k_ hk_ => ((Kd.R_mono (ok' := fun k_ => ((fun _ => True)) k_ ∧ some k_ ≠ (u3 : Value).ownBlock) (Kd.R_apart' (HO166.out) (Kd.S_typed HO_3.out) (by decide)) (fun k_ hk => ⟨trivial, hk.2⟩))).1 k_ hk_.symm) ?aF ?aO ?aB ?aS ?aL ?_; (case aP => exact Kd.M_row (Kd.R_mono (Kd.R_tight rfl (Kd.R_mono (ok' := fun k_ => ((fun _ => True)) k_ ∧ some k_ ≠ (u3 : Value).ownBlock) (Kd.R_apart' (HO166.out) (Kd.S_typed HO_3.out) (by decide)) (fun k_ hk => ⟨trivial, hk.2⟩))) (fun _ h_ => h_))); (case aB => exact (bw_)); (case aF => exact (fun _ _ => trivial)); (case aO => exact (by (with_reducible repeat (first | apply Kd.S_alloc | apply Kd.S_drewN | apply Kd.S_drew)); exact Kd.S_mono HO_3.out (fun k_ hk => ⟨trivial, fun e_ => hk.2 e_⟩))); (case aS => exact (bz_ HB)); (case aL => have := LMc8.out; omega); intro v168 w11 ho hb hg hat; rw [← Ny167.out] at ho; have HO169 := Aside0.mk ho; replace BK160 := Aside0.mk (blk_grown (g := gb160) (o := .cells #[.int .i64 a0_0, .slice A0_1 l0_1.length c0_1] 30 (0, 0)) (bx_ BK160) hg (Kd.S_ne HO_3.out BK160.out (by decide))); replace HB := Aside0.mk (hb); clear HO_3 HO166 ho hb hg hat))
  go_roundg k1
  case measure => have := HK1.out; omega
  case rel => exact ⟨(y167), (wrap64 (x8_1 + 1)), er_, H', ⟨by have := HK1.out; omega⟩, ⟨hS_ HO169⟩, ⟨bx_ BK160⟩, ⟨bw_⟩⟩
end Go.Proofs.Ythmahcohcphljaa.QFnCheapest
