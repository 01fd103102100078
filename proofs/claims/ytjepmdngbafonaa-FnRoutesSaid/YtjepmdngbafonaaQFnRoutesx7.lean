/- Contracts of functions that the law reaches: what each call returns and what it leaves in memory. Made by this session over the print of the kit. -/
import Derived.Test.YtjepmdngbafonaaQFnRoutesx0
import Derived.Test.YtjepmdngbafonaaQFnRoutesx2
import Derived.Test.YtjepmdngbafonaaQFnRoutesx6
namespace Go.Proofs.Ytjepmdngbafonaa.QFnRoutes
open Go.RowKit Go.Proofs.YtjepmdngbafonaaR.PrintWords Go.Proofs.YtjepmdngbafonaaR.PrintLast Go.Proofs.YtjepmdngbafonaaR.PrintMore
attribute [local go_sem] max2_int min2_int max_two min_two max_three min_three max_four min_four   -- for this text's walks alone
set_option linter.unusedVariables false
set_option linter.unusedSimpArgs false
def ba7_0 : Array Bool := bs_ 10 0
def ba7_1 : Array Bool := bs_ 10 1
def ba7_2 : Array Bool := bs_ 10 5
def ba7_3 : Array Bool := bs_ 10 21
def ba7_4 : Array Bool := bs_ 10 23
def ba7_5 : Array Bool := bs_ 10 31
def ba7_6 : Array Bool := bs_ 10 63
def ba7_7 : Array Bool := bs_ 10 127
def ba7_8 : Array Bool := bs_ 10 255
def ba7_9 : Array Bool := bs_ 10 511
def ba7_10 : Array Bool := bs_ 10 1023

/-! ### spec_l01DrawPrefix: function 86 -/
def spec_l01DrawPrefix.f (s0_0 : List Int) (s0_1 : Int) (s0_2 : Int) : Option (Int × Int × Int × Int) := (spec_l01Below.f s0_0 s0_1 s0_2 17).bind fun bt192 => ((spec_l01Below.f s0_0 bt192.2.1 bt192.2.2 9).bind fun bt195 => ((spec_l01Below.f s0_0 bt195.2.1 bt195.2.2 9).bind fun bt198 => ((spec_l01PickInt.f s0_0 bt198.2.1 bt198.2.2 (([0, 1, 4, 8, 12, 15, 16, bt192.1, wrap64 (8 + bt195.1), wrap64 (8 + bt198.1)] : List Int))).bind fun bt204 => ((spec_l01Below.f s0_0 bt204.2.1 bt204.2.2 65536).bind fun bt207 => ((spec_l01Below.f s0_0 bt207.2.1 bt207.2.2 2048).bind fun bt210 => ((spec_l01PickInt.f s0_0 bt210.2.1 bt210.2.2 (([0, 2560, bt207.1, bt210.1] : List Int))).bind fun bt216 => ((spec_l01Size2.f bt204.1).bind fun t220 => (if t220 = 0 then (none) else ((spec_l01Once.f s0_0 bt216.2.1 bt216.2.2 30).bind fun bt221 => (if bt221.1 = true then ((spec_l01Below.f s0_0 bt221.2.1 bt221.2.2 3).bind fun bt224 => (if bt224.1 = 0 then ((spec_l01PickInt.f s0_0 bt224.2.1 bt224.2.2 (([(-1), 17, 3] : List Int))).bind fun bt230 => (some (wrap64 (bt216.1 - (Int.tmod bt216.1 t220)), bt230.1, bt230.2.1, bt230.2.2))) else (if bt224.1 = 1 then ((spec_l01PickInt.f s0_0 bt224.2.1 bt224.2.2 (([(-1), 65536, 1, 65535] : List Int))).bind fun bt236 => (some (bt236.1, bt204.1, bt236.2.1, bt236.2.2))) else (if bt224.1 = 2 then (some (wrap64 ((wrap64 (bt216.1 - (Int.tmod bt216.1 t220))) + 1), bt204.1, bt224.2.1, bt224.2.2)) else (some (wrap64 (bt216.1 - (Int.tmod bt216.1 t220)), bt204.1, bt224.2.1, bt224.2.2)))))) else (some (wrap64 (bt216.1 - (Int.tmod bt216.1 t220)), bt204.1, bt221.2.1, bt221.2.2))))))))))))
def spec_l01DrawPrefix.T3 : Bool × List (List Nat × List Nat) := (true, [([], []), ([0], [0]), ([], []), ([2], [2]), ([], []), ([4], [4]), ([3, 5], [3, 5]), ([1, 6], [1, 6]), ([0, 1, 2, 3, 4, 5, 6, 7], []), ([8, 7, 5, 0, 1, 2, 3, 4, 5, 6, 7], [7, 8])])
def spec_l01DrawPrefix.B3 : List Nat := [0, 1, 0, 4, 0, 16, 60, 127, 255, 511]
theorem spec_l01DrawPrefix.tab3 : rtab .any (opsOf Try.f86 3) = spec_l01DrawPrefix.T3 := by kernel_rfl
theorem spec_l01DrawPrefix.bits3 : waitsOk spec_l01DrawPrefix.T3.2 spec_l01DrawPrefix.B3 = true := by kernel_rfl
set_option maxHeartbeats 8000000 in
set_option maxRecDepth 100000 in
theorem spec_l01DrawPrefix.calls (g : Nat) (s0_0 : List Int) (s0_1 : Int) (s0_2 : Int) (r1 : Int) (r2 : Int) (r3 : Int) (r4 : Int) (w0 w : World) (hI : IsS112 w0 w g s0_0 s0_1 s0_2) (hB : Below w0.heap.size w0 w) (h : spec_l01DrawPrefix.f s0_0 s0_1 s0_2 = some (r1, r2, r3, r4)) :
  Calls Try.prog 86 #[.pointer (some ⟨g, 0, none⟩)] w fun e w' => e = .returned (.agg #[.int .i64 r1, .int .i64 r2]) ∧ IsS112 w0 w' g s0_0 r3 r4 ∧ Below w0.heap.size w0 w' ∧ KeepBut w w' g none := by
 have hu28 := Try.underlying28
 have HI0 := Aside0.mk hI
 have HK := Aside0.mk (KeepBut.refl w g none)
 have HL := Aside0.mk hB.size
 clear hI
 have HW0 := Aside0.mk hB.size
 have HB := Aside0.mk hB
 clear hB
 have H : ((spec_l01Below.f s0_0 s0_1 s0_2 17).bind fun bt192 => ((spec_l01Below.f s0_0 bt192.2.1 bt192.2.2 9).bind fun bt195 => ((spec_l01Below.f s0_0 bt195.2.1 bt195.2.2 9).bind fun bt198 => ((spec_l01PickInt.f s0_0 bt198.2.1 bt198.2.2 (([0, 1, 4, 8, 12, 15, 16, bt192.1, wrap64 (8 + bt195.1), wrap64 (8 + bt198.1)] : List Int))).bind fun bt204 => ((spec_l01Below.f s0_0 bt204.2.1 bt204.2.2 65536).bind fun bt207 => ((spec_l01Below.f s0_0 bt207.2.1 bt207.2.2 2048).bind fun bt210 => ((spec_l01PickInt.f s0_0 bt210.2.1 bt210.2.2 (([0, 2560, bt207.1, bt210.1] : List Int))).bind fun bt216 => ((spec_l01Size2.f bt204.1).bind fun t220 => (if t220 = 0 then (none) else ((spec_l01Once.f s0_0 bt216.2.1 bt216.2.2 30).bind fun bt221 => (if bt221.1 = true then ((spec_l01Below.f s0_0 bt221.2.1 bt221.2.2 3).bind fun bt224 => (if bt224.1 = 0 then ((spec_l01PickInt.f s0_0 bt224.2.1 bt224.2.2 (([(-1), 17, 3] : List Int))).bind fun bt230 => (some (wrap64 (bt216.1 - (Int.tmod bt216.1 t220)), bt230.1, bt230.2.1, bt230.2.2))) else (if bt224.1 = 1 then ((spec_l01PickInt.f s0_0 bt224.2.1 bt224.2.2 (([(-1), 65536, 1, 65535] : List Int))).bind fun bt236 => (some (bt236.1, bt204.1, bt236.2.1, bt236.2.2))) else (if bt224.1 = 2 then (some (wrap64 ((wrap64 (bt216.1 - (Int.tmod bt216.1 t220))) + 1), bt204.1, bt224.2.1, bt224.2.2)) else (some (wrap64 (bt216.1 - (Int.tmod bt216.1 t220)), bt204.1, bt224.2.1, bt224.2.2)))))) else (some (wrap64 (bt216.1 - (Int.tmod bt216.1 t220)), bt204.1, bt221.2.1, bt221.2.2))))))))))))) = some (r1, r2, r3, r4) := h
 clear h
 replace H := Option.bind_eq_some_iff.mp H
 obtain ⟨⟨t192, t193, t194⟩, A20, H⟩ := H
 have A2 := Aside0.mk A20
 clear A20
 replace H := Option.bind_eq_some_iff.mp H
 obtain ⟨⟨t195, t196, t197⟩, A30, H⟩ := H
 have A3 := Aside0.mk A30
 clear A30
 replace H := Option.bind_eq_some_iff.mp H
 obtain ⟨⟨t198, t199, t200⟩, A40, H⟩ := H
 have A4 := Aside0.mk A40
 clear A40
 obtain ⟨y201, hy201⟩ : ∃ y_ : List Int, y_ = (([0, 1, 4, 8, 12, 15, 16, t192, wrap64 (8 + t195), wrap64 (8 + t198)] : List Int)) := ⟨_, rfl⟩
 replace H : ((spec_l01PickInt.f s0_0 t199 t200 y201).bind fun bt204 => ((spec_l01Below.f s0_0 bt204.2.1 bt204.2.2 65536).bind fun bt207 => ((spec_l01Below.f s0_0 bt207.2.1 bt207.2.2 2048).bind fun bt210 => ((spec_l01PickInt.f s0_0 bt210.2.1 bt210.2.2 (([0, 2560, bt207.1, bt210.1] : List Int))).bind fun bt216 => ((spec_l01Size2.f bt204.1).bind fun t220 => (if t220 = 0 then (none) else ((spec_l01Once.f s0_0 bt216.2.1 bt216.2.2 30).bind fun bt221 => (if bt221.1 = true then ((spec_l01Below.f s0_0 bt221.2.1 bt221.2.2 3).bind fun bt224 => (if bt224.1 = 0 then ((spec_l01PickInt.f s0_0 bt224.2.1 bt224.2.2 (([(-1), 17, 3] : List Int))).bind fun bt230 => (some (wrap64 (bt216.1 - (Int.tmod bt216.1 t220)), bt230.1, bt230.2.1, bt230.2.2))) else (if bt224.1 = 1 then ((spec_l01PickInt.f s0_0 bt224.2.1 bt224.2.2 (([(-1), 65536, 1, 65535] : List Int))).bind fun bt236 => (some (bt236.1, bt204.1, bt236.2.1, bt236.2.2))) else (if bt224.1 = 2 then (some (wrap64 ((wrap64 (bt216.1 - (Int.tmod bt216.1 t220))) + 1), bt204.1, bt224.2.1, bt224.2.2)) else (some (wrap64 (bt216.1 - (Int.tmod bt216.1 t220)), bt204.1, bt224.2.1, bt224.2.2)))))) else (some (wrap64 (bt216.1 - (Int.tmod bt216.1 t220)), bt204.1, bt221.2.1, bt221.2.2)))))))))) = some (r1, r2, r3, r4) := by first | (rw [hy201]; with_reducible exact H) | (have H2_ := (Option.bind_some _ _).symm.trans H; rw [hy201]; with_reducible exact H2_) | (have H2_ := (Option.bind_some _ _).symm.trans H; with_reducible exact H2_) | with_reducible exact H | (rw [hy201]; exact H) | exact H
 have Ny201 := Aside0.mk hy201
 clear hy201
 replace H := Option.bind_eq_some_iff.mp H
 obtain ⟨⟨t204, t205, t206⟩, A50, H⟩ := H
 have A5 := Aside0.mk A50
 clear A50
 replace H := Option.bind_eq_some_iff.mp H
 obtain ⟨⟨t207, t208, t209⟩, A60, H⟩ := H
 have A6 := Aside0.mk A60
 clear A60
 replace H := Option.bind_eq_some_iff.mp H
 obtain ⟨⟨t210, t211, t212⟩, A70, H⟩ := H
 have A7 := Aside0.mk A70
 clear A70
 obtain ⟨y213, hy213⟩ : ∃ y_ : List Int, y_ = (([0, 2560, t207, t210] : List Int)) := ⟨_, rfl⟩
 replace H : ((spec_l01PickInt.f s0_0 t211 t212 y213).bind fun bt216 => ((spec_l01Size2.f t204).bind fun t220 => (if t220 = 0 then (none) else ((spec_l01Once.f s0_0 bt216.2.1 bt216.2.2 30).bind fun bt221 => (if bt221.1 = true then ((spec_l01Below.f s0_0 bt221.2.1 bt221.2.2 3).bind fun bt224 => (if bt224.1 = 0 then ((spec_l01PickInt.f s0_0 bt224.2.1 bt224.2.2 (([(-1), 17, 3] : List Int))).bind fun bt230 => (some (wrap64 (bt216.1 - (Int.tmod bt216.1 t220)), bt230.1, bt230.2.1, bt230.2.2))) else (if bt224.1 = 1 then ((spec_l01PickInt.f s0_0 bt224.2.1 bt224.2.2 (([(-1), 65536, 1, 65535] : List Int))).bind fun bt236 => (some (bt236.1, t204, bt236.2.1, bt236.2.2))) else (if bt224.1 = 2 then (some (wrap64 ((wrap64 (bt216.1 - (Int.tmod bt216.1 t220))) + 1), t204, bt224.2.1, bt224.2.2)) else (some (wrap64 (bt216.1 - (Int.tmod bt216.1 t220)), t204, bt224.2.1, bt224.2.2)))))) else (some (wrap64 (bt216.1 - (Int.tmod bt216.1 t220)), t204, bt221.2.1, bt221.2.2))))))) = some (r1, r2, r3, r4) := by first | (rw [hy213]; with_reducible exact H) | (have H2_ := (Option.bind_some _ _).symm.trans H; rw [hy213]; with_reducible exact H2_) | (have H2_ := (Option.bind_some _ _).symm.trans H; with_reducible exact H2_) | with_reducible exact H | (rw [hy213]; exact H) | exact H
 have Ny213 := Aside0.mk hy213
 clear hy213
 replace H := Option.bind_eq_some_iff.mp H
 obtain ⟨⟨t216, t217, t218⟩, A80, H⟩ := H
 have A8 := Aside0.mk A80
 clear A80
 replace H := Option.bind_eq_some_iff.mp H
 obtain ⟨t220, A90, H⟩ := H
 have A9 := Aside0.mk A90
 clear A90
 by_cases c10 : t220 = 0
 ·rw [if_pos c10] at H
  exact absurd H (by simp)
 rw [if_neg c10] at H
 have c10b0 : (t220 == 0) = false := beq_eq_false_iff_ne.mpr c10
 have c10b1 : (t220 != 0) = true := bne_iff_ne.mpr c10
 replace H := Option.bind_eq_some_iff.mp H
 obtain ⟨⟨t221, t222, t223⟩, A110, H⟩ := H
 have A11 := Aside0.mk A110
 clear A110
 have Hh_ := Aside0.mk H
 clear H
 go_enter Try.func86, Try.ntmps86
 try go_wp2_with (first | ((with_reducible refine gate_dst (N := 2) rfl ?_); refine box_event ?hg (N := 2) ?hd (cs := #[.int .i64 0, .int .i64 0]) (t := 28) ?hr ?_; (case hd => rfl); (case hg => rfl); (case hr => first | (go_simp; done) | (go_simp; rfl)); intro gb191 hg w16 hbox hb; have BK191 := Aside0.mk hbox; have GW191 := gw_ HK hg; have GE191 := gv_ HW0 HK hg; have NB0_191 := Aside0.mk ((by rw [hg]; exact Nat.ne_of_lt (IsS112.lt (show IsS112 w0 _ g s0_0 s0_1 s0_2 from is112_)) : g ≠ gb191)); have NB191_0 := Aside0.mk ((by rw [hg]; exact Nat.ne_of_gt (IsS112.lt (show IsS112 w0 _ g s0_0 s0_1 s0_2 from is112_)) : gb191 ≠ g)); replace HB := bs112_ hb; replace HK := kt_ HK (KeepBut.of_below hb g none); replace HI0 := Aside0.mk (IsS112.below is112_ hb); clear hb hbox hg) | ((with_reducible refine gate_callee (f := 44) rfl ?_); refine gl_ (some 7) Try.func44 #[.pointer (some ⟨g, 0, none⟩), .int .i64 17] ?_; (with_reducible refine (spec_l01Below.calls g s0_0 s0_1 s0_2 17 t192 t193 t194 w0 _ ?side1 ?side2 A2.out).mono ?_); (case side1 => exact is112_); (case side2 => exact bw112_); rintro e w17 ⟨rfl, hi, hb, hk⟩; refine ⟨_, rfl, ?_⟩; replace BK191 := kb_ BK191 NB191_0 hk; replace HK := kt_ HK hk; replace HB := Aside0.mk (hb); replace HI0 := Aside0.mk (hi); (try clear hb); (try clear hb2); (try clear hk); (try clear hi)) | ((with_reducible refine gate_callee (f := 44) rfl ?_); refine gl_ (some 9) Try.func44 #[.pointer (some ⟨g, 0, none⟩), .int .i64 9] ?_; (with_reducible refine (spec_l01Below.calls g s0_0 t193 t194 9 t195 t196 t197 w0 _ ?side1 ?side2 A3.out).mono ?_); (case side1 => exact is112_); (case side2 => exact bw112_); rintro e w18 ⟨rfl, hi, hb, hk⟩; refine ⟨_, rfl, ?_⟩; replace BK191 := kb_ BK191 NB191_0 hk; replace HK := kt_ HK hk; replace HB := Aside0.mk (hb); replace HI0 := Aside0.mk (hi); (try clear hb); (try clear hb2); (try clear hk); (try clear hi)) | ((with_reducible refine gate_callee (f := 44) rfl ?_); refine gl_ (some 12) Try.func44 #[.pointer (some ⟨g, 0, none⟩), .int .i64 9] ?_; (with_reducible refine (spec_l01Below.calls g s0_0 t196 t197 9 t198 t199 t200 w0 _ ?side1 ?side2 A4.out).mono ?_); (case side1 => exact is112_); (case side2 => exact bw112_); rintro e w19 ⟨rfl, hi, hb, hk⟩; refine ⟨_, rfl, ?_⟩; replace BK191 := kb_ BK191 NB191_0 hk; replace HK := kt_ HK hk; replace HB := Aside0.mk (hb); replace HI0 := Aside0.mk (hi); (try clear hb); (try clear hb2); (try clear hk); (try clear hi)) | ((with_reducible refine gate_dst (N := 14) rfl ?_); refine Kd.R_lit (Kd.int .i64) _ 3 ?hg (N := 14) ?hd (xs := ([0, 1, 4, 8, 12, 15, 16, t192, wrap64 (8 + t195), wrap64 (8 + t198)] : List Int)) (inner := [.int .i64 0, .int .i64 1, .int .i64 4, .int .i64 8, .int .i64 12, .int .i64 15, .int .i64 16, .int .i64 t192, .int .i64 (wrap64 (8 + t195)), .int .i64 (wrap64 (8 + t198))]) (ok := fun _ => True) (okp := fun _ => True) ?hr ?hp (fun _ hk => hk) trivial (Below.refl _ _) (Nat.le_refl _) (by simp) ?_; (case hd => rfl); (case hg => rfl); (case hr => first | (go_simp; done) | (go_simp; rfl)); (case hp => exact (Reps.one (show Kd.M (Kd.int .i64) _ _ _ 0 [.int .i64 0] from rfl) (Reps.one (show Kd.M (Kd.int .i64) _ _ _ 1 [.int .i64 1] from rfl) (Reps.one (show Kd.M (Kd.int .i64) _ _ _ 4 [.int .i64 4] from rfl) (Reps.one (show Kd.M (Kd.int .i64) _ _ _ 8 [.int .i64 8] from rfl) (Reps.one (show Kd.M (Kd.int .i64) _ _ _ 12 [.int .i64 12] from rfl) (Reps.one (show Kd.M (Kd.int .i64) _ _ _ 15 [.int .i64 15] from rfl) (Reps.one (show Kd.M (Kd.int .i64) _ _ _ 16 [.int .i64 16] from rfl) (Reps.one (show Kd.M (Kd.int .i64) _ _ _ t192 [.int .i64 t192] from rfl) (Reps.one (show Kd.M (Kd.int .i64) _ _ _ (wrap64 (8 + t195)) [.int .i64 (wrap64 (8 + t195))] from rfl) (Reps.one (show Kd.M (Kd.int .i64) _ _ _ (wrap64 (8 + t198)) [.int .i64 (wrap64 (8 + t198))] from rfl) (Reps.none _ _)))))))))))); intro v202 w20 ho21 hb hg_ hnew_; clear hg_ hnew_; (first | rw [← Ny201.out] at ho21 | (simp only [Int.reduceToNat] at ho21; rw [← Ny201.out] at ho21)); have HO203 := Aside0.mk (Kd.R_lower ho21 (keep_size (w := w) (g := g) (row := none) (kx_ HK))); replace BK191 := ab_ BK191 hb; replace HK := kt_ HK (KeepBut.of_below hb g none); replace HB := bs112_ hb; replace HI0 := Aside0.mk (IsS112.below is112_ hb); clear hb ho21; obtain ⟨Ao22, co22, eo22⟩ := Kd.R_slice HO203.out; subst eo22) | ((with_reducible refine gate_callee (f := 43) rfl ?_); refine gl_ (some 15) Try.func43 #[.pointer (some ⟨g, 0, none⟩), .slice Ao22 y201.length co22] ?_; (with_reducible refine (spec_l01PickInt.calls g s0_0 t199 t200 _ _ y201 t204 t205 t206 w0 _ ?side1 ?side2 ?side3 ?side4 ?side5 A5.out).mono ?_); (case side1 => exact is112_); (case side2 => exact bw112_); (case side3 => exact rc_ HO203); (case side4 => exact (Kd.R_reads' HO203.out).2.1); (case side5 => exact far_slice (IsS112.own_ne HI0.out HO203.out (by decide))); rintro e w23 ⟨rfl, hi, hb, hk⟩; refine ⟨_, rfl, ?_⟩; replace BK191 := kb_ BK191 NB191_0 hk; replace HO203 := ak112_ HO203 (show IsS112 w0 _ g s0_0 t199 t200 from is112_) hk; replace HK := kt_ HK hk; replace HB := Aside0.mk (hb); replace HI0 := Aside0.mk (hi); (try clear hb); (try clear hb2); (try clear hk); (try clear hi)) | ((with_reducible refine gate_callee (f := 44) rfl ?_); refine gl_ (some 18) Try.func44 #[.pointer (some ⟨g, 0, none⟩), .int .i64 65536] ?_; (with_reducible refine (spec_l01Below.calls g s0_0 t205 t206 65536 t207 t208 t209 w0 _ ?side1 ?side2 A6.out).mono ?_); (case side1 => exact is112_); (case side2 => exact bw112_); rintro e w24 ⟨rfl, hi, hb, hk⟩; refine ⟨_, rfl, ?_⟩; replace BK191 := kb_ BK191 NB191_0 hk; replace HO203 := ak112_ HO203 (show IsS112 w0 _ g s0_0 t205 t206 from is112_) hk; replace HK := kt_ HK hk; replace HB := Aside0.mk (hb); replace HI0 := Aside0.mk (hi); (try clear hb); (try clear hb2); (try clear hk); (try clear hi)) | ((with_reducible refine gate_callee (f := 44) rfl ?_); refine gl_ (some 20) Try.func44 #[.pointer (some ⟨g, 0, none⟩), .int .i64 2048] ?_; (with_reducible refine (spec_l01Below.calls g s0_0 t208 t209 2048 t210 t211 t212 w0 _ ?side1 ?side2 A7.out).mono ?_); (case side1 => exact is112_); (case side2 => exact bw112_); rintro e w25 ⟨rfl, hi, hb, hk⟩; refine ⟨_, rfl, ?_⟩; replace BK191 := kb_ BK191 NB191_0 hk; replace HO203 := ak112_ HO203 (show IsS112 w0 _ g s0_0 t208 t209 from is112_) hk; replace HK := kt_ HK hk; replace HB := Aside0.mk (hb); replace HI0 := Aside0.mk (hi); (try clear hb); (try clear hb2); (try clear hk); (try clear hi)) | ((with_reducible refine gate_dst (N := 21) rfl ?_); refine Kd.R_lit (Kd.int .i64) _ 3 ?hg (N := 21) ?hd (xs := ([0, 2560, t207, t210] : List Int)) (inner := [.int .i64 0, .int .i64 2560, .int .i64 t207, .int .i64 t210]) (ok := fun _ => True) (okp := fun _ => True) ?hr ?hp (fun _ hk => hk) trivial (Below.refl _ _) (Nat.le_refl _) (by simp) ?_; (case hd => rfl); (case hg => rfl); (case hr => first | (go_simp; done) | (go_simp; rfl)); (case hp => exact (Reps.one (show Kd.M (Kd.int .i64) _ _ _ 0 [.int .i64 0] from rfl) (Reps.one (show Kd.M (Kd.int .i64) _ _ _ 2560 [.int .i64 2560] from rfl) (Reps.one (show Kd.M (Kd.int .i64) _ _ _ t207 [.int .i64 t207] from rfl) (Reps.one (show Kd.M (Kd.int .i64) _ _ _ t210 [.int .i64 t210] from rfl) (Reps.none _ _)))))); intro v214 w26 ho27 hb hg_ hnew_; clear hg_ hnew_; (first | rw [← Ny213.out] at ho27 | (simp only [Int.reduceToNat] at ho27; rw [← Ny213.out] at ho27)); have HO215 := Aside0.mk (Kd.R_lower (Kd.R_new' ho27 (Kd.R_lt (hd_ HO203))) (keep_size (w := w) (g := g) (row := none) (kx_ HK))); replace HO203 := Aside0.mk (Kd.R_elder' (hd_ HO203) (Kd.R_base ho27) hb); replace BK191 := ab_ BK191 hb; replace HK := kt_ HK (KeepBut.of_below hb g none); replace HB := bs112_ hb; replace HI0 := Aside0.mk (IsS112.below is112_ hb); clear hb ho27; obtain ⟨Ao28, co28, eo28⟩ := Kd.R_slice HO215.out; subst eo28) | ((with_reducible refine gate_callee (f := 43) rfl ?_); refine gl_ (some 22) Try.func43 #[.pointer (some ⟨g, 0, none⟩), .slice Ao28 y213.length co28] ?_; (with_reducible refine (spec_l01PickInt.calls g s0_0 t211 t212 _ _ y213 t216 t217 t218 w0 _ ?side1 ?side2 ?side3 ?side4 ?side5 A8.out).mono ?_); (case side1 => exact is112_); (case side2 => exact bw112_); (case side3 => exact rc_ HO215); (case side4 => exact (Kd.R_reads' HO215.out).2.1); (case side5 => exact far_slice (IsS112.own_ne HI0.out HO215.out (by decide))); rintro e w29 ⟨rfl, hi, hb, hk⟩; refine ⟨_, rfl, ?_⟩; replace BK191 := kb_ BK191 NB191_0 hk; replace HO203 := ak112_ HO203 (show IsS112 w0 _ g s0_0 t211 t212 from is112_) hk; replace HO215 := ak112_ HO215 (show IsS112 w0 _ g s0_0 t211 t212 from is112_) hk; replace HK := kt_ HK hk; replace HB := Aside0.mk (hb); replace HI0 := Aside0.mk (hi); (try clear hb); (try clear hb2); (try clear hk); (try clear hi)) | ((with_reducible refine gate_dst (N := 4) rfl ?_); refine box_event ?hg (N := 4) ?hd (cs := #[.int .i64 0, .int .i64 0]) (t := 28) ?hr ?_; (case hd => rfl); (case hg => rfl); (case hr => first | (go_simp; done) | (go_simp; rfl)); intro gb219 hg w30 hbox hb; have BK219 := Aside0.mk hbox; have GW219 := gw_ HK hg; have GE219 := gv_ HW0 HK hg; have NB191_219 := nl_ BK191 hg; have NB219_191 := ng_ BK191 hg; have NB0_219 := Aside0.mk ((by rw [hg]; exact Nat.ne_of_lt (IsS112.lt (show IsS112 w0 _ g s0_0 t217 t218 from is112_)) : g ≠ gb219)); have NB219_0 := Aside0.mk ((by rw [hg]; exact Nat.ne_of_gt (IsS112.lt (show IsS112 w0 _ g s0_0 t217 t218 from is112_)) : gb219 ≠ g)); replace HO203 := rb_ HO203 hb; replace HO215 := rb_ HO215 hb; replace HB := bs112_ hb; replace HK := kt_ HK (KeepBut.of_below hb g none); replace BK191 := ab_ BK191 hb; replace HI0 := Aside0.mk (IsS112.below is112_ hb); clear hb hbox hg; have hnb31 := NB219_191.out; have hnc31 := NB191_219.out; have hnb32 := NB219_0.out; have hnc32 := NB0_219.out; have hcz33_0 := cz_ BK219 0 (.int .i64 0); have hcz33_1 := cz_ BK219 1 (.int .i64 0); have hfz33_0 := fz_ BK219 0; have hfz33_1 := fz_ BK219 1))
 have n0_ : Aside0 (Kd.R (Kd.int .i64) 3 ((w30.setCell ⟨gb219, 0, none⟩ (.int .i64 t216)).setCell ⟨gb219, 1, none⟩ (.int .i64 t204)) w.heap.size (fun k_ => some k_ ≠ (.slice Ao28 y213.length co28 : Value).ownBlock) (.slice Ao22 y201.length co22) y201) := ⟨by (with_reducible repeat (first | apply Kd.R_alloc | apply Kd.R_drewN | apply Kd.R_drew)); exact Kd.R_mono (Kd.R_far (p := ⟨gb219, 1, none⟩) (Kd.R_far (p := ⟨gb219, 0, none⟩) (Kd.R_types HO203.out BK219.out (by decide)) (fun _ hk => hk.2) (.int .i64 t216)) (fun _ hk => hk.2) (.int .i64 t204)) (fun _ hk => hk.1.2)⟩
 have n1_ : Aside0 (Kd.R (Kd.int .i64) 3 ((w30.setCell ⟨gb219, 0, none⟩ (.int .i64 t216)).setCell ⟨gb219, 1, none⟩ (.int .i64 t204)) w.heap.size (fun k_ => some k_ ≠ (.slice Ao22 y201.length co22 : Value).ownBlock) (.slice Ao28 y213.length co28) y213) := ⟨by (with_reducible repeat (first | apply Kd.R_alloc | apply Kd.R_drewN | apply Kd.R_drew)); exact Kd.R_mono (Kd.R_far (p := ⟨gb219, 1, none⟩) (Kd.R_far (p := ⟨gb219, 0, none⟩) (Kd.R_types HO215.out BK219.out (by decide)) (fun _ hk => hk.2) (.int .i64 t216)) (fun _ hk => hk.2) (.int .i64 t204)) (fun _ hk => hk.1.2)⟩
 have n2_ : Aside0 (((w30.setCell ⟨gb219, 0, none⟩ (.int .i64 t216)).setCell ⟨gb219, 1, none⟩ (.int .i64 t204)).heap[gb191]? = some (.cells #[.int .i64 0, .int .i64 0] 28 (0, 0))) := ⟨bc_ BK191⟩
 have n3_ : Aside0 (((w30.setCell ⟨gb219, 0, none⟩ (.int .i64 t216)).setCell ⟨gb219, 1, none⟩ (.int .i64 t204)).heap[gb219]? = some (.cells #[.int .i64 t216, .int .i64 t204] 28 (0, 0))) := ⟨by refine bd_ ?_; refine blk_put (cs := #[.int .i64 t216, .int .i64 0]) ?_ 1 _ rfl; refine bd_ ?_; refine blk_put (cs := #[.int .i64 0, .int .i64 0]) ?_ 0 _ rfl; refine bd_ ?_; exact BK219.out⟩
 have n4_ : Aside0 (IsS112 w0 ((w30.setCell ⟨gb219, 0, none⟩ (.int .i64 t216)).setCell ⟨gb219, 1, none⟩ (.int .i64 t204)) g s0_0 t217 t218) := ⟨is112_⟩
 have n5_ : Aside0 (KeepBut w ((w30.setCell ⟨gb219, 0, none⟩ (.int .i64 t216)).setCell ⟨gb219, 1, none⟩ (.int .i64 t204)) g none) := ⟨kx_ HK⟩
 have n6_ : Aside0 (Below w0.heap.size w0 ((w30.setCell ⟨gb219, 0, none⟩ (.int .i64 t216)).setCell ⟨gb219, 1, none⟩ (.int .i64 t204))) := ⟨bw112_⟩
 (try clear HO203)
 (try clear HO215)
 (try clear BK191)
 (try clear BK219)
 (try clear HI0)
 (try clear HK)
 (try clear HB)
 generalize ((w30.setCell ⟨gb219, 0, none⟩ (.int .i64 t216)).setCell ⟨gb219, 1, none⟩ (.int .i64 t204)) = w34 at n0_ n1_ n2_ n3_ n4_ n5_ n6_ ⊢
 have HO203 := n0_
 have HO215 := n1_
 have BK191 := n2_
 have BK219 := n3_
 have HI0 := n4_
 have HK := n5_
 have HB := n6_
 clear n0_ n1_ n2_ n3_ n4_ n5_ n6_
 replace HO203 := Aside0.mk (Kd.R_drew HO203.out)
 replace HO215 := Aside0.mk (Kd.R_drew HO215.out)
 replace BK191 := ad_ BK191
 replace BK219 := ad_ BK219
 replace HI0 := Aside0.mk (IsS112.drew HI0.out)
 replace HK := Aside0.mk (keep_drew HK.out)
 replace HB := Aside0.mk (below_drew1 HB.out)
 refine start_ (n := 10) (S := fun w' => w'.cell? ⟨gb219, 0, none⟩ = some (.int .i64 t216) ∧ w'.cell? ⟨gb219, 1, none⟩ = some (.int .i64 t204)) (ds := [9]) ba7_0 (by kernel_rfl) rfl rfl ⟨(blk_cell BK219.out 0).trans rfl, (blk_cell BK219.out 1).trans rfl⟩ (fun hHeld => ?_); refine with_tabW spec_l01DrawPrefix.tab3 spec_l01DrawPrefix.bits3 (fun HT_ HW_ => ?_)
 generalize w34.drew = w35 at HO203 HO215 BK191 BK219 HI0 HK HB hHeld ⊢
 refine pz_ 0 25 ba7_1 HT_ ?_
 refine pz_ 2 27 ba7_2 HT_ ?_
 refine pz_ 4 29 ba7_3 HT_ ?_
 refine pt_ 1 26 ba7_4 HT_ HW_ hHeld ?_
 refine pt_ 3 28 ba7_5 HT_ HW_ hHeld ?_
 refine one_ (i := 5) (N := some 30) ba7_6 rfl rfl (one_of HT_.out (by kernel_rfl)) (by decide) (fun K hK => ?_)
 refine gz_ Try.func57 #[.int .i64 t204] ?_
 with_reducible refine (spec_l01Size2.calls t204 t220 _ A9.out).mono ?_
 rintro e w' ⟨rfl, ⟨nd, rfl⟩⟩
 refine ⟨_, rfl, ?_⟩
 refine hK.out _ _ ⟨(blk_cell BK219.out 0).trans rfl, (blk_cell BK219.out 1).trans rfl⟩ (fun hHeld => ?_)
 clear hK K
 refine nz_ 30 ?_
 refine pz_ 6 31 ba7_7 HT_ ?_
 refine pz_ 7 32 ba7_8 HT_ ?_
 refine pz_ 8 33 ba7_9 HT_ ?_
 refine last_ (i := 9) (N := none) ba7_10 rfl rfl (one_of HT_.out (by kernel_rfl)) (by decide) (fun K hK => ?_)
 have hs36 : w35.cell? ⟨gb219, 0, none⟩ = some (.int .i64 t216) := (blk_cell BK219.out 0).trans rfl
 have hfs36 := fz_ BK219 0
 have hns36_0 := NB191_219.out
 have hms36_0 := NB219_191.out
 have H := Hh_.out
 clear Hh_
 by_cases c12 : t221 = true
 rotate_left
 ·replace c12 := Bool.eq_false_iff.mpr c12
  subst c12
  rw [if_neg (show ¬ (false = true) by decide)] at H
  simp only [Option.some.injEq, Prod.mk.injEq] at H
  obtain ⟨rfl, rfl, rfl, rfl⟩ := H
  refine skip_ (w1 := ?_) (by rfl) rfl ?_ ?_
  rotate_left; · go_simp; rfl
  refine hK.out _ _ ?_
  clear hK K
  refine done_ (done_of HT_.out (by kernel_rfl)) ?_
  try go_wp2_with (first | ((with_reducible refine gate_callee (f := 81) rfl ?_); refine gl_ (some 35) Try.func81 #[.pointer (some ⟨g, 0, none⟩), .int .i64 30] ?_; (with_reducible refine (spec_l01Once.calls g s0_0 t217 t218 30 false t222 t223 w0 _ ?side1 ?side2 A11.out).mono ?_); (case side1 => exact is112_); (case side2 => exact bw112_); rintro e w152 ⟨rfl, hi, hb, hk⟩; refine ⟨_, rfl, ?_⟩; replace BK191 := kc_ BK191 NB191_0 hk; replace HO203 := Aside0.mk (Kd.R_mono (Kd.R_keep (IsS112.apart (show IsS112 w0 _ g s0_0 t217 t218 from is112_) (hs_ HO203 BK219) (by decide)) hk (fun _ h => h.2)) (fun _ h => h.1)); replace HO215 := Aside0.mk (Kd.R_mono (Kd.R_keep (IsS112.apart (show IsS112 w0 _ g s0_0 t217 t218 from is112_) (hs_ HO215 BK219) (by decide)) hk (fun _ h => h.2)) (fun _ h => h.1)); replace BK219 := Aside0.mk (KeepBut.blk hk (g' := gb219) (o := .cells #[.int .i64 (wrap64 (t216 - (Int.tmod t216 t220))), .int .i64 t204] 28 (0, 0)) (by refine bd_ ?_; refine blk_put (cs := #[.int .i64 t216, .int .i64 t204]) ?_ 0 _ rfl; refine bd_ ?_; exact BK219.out) NB219_0.out (by simp)); replace HK := kt_ HK hk; replace HB := Aside0.mk (hb); replace HI0 := Aside0.mk (hi); (try clear hb); (try clear hb2); (try clear hk); (try clear hi); have hcz153_0 := cz_ BK219 0 (.int .i64 (wrap64 (t216 - (Int.tmod t216 t220)))); have hcz153_1 := cz_ BK219 1 (.int .i64 t204); have hfz153_0 := fz_ BK219 0; have hfz153_1 := fz_ BK219 1; have hnb154 := NB191_0.out; have hnc154 := NB0_191.out; have hcz155_0 := cz_ BK191 0 (.int .i64 0); have hcz155_1 := cz_ BK191 1 (.int .i64 0); have hfz155_0 := fz_ BK191 0; have hfz155_1 := fz_ BK191 1))
  refine bodyPost_ret (results_cell_row rfl _ _ gb191 28 #[.int .i64 (wrap64 (t216 - (Int.tmod t216 t220))), .int .i64 t204] (0, 0) _ rfl (by refine bd_ ?_; refine blk_put (cs := #[.int .i64 (wrap64 (t216 - (Int.tmod t216 t220))), .int .i64 0]) ?_ 1 _ rfl; refine bd_ ?_; refine blk_put (cs := #[.int .i64 0, .int .i64 0]) ?_ 0 _ rfl; refine bd_ ?_; exact BK191.out) Try.underlying28 rfl (by kernel_rfl)) rfl ?_
  exact ⟨by first | rfl | (simp [errW_none, errW_some] <;> rfl) | (simp [*, errW_none, errW_some] <;> rfl), is112_, bw112_, kx_ HK⟩
 subst c12
 rw [if_pos rfl] at H
 replace H := Option.bind_eq_some_iff.mp H
 obtain ⟨⟨t224, t225, t226⟩, A130, H⟩ := H
 have A13 := Aside0.mk A130
 clear A130
 by_cases c14 : t224 = 0
 ·rw [if_pos c14] at H
  have c14b0 : (t224 == 0) = true := beq_iff_eq.mpr c14
  have c14b1 : (t224 != 0) = false := bne_eq_false_iff_eq.mpr c14
  clear c14
  obtain ⟨y227, hy227⟩ : ∃ y_ : List Int, y_ = (([(-1), 17, 3] : List Int)) := ⟨_, rfl⟩
  replace H : ((spec_l01PickInt.f s0_0 t225 t226 y227).bind fun bt230 => (some (wrap64 (t216 - (Int.tmod t216 t220)), bt230.1, bt230.2.1, bt230.2.2))) = some (r1, r2, r3, r4) := by first | (rw [hy227]; with_reducible exact H) | (have H2_ := (Option.bind_some _ _).symm.trans H; rw [hy227]; with_reducible exact H2_) | (have H2_ := (Option.bind_some _ _).symm.trans H; with_reducible exact H2_) | with_reducible exact H | (rw [hy227]; exact H) | exact H
  have Ny227 := Aside0.mk hy227
  clear hy227
  replace H := Option.bind_eq_some_iff.mp H
  obtain ⟨⟨t230, t231, t232⟩, A150, H⟩ := H
  have A15 := Aside0.mk A150
  clear A150
  simp only [Option.some.injEq, Prod.mk.injEq] at H
  obtain ⟨rfl, rfl, rfl, rfl⟩ := H
  refine skip_ (w1 := ?_) (by rfl) rfl ?_ ?_
  rotate_left; · go_simp; rfl
  refine hK.out _ _ ?_
  clear hK K
  refine done_ (done_of HT_.out (by kernel_rfl)) ?_
  try go_wp2_with (first | ((with_reducible refine gate_callee (f := 81) rfl ?_); refine gl_ (some 35) Try.func81 #[.pointer (some ⟨g, 0, none⟩), .int .i64 30] ?_; (with_reducible refine (spec_l01Once.calls g s0_0 t217 t218 30 true t222 t223 w0 _ ?side1 ?side2 A11.out).mono ?_); (case side1 => exact is112_); (case side2 => exact bw112_); rintro e w37 ⟨rfl, hi, hb, hk⟩; refine ⟨_, rfl, ?_⟩; replace BK191 := kc_ BK191 NB191_0 hk; replace HO203 := Aside0.mk (Kd.R_mono (Kd.R_keep (IsS112.apart (show IsS112 w0 _ g s0_0 t217 t218 from is112_) (hs_ HO203 BK219) (by decide)) hk (fun _ h => h.2)) (fun _ h => h.1)); replace HO215 := Aside0.mk (Kd.R_mono (Kd.R_keep (IsS112.apart (show IsS112 w0 _ g s0_0 t217 t218 from is112_) (hs_ HO215 BK219) (by decide)) hk (fun _ h => h.2)) (fun _ h => h.1)); replace BK219 := Aside0.mk (KeepBut.blk hk (g' := gb219) (o := .cells #[.int .i64 (wrap64 (t216 - (Int.tmod t216 t220))), .int .i64 t204] 28 (0, 0)) (by refine bd_ ?_; refine blk_put (cs := #[.int .i64 t216, .int .i64 t204]) ?_ 0 _ rfl; refine bd_ ?_; exact BK219.out) NB219_0.out (by simp)); replace HK := kt_ HK hk; replace HB := Aside0.mk (hb); replace HI0 := Aside0.mk (hi); (try clear hb); (try clear hb2); (try clear hk); (try clear hi)) | ((with_reducible refine gate_callee (f := 44) rfl ?_); refine gl_ (some 37) Try.func44 #[.pointer (some ⟨g, 0, none⟩), .int .i64 3] ?_; (with_reducible refine (spec_l01Below.calls g s0_0 t222 t223 3 t224 t225 t226 w0 _ ?side1 ?side2 A13.out).mono ?_); (case side1 => exact is112_); (case side2 => exact bw112_); rintro e w38 ⟨rfl, hi, hb, hk⟩; refine ⟨_, rfl, ?_⟩; replace BK191 := kb_ BK191 NB191_0 hk; replace HO203 := ak112_ HO203 (show IsS112 w0 _ g s0_0 t222 t223 from is112_) hk; replace HO215 := ak112_ HO215 (show IsS112 w0 _ g s0_0 t222 t223 from is112_) hk; replace BK219 := Aside0.mk (KeepBut.blk hk (g' := gb219) (o := .cells #[.int .i64 (wrap64 (t216 - (Int.tmod t216 t220))), .int .i64 t204] 28 (0, 0)) (bx_ BK219) NB219_0.out (by simp)); replace HK := kt_ HK hk; replace HB := Aside0.mk (hb); replace HI0 := Aside0.mk (hi); (try clear hb); (try clear hb2); (try clear hk); (try clear hi)) | ((with_reducible refine gate_dst (N := 41) rfl ?_); refine Kd.R_lit (Kd.int .i64) _ 3 ?hg (N := 41) ?hd (xs := ([(-1), 17, 3] : List Int)) (inner := [.int .i64 (-1), .int .i64 17, .int .i64 3]) (ok := fun _ => True) (okp := fun _ => True) ?hr ?hp (fun _ hk => hk) trivial (Below.refl _ _) (Nat.le_refl _) (by simp) ?_; (case hd => rfl); (case hg => rfl); (case hr => first | (go_simp; done) | (go_simp; rfl)); (case hp => exact (Reps.one (show Kd.M (Kd.int .i64) _ _ _ (-1) [.int .i64 (-1)] from rfl) (Reps.one (show Kd.M (Kd.int .i64) _ _ _ 17 [.int .i64 17] from rfl) (Reps.one (show Kd.M (Kd.int .i64) _ _ _ 3 [.int .i64 3] from rfl) (Reps.none _ _))))); intro v228 w39 ho40 hb hg_ hnew_; clear hg_ hnew_; (first | rw [← Ny227.out] at ho40 | (simp only [Int.reduceToNat] at ho40; rw [← Ny227.out] at ho40)); have HO229 := Aside0.mk (Kd.R_lower (Kd.R_new' (Kd.R_new' ho40 (Kd.R_lt (hd_ HO203))) (Kd.R_lt (hd_ HO215))) (keep_size (w := w) (g := g) (row := none) (kx_ HK))); replace HO203 := Aside0.mk (Kd.R_elder' (hd_ HO203) (Kd.R_base ho40) hb); replace HO215 := Aside0.mk (Kd.R_elder' (hd_ HO215) (Kd.R_base ho40) hb); replace BK191 := ab_ BK191 hb; replace BK219 := ab_ BK219 hb; replace HK := kt_ HK (KeepBut.of_below hb g none); replace HB := bs112_ hb; replace HI0 := Aside0.mk (IsS112.below is112_ hb); clear hb ho40; obtain ⟨Ao41, co41, eo41⟩ := Kd.R_slice HO229.out; subst eo41) | ((with_reducible refine gate_callee (f := 43) rfl ?_); refine gl_ (some 42) Try.func43 #[.pointer (some ⟨g, 0, none⟩), .slice Ao41 y227.length co41] ?_; (with_reducible refine (spec_l01PickInt.calls g s0_0 t225 t226 _ _ y227 t230 t231 t232 w0 _ ?side1 ?side2 ?side3 ?side4 ?side5 A15.out).mono ?_); (case side1 => exact is112_); (case side2 => exact bw112_); (case side3 => exact rc_ HO229); (case side4 => exact (Kd.R_reads' HO229.out).2.1); (case side5 => exact far_slice (IsS112.own_ne HI0.out HO229.out (by decide))); rintro e w42 ⟨rfl, hi, hb, hk⟩; refine ⟨_, rfl, ?_⟩; replace BK191 := kb_ BK191 NB191_0 hk; replace HO203 := ak112_ HO203 (show IsS112 w0 _ g s0_0 t225 t226 from is112_) hk; replace HO215 := ak112_ HO215 (show IsS112 w0 _ g s0_0 t225 t226 from is112_) hk; replace BK219 := Aside0.mk (KeepBut.blk hk (g' := gb219) (o := .cells #[.int .i64 (wrap64 (t216 - (Int.tmod t216 t220))), .int .i64 t204] 28 (0, 0)) (bx_ BK219) NB219_0.out (by simp)); replace HO229 := ak112_ HO229 (show IsS112 w0 _ g s0_0 t225 t226 from is112_) hk; replace HK := kt_ HK hk; replace HB := Aside0.mk (hb); replace HI0 := Aside0.mk (hi); (try clear hb); (try clear hb2); (try clear hk); (try clear hi); have hcz43_0 := cz_ BK219 0 (.int .i64 (wrap64 (t216 - (Int.tmod t216 t220)))); have hcz43_1 := cz_ BK219 1 (.int .i64 t204); have hfz43_0 := fz_ BK219 0; have hfz43_1 := fz_ BK219 1; have hnb44 := NB191_0.out; have hnc44 := NB0_191.out; have hcz45_0 := cz_ BK191 0 (.int .i64 0); have hcz45_1 := cz_ BK191 1 (.int .i64 0); have hfz45_0 := fz_ BK191 0; have hfz45_1 := fz_ BK191 1))
  refine bodyPost_ret (results_cell_row rfl _ _ gb191 28 #[.int .i64 (wrap64 (t216 - (Int.tmod t216 t220))), .int .i64 t230] (0, 0) _ rfl (by refine bd_ ?_; refine blk_put (cs := #[.int .i64 (wrap64 (t216 - (Int.tmod t216 t220))), .int .i64 0]) ?_ 1 _ rfl; refine bd_ ?_; refine blk_put (cs := #[.int .i64 0, .int .i64 0]) ?_ 0 _ rfl; refine bd_ ?_; refine blk_far ?_ NB191_219.out _; refine bd_ ?_; exact BK191.out) Try.underlying28 rfl (by kernel_rfl)) rfl ?_
  exact ⟨by first | rfl | (simp [errW_none, errW_some] <;> rfl) | (simp [*, errW_none, errW_some] <;> rfl), is112_, bw112_, kx_ HK⟩
 rw [if_neg c14] at H
 have c14b0 : (t224 == 0) = false := beq_eq_false_iff_ne.mpr c14
 have c14b1 : (t224 != 0) = true := bne_iff_ne.mpr c14
 by_cases c46 : t224 = 1
 ·rw [if_pos c46] at H
  have c46b0 : (t224 == 1) = true := beq_iff_eq.mpr c46
  have c46b1 : (t224 != 1) = false := bne_eq_false_iff_eq.mpr c46
  clear c46
  obtain ⟨y233, hy233⟩ : ∃ y_ : List Int, y_ = (([(-1), 65536, 1, 65535] : List Int)) := ⟨_, rfl⟩
  replace H : ((spec_l01PickInt.f s0_0 t225 t226 y233).bind fun bt236 => (some (bt236.1, t204, bt236.2.1, bt236.2.2))) = some (r1, r2, r3, r4) := by first | (rw [hy233]; with_reducible exact H) | (have H2_ := (Option.bind_some _ _).symm.trans H; rw [hy233]; with_reducible exact H2_) | (have H2_ := (Option.bind_some _ _).symm.trans H; with_reducible exact H2_) | with_reducible exact H | (rw [hy233]; exact H) | exact H
  have Ny233 := Aside0.mk hy233
  clear hy233
  replace H := Option.bind_eq_some_iff.mp H
  obtain ⟨⟨t236, t237, t238⟩, A470, H⟩ := H
  have A47 := Aside0.mk A470
  clear A470
  simp only [Option.some.injEq, Prod.mk.injEq] at H
  obtain ⟨rfl, rfl, rfl, rfl⟩ := H
  refine skip_ (w1 := ?_) (by rfl) rfl ?_ ?_
  rotate_left; · go_simp; rfl
  refine hK.out _ _ ?_
  clear hK K
  refine done_ (done_of HT_.out (by kernel_rfl)) ?_
  try go_wp2_with (first | ((with_reducible refine gate_callee (f := 81) rfl ?_); refine gl_ (some 35) Try.func81 #[.pointer (some ⟨g, 0, none⟩), .int .i64 30] ?_; (with_reducible refine (spec_l01Once.calls g s0_0 t217 t218 30 true t222 t223 w0 _ ?side1 ?side2 A11.out).mono ?_); (case side1 => exact is112_); (case side2 => exact bw112_); rintro e w69 ⟨rfl, hi, hb, hk⟩; refine ⟨_, rfl, ?_⟩; replace BK191 := kc_ BK191 NB191_0 hk; replace HO203 := Aside0.mk (Kd.R_mono (Kd.R_keep (IsS112.apart (show IsS112 w0 _ g s0_0 t217 t218 from is112_) (hs_ HO203 BK219) (by decide)) hk (fun _ h => h.2)) (fun _ h => h.1)); replace HO215 := Aside0.mk (Kd.R_mono (Kd.R_keep (IsS112.apart (show IsS112 w0 _ g s0_0 t217 t218 from is112_) (hs_ HO215 BK219) (by decide)) hk (fun _ h => h.2)) (fun _ h => h.1)); replace BK219 := Aside0.mk (KeepBut.blk hk (g' := gb219) (o := .cells #[.int .i64 (wrap64 (t216 - (Int.tmod t216 t220))), .int .i64 t204] 28 (0, 0)) (by refine bd_ ?_; refine blk_put (cs := #[.int .i64 t216, .int .i64 t204]) ?_ 0 _ rfl; refine bd_ ?_; exact BK219.out) NB219_0.out (by simp)); replace HK := kt_ HK hk; replace HB := Aside0.mk (hb); replace HI0 := Aside0.mk (hi); (try clear hb); (try clear hb2); (try clear hk); (try clear hi)) | ((with_reducible refine gate_callee (f := 44) rfl ?_); refine gl_ (some 37) Try.func44 #[.pointer (some ⟨g, 0, none⟩), .int .i64 3] ?_; (with_reducible refine (spec_l01Below.calls g s0_0 t222 t223 3 t224 t225 t226 w0 _ ?side1 ?side2 A13.out).mono ?_); (case side1 => exact is112_); (case side2 => exact bw112_); rintro e w70 ⟨rfl, hi, hb, hk⟩; refine ⟨_, rfl, ?_⟩; replace BK191 := kb_ BK191 NB191_0 hk; replace HO203 := ak112_ HO203 (show IsS112 w0 _ g s0_0 t222 t223 from is112_) hk; replace HO215 := ak112_ HO215 (show IsS112 w0 _ g s0_0 t222 t223 from is112_) hk; replace BK219 := Aside0.mk (KeepBut.blk hk (g' := gb219) (o := .cells #[.int .i64 (wrap64 (t216 - (Int.tmod t216 t220))), .int .i64 t204] 28 (0, 0)) (bx_ BK219) NB219_0.out (by simp)); replace HK := kt_ HK hk; replace HB := Aside0.mk (hb); replace HI0 := Aside0.mk (hi); (try clear hb); (try clear hb2); (try clear hk); (try clear hi)) | ((with_reducible refine gate_dst (N := 47) rfl ?_); refine Kd.R_lit (Kd.int .i64) _ 3 ?hg (N := 47) ?hd (xs := ([(-1), 65536, 1, 65535] : List Int)) (inner := [.int .i64 (-1), .int .i64 65536, .int .i64 1, .int .i64 65535]) (ok := fun _ => True) (okp := fun _ => True) ?hr ?hp (fun _ hk => hk) trivial (Below.refl _ _) (Nat.le_refl _) (by simp) ?_; (case hd => rfl); (case hg => rfl); (case hr => first | (go_simp; done) | (go_simp; rfl)); (case hp => exact (Reps.one (show Kd.M (Kd.int .i64) _ _ _ (-1) [.int .i64 (-1)] from rfl) (Reps.one (show Kd.M (Kd.int .i64) _ _ _ 65536 [.int .i64 65536] from rfl) (Reps.one (show Kd.M (Kd.int .i64) _ _ _ 1 [.int .i64 1] from rfl) (Reps.one (show Kd.M (Kd.int .i64) _ _ _ 65535 [.int .i64 65535] from rfl) (Reps.none _ _)))))); intro v234 w71 ho72 hb hg_ hnew_; clear hg_ hnew_; (first | rw [← Ny233.out] at ho72 | (simp only [Int.reduceToNat] at ho72; rw [← Ny233.out] at ho72)); have HO235 := Aside0.mk (Kd.R_lower (Kd.R_new' (Kd.R_new' ho72 (Kd.R_lt (hd_ HO203))) (Kd.R_lt (hd_ HO215))) (keep_size (w := w) (g := g) (row := none) (kx_ HK))); replace HO203 := Aside0.mk (Kd.R_elder' (hd_ HO203) (Kd.R_base ho72) hb); replace HO215 := Aside0.mk (Kd.R_elder' (hd_ HO215) (Kd.R_base ho72) hb); replace BK191 := ab_ BK191 hb; replace BK219 := ab_ BK219 hb; replace HK := kt_ HK (KeepBut.of_below hb g none); replace HB := bs112_ hb; replace HI0 := Aside0.mk (IsS112.below is112_ hb); clear hb ho72; obtain ⟨Ao73, co73, eo73⟩ := Kd.R_slice HO235.out; subst eo73) | ((with_reducible refine gate_callee (f := 43) rfl ?_); refine gl_ (some 48) Try.func43 #[.pointer (some ⟨g, 0, none⟩), .slice Ao73 y233.length co73] ?_; (with_reducible refine (spec_l01PickInt.calls g s0_0 t225 t226 _ _ y233 t236 t237 t238 w0 _ ?side1 ?side2 ?side3 ?side4 ?side5 A47.out).mono ?_); (case side1 => exact is112_); (case side2 => exact bw112_); (case side3 => exact rc_ HO235); (case side4 => exact (Kd.R_reads' HO235.out).2.1); (case side5 => exact far_slice (IsS112.own_ne HI0.out HO235.out (by decide))); rintro e w74 ⟨rfl, hi, hb, hk⟩; refine ⟨_, rfl, ?_⟩; replace BK191 := kb_ BK191 NB191_0 hk; replace HO203 := ak112_ HO203 (show IsS112 w0 _ g s0_0 t225 t226 from is112_) hk; replace HO215 := ak112_ HO215 (show IsS112 w0 _ g s0_0 t225 t226 from is112_) hk; replace BK219 := Aside0.mk (KeepBut.blk hk (g' := gb219) (o := .cells #[.int .i64 (wrap64 (t216 - (Int.tmod t216 t220))), .int .i64 t204] 28 (0, 0)) (bx_ BK219) NB219_0.out (by simp)); replace HO235 := ak112_ HO235 (show IsS112 w0 _ g s0_0 t225 t226 from is112_) hk; replace HK := kt_ HK hk; replace HB := Aside0.mk (hb); replace HI0 := Aside0.mk (hi); (try clear hb); (try clear hb2); (try clear hk); (try clear hi); have hcz75_0 := cz_ BK219 0 (.int .i64 (wrap64 (t216 - (Int.tmod t216 t220)))); have hcz75_1 := cz_ BK219 1 (.int .i64 t204); have hfz75_0 := fz_ BK219 0; have hfz75_1 := fz_ BK219 1; have hnb76 := NB191_0.out; have hnc76 := NB0_191.out; have hcz77_0 := cz_ BK191 0 (.int .i64 0); have hcz77_1 := cz_ BK191 1 (.int .i64 0); have hfz77_0 := fz_ BK191 0; have hfz77_1 := fz_ BK191 1))
  refine bodyPost_ret (results_cell_row rfl _ _ gb191 28 #[.int .i64 t236, .int .i64 t204] (0, 0) _ rfl (by refine bd_ ?_; refine blk_put (cs := #[.int .i64 t236, .int .i64 0]) ?_ 1 _ rfl; refine bd_ ?_; refine blk_put (cs := #[.int .i64 0, .int .i64 0]) ?_ 0 _ rfl; refine bd_ ?_; refine blk_far ?_ NB191_219.out _; refine bd_ ?_; exact BK191.out) Try.underlying28 rfl (by kernel_rfl)) rfl ?_
  exact ⟨by first | rfl | (simp [errW_none, errW_some] <;> rfl) | (simp [*, errW_none, errW_some] <;> rfl), is112_, bw112_, kx_ HK⟩
 rw [if_neg c46] at H
 have c46b0 : (t224 == 1) = false := beq_eq_false_iff_ne.mpr c46
 have c46b1 : (t224 != 1) = true := bne_iff_ne.mpr c46
 by_cases c78 : t224 = 2
 rotate_left
 ·rw [if_neg c78] at H
  have c78b0 : (t224 == 2) = false := beq_eq_false_iff_ne.mpr c78
  have c78b1 : (t224 != 2) = true := bne_iff_ne.mpr c78
  simp only [Option.some.injEq, Prod.mk.injEq] at H
  obtain ⟨rfl, rfl, rfl, rfl⟩ := H
  refine skip_ (w1 := ?_) (by rfl) rfl ?_ ?_
  rotate_left; · go_simp; rfl
  refine hK.out _ _ ?_
  clear hK K
  refine done_ (done_of HT_.out (by kernel_rfl)) ?_
  try go_wp2_with (first | ((with_reducible refine gate_callee (f := 81) rfl ?_); refine gl_ (some 35) Try.func81 #[.pointer (some ⟨g, 0, none⟩), .int .i64 30] ?_; (with_reducible refine (spec_l01Once.calls g s0_0 t217 t218 30 true t222 t223 w0 _ ?side1 ?side2 A11.out).mono ?_); (case side1 => exact is112_); (case side2 => exact bw112_); rintro e w126 ⟨rfl, hi, hb, hk⟩; refine ⟨_, rfl, ?_⟩; replace BK191 := kc_ BK191 NB191_0 hk; replace HO203 := Aside0.mk (Kd.R_mono (Kd.R_keep (IsS112.apart (show IsS112 w0 _ g s0_0 t217 t218 from is112_) (hs_ HO203 BK219) (by decide)) hk (fun _ h => h.2)) (fun _ h => h.1)); replace HO215 := Aside0.mk (Kd.R_mono (Kd.R_keep (IsS112.apart (show IsS112 w0 _ g s0_0 t217 t218 from is112_) (hs_ HO215 BK219) (by decide)) hk (fun _ h => h.2)) (fun _ h => h.1)); replace BK219 := Aside0.mk (KeepBut.blk hk (g' := gb219) (o := .cells #[.int .i64 (wrap64 (t216 - (Int.tmod t216 t220))), .int .i64 t204] 28 (0, 0)) (by refine bd_ ?_; refine blk_put (cs := #[.int .i64 t216, .int .i64 t204]) ?_ 0 _ rfl; refine bd_ ?_; exact BK219.out) NB219_0.out (by simp)); replace HK := kt_ HK hk; replace HB := Aside0.mk (hb); replace HI0 := Aside0.mk (hi); (try clear hb); (try clear hb2); (try clear hk); (try clear hi)) | ((with_reducible refine gate_callee (f := 44) rfl ?_); refine gl_ (some 37) Try.func44 #[.pointer (some ⟨g, 0, none⟩), .int .i64 3] ?_; (with_reducible refine (spec_l01Below.calls g s0_0 t222 t223 3 t224 t225 t226 w0 _ ?side1 ?side2 A13.out).mono ?_); (case side1 => exact is112_); (case side2 => exact bw112_); rintro e w127 ⟨rfl, hi, hb, hk⟩; refine ⟨_, rfl, ?_⟩; replace BK191 := kb_ BK191 NB191_0 hk; replace HO203 := ak112_ HO203 (show IsS112 w0 _ g s0_0 t222 t223 from is112_) hk; replace HO215 := ak112_ HO215 (show IsS112 w0 _ g s0_0 t222 t223 from is112_) hk; replace BK219 := Aside0.mk (KeepBut.blk hk (g' := gb219) (o := .cells #[.int .i64 (wrap64 (t216 - (Int.tmod t216 t220))), .int .i64 t204] 28 (0, 0)) (bx_ BK219) NB219_0.out (by simp)); replace HK := kt_ HK hk; replace HB := Aside0.mk (hb); replace HI0 := Aside0.mk (hi); (try clear hb); (try clear hb2); (try clear hk); (try clear hi); have hcz128_0 := cz_ BK219 0 (.int .i64 (wrap64 (t216 - (Int.tmod t216 t220)))); have hcz128_1 := cz_ BK219 1 (.int .i64 t204); have hfz128_0 := fz_ BK219 0; have hfz128_1 := fz_ BK219 1; have hnb129 := NB191_0.out; have hnc129 := NB0_191.out; have hcz130_0 := cz_ BK191 0 (.int .i64 0); have hcz130_1 := cz_ BK191 1 (.int .i64 0); have hfz130_0 := fz_ BK191 0; have hfz130_1 := fz_ BK191 1))
  refine bodyPost_ret (results_cell_row rfl _ _ gb191 28 #[.int .i64 (wrap64 (t216 - (Int.tmod t216 t220))), .int .i64 t204] (0, 0) _ rfl (by refine bd_ ?_; refine blk_put (cs := #[.int .i64 (wrap64 (t216 - (Int.tmod t216 t220))), .int .i64 0]) ?_ 1 _ rfl; refine bd_ ?_; refine blk_put (cs := #[.int .i64 0, .int .i64 0]) ?_ 0 _ rfl; refine bd_ ?_; exact BK191.out) Try.underlying28 rfl (by kernel_rfl)) rfl ?_
  exact ⟨by first | rfl | (simp [errW_none, errW_some] <;> rfl) | (simp [*, errW_none, errW_some] <;> rfl), is112_, bw112_, kx_ HK⟩
 rw [if_pos c78] at H
 have c78b0 : (t224 == 2) = true := beq_iff_eq.mpr c78
 have c78b1 : (t224 != 2) = false := bne_eq_false_iff_eq.mpr c78
 clear c78
 simp only [Option.some.injEq, Prod.mk.injEq] at H
 obtain ⟨rfl, rfl, rfl, rfl⟩ := H
 refine skip_ (w1 := ?_) (by rfl) rfl ?_ ?_
 rotate_left; · go_simp; rfl
 refine hK.out _ _ ?_
 clear hK K
 refine done_ (done_of HT_.out (by kernel_rfl)) ?_
 try go_wp2_with (first | ((with_reducible refine gate_callee (f := 81) rfl ?_); refine gl_ (some 35) Try.func81 #[.pointer (some ⟨g, 0, none⟩), .int .i64 30] ?_; (with_reducible refine (spec_l01Once.calls g s0_0 t217 t218 30 true t222 t223 w0 _ ?side1 ?side2 A11.out).mono ?_); (case side1 => exact is112_); (case side2 => exact bw112_); rintro e w100 ⟨rfl, hi, hb, hk⟩; refine ⟨_, rfl, ?_⟩; replace BK191 := kc_ BK191 NB191_0 hk; replace HO203 := Aside0.mk (Kd.R_mono (Kd.R_keep (IsS112.apart (show IsS112 w0 _ g s0_0 t217 t218 from is112_) (hs_ HO203 BK219) (by decide)) hk (fun _ h => h.2)) (fun _ h => h.1)); replace HO215 := Aside0.mk (Kd.R_mono (Kd.R_keep (IsS112.apart (show IsS112 w0 _ g s0_0 t217 t218 from is112_) (hs_ HO215 BK219) (by decide)) hk (fun _ h => h.2)) (fun _ h => h.1)); replace BK219 := Aside0.mk (KeepBut.blk hk (g' := gb219) (o := .cells #[.int .i64 (wrap64 (t216 - (Int.tmod t216 t220))), .int .i64 t204] 28 (0, 0)) (by refine bd_ ?_; refine blk_put (cs := #[.int .i64 t216, .int .i64 t204]) ?_ 0 _ rfl; refine bd_ ?_; exact BK219.out) NB219_0.out (by simp)); replace HK := kt_ HK hk; replace HB := Aside0.mk (hb); replace HI0 := Aside0.mk (hi); (try clear hb); (try clear hb2); (try clear hk); (try clear hi)) | ((with_reducible refine gate_callee (f := 44) rfl ?_); refine gl_ (some 37) Try.func44 #[.pointer (some ⟨g, 0, none⟩), .int .i64 3] ?_; (with_reducible refine (spec_l01Below.calls g s0_0 t222 t223 3 t224 t225 t226 w0 _ ?side1 ?side2 A13.out).mono ?_); (case side1 => exact is112_); (case side2 => exact bw112_); rintro e w101 ⟨rfl, hi, hb, hk⟩; refine ⟨_, rfl, ?_⟩; replace BK191 := kb_ BK191 NB191_0 hk; replace HO203 := ak112_ HO203 (show IsS112 w0 _ g s0_0 t222 t223 from is112_) hk; replace HO215 := ak112_ HO215 (show IsS112 w0 _ g s0_0 t222 t223 from is112_) hk; replace BK219 := Aside0.mk (KeepBut.blk hk (g' := gb219) (o := .cells #[.int .i64 (wrap64 (t216 - (Int.tmod t216 t220))), .int .i64 t204] 28 (0, 0)) (bx_ BK219) NB219_0.out (by simp)); replace HK := kt_ HK hk; replace HB := Aside0.mk (hb); replace HI0 := Aside0.mk (hi); (try clear hb); (try clear hb2); (try clear hk); (try clear hi); have hcz102_0 := cz_ BK219 0 (.int .i64 (wrap64 (t216 - (Int.tmod t216 t220)))); have hcz102_1 := cz_ BK219 1 (.int .i64 t204); have hfz102_0 := fz_ BK219 0; have hfz102_1 := fz_ BK219 1; have hnb103 := NB191_0.out; have hnc103 := NB0_191.out; have hcz104_0 := cz_ BK191 0 (.int .i64 0); have hcz104_1 := cz_ BK191 1 (.int .i64 0); have hfz104_0 := fz_ BK191 0; have hfz104_1 := fz_ BK191 1))
 refine bodyPost_ret (results_cell_row rfl _ _ gb191 28 #[.int .i64 (wrap64 ((wrap64 (t216 - (Int.tmod t216 t220))) + 1)), .int .i64 t204] (0, 0) _ rfl (by refine bd_ ?_; refine blk_put (cs := #[.int .i64 (wrap64 ((wrap64 (t216 - (Int.tmod t216 t220))) + 1)), .int .i64 0]) ?_ 1 _ rfl; refine bd_ ?_; refine blk_put (cs := #[.int .i64 0, .int .i64 0]) ?_ 0 _ rfl; refine bd_ ?_; refine blk_far ?_ NB191_219.out _; refine bd_ ?_; exact BK191.out) Try.underlying28 rfl (by kernel_rfl)) rfl ?_
 exact ⟨by first | rfl | (simp [errW_none, errW_some] <;> rfl) | (simp [*, errW_none, errW_some] <;> rfl), is112_, bw112_, kx_ HK⟩

end Go.Proofs.Ytjepmdngbafonaa.QFnRoutes
