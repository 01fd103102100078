/- Contracts of functions that the law reaches: what each call returns and what it leaves in memory. Made by this session over the print of the kit. -/
import Derived.Test.YtjepmdngbafonaaQFnSqueezedx0
import Derived.Test.YtjepmdngbafonaaQFnSqueezedx6
import Derived.Test.YtjepmdngbafonaaQFnSqueezedx9
namespace Go.Proofs.Ytjepmdngbafonaa.QFnSqueezed
open Go.RowKit Go.Proofs.YtjepmdngbafonaaZ.PrintWords Go.Proofs.YtjepmdngbafonaaZ.PrintLast Go.Proofs.YtjepmdngbafonaaZ.PrintMore
attribute [local go_sem] max2_int min2_int max_two min_two max_three min_three max_four min_four   -- for this text's walks alone
set_option linter.unusedVariables false
set_option linter.unusedSimpArgs false
def ba11_0 := bs_ 10 0
def ba11_1 := bs_ 10 1
def ba11_2 := bs_ 10 5
def ba11_3 := bs_ 10 21
def ba11_4 := bs_ 10 23
def ba11_5 := bs_ 10 31
def ba11_6 := bs_ 10 63
def ba11_7 := bs_ 10 127
def ba11_8 := bs_ 10 255
def ba11_9 := bs_ 10 511
def ba11_10 := bs_ 10 1023

/-! ### spec_l01DrawPrefix: function 86 -/
def spec_l01DrawPrefix.f (s0_0 : List Int) (s0_1 : Int) (s0_2 : Int) : Option (Int × Int × Int × Int) := (spec_l01Below.f s0_0 s0_1 s0_2 17).bind fun bt238 => ((spec_l01Below.f s0_0 bt238.2.1 bt238.2.2 9).bind fun bt241 => ((spec_l01Below.f s0_0 bt241.2.1 bt241.2.2 9).bind fun bt244 => ((spec_l01PickInt.f s0_0 bt244.2.1 bt244.2.2 (([0, 1, 4, 8, 12, 15, 16, bt238.1, wrap64 (8 + bt241.1), wrap64 (8 + bt244.1)] : List Int))).bind fun bt250 => ((spec_l01Below.f s0_0 bt250.2.1 bt250.2.2 65536).bind fun bt253 => ((spec_l01Below.f s0_0 bt253.2.1 bt253.2.2 2048).bind fun bt256 => ((spec_l01PickInt.f s0_0 bt256.2.1 bt256.2.2 (([0, 2560, bt253.1, bt256.1] : List Int))).bind fun bt262 => ((spec_l01Size2.f bt250.1).bind fun t266 => (if t266 = 0 then (none) else ((spec_l01Once.f s0_0 bt262.2.1 bt262.2.2 30).bind fun bt267 => (if bt267.1 = true then ((spec_l01Below.f s0_0 bt267.2.1 bt267.2.2 3).bind fun bt270 => (if bt270.1 = 0 then ((spec_l01PickInt.f s0_0 bt270.2.1 bt270.2.2 (([(-1), 17, 3] : List Int))).bind fun bt276 => (some (wrap64 (bt262.1 - (Int.tmod bt262.1 t266)), bt276.1, bt276.2.1, bt276.2.2))) else (if bt270.1 = 1 then ((spec_l01PickInt.f s0_0 bt270.2.1 bt270.2.2 (([(-1), 65536, 1, 65535] : List Int))).bind fun bt282 => (some (bt282.1, bt250.1, bt282.2.1, bt282.2.2))) else (if bt270.1 = 2 then (some (wrap64 ((wrap64 (bt262.1 - (Int.tmod bt262.1 t266))) + 1), bt250.1, bt270.2.1, bt270.2.2)) else (some (wrap64 (bt262.1 - (Int.tmod bt262.1 t266)), bt250.1, bt270.2.1, bt270.2.2)))))) else (some (wrap64 (bt262.1 - (Int.tmod bt262.1 t266)), bt250.1, bt267.2.1, bt267.2.2))))))))))))
def spec_l01DrawPrefix.T3 : Bool × List (List Nat × List Nat) := (true, [([], []), ([0], [0]), ([], []), ([2], [2]), ([], []), ([4], [4]), ([3, 5], [3, 5]), ([1, 6], [1, 6]), ([0, 1, 2, 3, 4, 5, 6, 7], []), ([8, 7, 5, 0, 1, 2, 3, 4, 5, 6, 7], [7, 8])])
def spec_l01DrawPrefix.B3 : List Nat := [0, 1, 0, 4, 0, 16, 60, 127, 255, 511]
theorem spec_l01DrawPrefix.tab3 : rtab .any (opsOf Try.f86 3) = spec_l01DrawPrefix.T3 := by kernel_rfl
theorem spec_l01DrawPrefix.bits3 : waitsOk spec_l01DrawPrefix.T3.2 spec_l01DrawPrefix.B3 = true := by kernel_rfl
set_option maxHeartbeats 8000000 in
set_option maxRecDepth 100000 in
theorem spec_l01DrawPrefix.calls (g : Nat) (s0_0 : List Int) (s0_1 : Int) (s0_2 : Int) (r1 : Int) (r2 : Int) (r3 : Int) (r4 : Int) (w0 w : World) (hI : IsS112 w0 w g s0_0 s0_1 s0_2) (hB : Below w0.heap.size w0 w) (h : spec_l01DrawPrefix.f s0_0 s0_1 s0_2 = some (r1, r2, r3, r4)) :
  Calls Try.prog 86 #[.pointer (some ⟨g, 0, none⟩)] w fun e w' => e = .returned (.agg #[.int .i64 r1, .int .i64 r2]) ∧ IsS112 w0 w' g s0_0 r3 r4 ∧ Below w0.heap.size w0 w' ∧ KeepBut w w' g none := by
 have hu28 := Try.underlying28
 have HI0 := Aside0.mk hI
 have HK := Aside0.mk (KeepBut.refl w g none)
 have HL := Aside0.mk hB.size
 clear hI
 have HW0 := Aside0.mk hB.size
 have HB := Aside0.mk hB
 clear hB
 have H : ((spec_l01Below.f s0_0 s0_1 s0_2 17).bind fun bt238 => ((spec_l01Below.f s0_0 bt238.2.1 bt238.2.2 9).bind fun bt241 => ((spec_l01Below.f s0_0 bt241.2.1 bt241.2.2 9).bind fun bt244 => ((spec_l01PickInt.f s0_0 bt244.2.1 bt244.2.2 (([0, 1, 4, 8, 12, 15, 16, bt238.1, wrap64 (8 + bt241.1), wrap64 (8 + bt244.1)] : List Int))).bind fun bt250 => ((spec_l01Below.f s0_0 bt250.2.1 bt250.2.2 65536).bind fun bt253 => ((spec_l01Below.f s0_0 bt253.2.1 bt253.2.2 2048).bind fun bt256 => ((spec_l01PickInt.f s0_0 bt256.2.1 bt256.2.2 (([0, 2560, bt253.1, bt256.1] : List Int))).bind fun bt262 => ((spec_l01Size2.f bt250.1).bind fun t266 => (if t266 = 0 then (none) else ((spec_l01Once.f s0_0 bt262.2.1 bt262.2.2 30).bind fun bt267 => (if bt267.1 = true then ((spec_l01Below.f s0_0 bt267.2.1 bt267.2.2 3).bind fun bt270 => (if bt270.1 = 0 then ((spec_l01PickInt.f s0_0 bt270.2.1 bt270.2.2 (([(-1), 17, 3] : List Int))).bind fun bt276 => (some (wrap64 (bt262.1 - (Int.tmod bt262.1 t266)), bt276.1, bt276.2.1, bt276.2.2))) else (if bt270.1 = 1 then ((spec_l01PickInt.f s0_0 bt270.2.1 bt270.2.2 (([(-1), 65536, 1, 65535] : List Int))).bind fun bt282 => (some (bt282.1, bt250.1, bt282.2.1, bt282.2.2))) else (if bt270.1 = 2 then (some (wrap64 ((wrap64 (bt262.1 - (Int.tmod bt262.1 t266))) + 1), bt250.1, bt270.2.1, bt270.2.2)) else (some (wrap64 (bt262.1 - (Int.tmod bt262.1 t266)), bt250.1, bt270.2.1, bt270.2.2)))))) else (some (wrap64 (bt262.1 - (Int.tmod bt262.1 t266)), bt250.1, bt267.2.1, bt267.2.2))))))))))))) = some (r1, r2, r3, r4) := h
 clear h
 obtain ⟨⟨t238, t239, t240⟩, A2, H⟩ := ob_ H
 obtain ⟨⟨t241, t242, t243⟩, A3, H⟩ := ob_ H
 obtain ⟨⟨t244, t245, t246⟩, A4, H⟩ := ob_ H
 obtain ⟨y247, hy247⟩ : ∃ y_ : List Int, y_ = (([0, 1, 4, 8, 12, 15, 16, t238, wrap64 (8 + t241), wrap64 (8 + t244)] : List Int)) := ⟨_, rfl⟩
 replace H : ((spec_l01PickInt.f s0_0 t245 t246 y247).bind fun bt250 => ((spec_l01Below.f s0_0 bt250.2.1 bt250.2.2 65536).bind fun bt253 => ((spec_l01Below.f s0_0 bt253.2.1 bt253.2.2 2048).bind fun bt256 => ((spec_l01PickInt.f s0_0 bt256.2.1 bt256.2.2 (([0, 2560, bt253.1, bt256.1] : List Int))).bind fun bt262 => ((spec_l01Size2.f bt250.1).bind fun t266 => (if t266 = 0 then (none) else ((spec_l01Once.f s0_0 bt262.2.1 bt262.2.2 30).bind fun bt267 => (if bt267.1 = true then ((spec_l01Below.f s0_0 bt267.2.1 bt267.2.2 3).bind fun bt270 => (if bt270.1 = 0 then ((spec_l01PickInt.f s0_0 bt270.2.1 bt270.2.2 (([(-1), 17, 3] : List Int))).bind fun bt276 => (some (wrap64 (bt262.1 - (Int.tmod bt262.1 t266)), bt276.1, bt276.2.1, bt276.2.2))) else (if bt270.1 = 1 then ((spec_l01PickInt.f s0_0 bt270.2.1 bt270.2.2 (([(-1), 65536, 1, 65535] : List Int))).bind fun bt282 => (some (bt282.1, bt250.1, bt282.2.1, bt282.2.2))) else (if bt270.1 = 2 then (some (wrap64 ((wrap64 (bt262.1 - (Int.tmod bt262.1 t266))) + 1), bt250.1, bt270.2.1, bt270.2.2)) else (some (wrap64 (bt262.1 - (Int.tmod bt262.1 t266)), bt250.1, bt270.2.1, bt270.2.2)))))) else (some (wrap64 (bt262.1 - (Int.tmod bt262.1 t266)), bt250.1, bt267.2.1, bt267.2.2)))))))))) = some (r1, r2, r3, r4) := by first | (rw [hy247]; with_reducible exact H) | (have H2_ := (Option.bind_some _ _).symm.trans H; rw [hy247]; with_reducible exact H2_) | (have H2_ := (Option.bind_some _ _).symm.trans H; with_reducible exact H2_) | with_reducible exact H | (rw [hy247]; exact H) | exact H
 have Ny247 := Aside0.mk hy247
 clear hy247
 obtain ⟨⟨t250, t251, t252⟩, A5, H⟩ := ob_ H
 obtain ⟨⟨t253, t254, t255⟩, A6, H⟩ := ob_ H
 obtain ⟨⟨t256, t257, t258⟩, A7, H⟩ := ob_ H
 obtain ⟨y259, hy259⟩ : ∃ y_ : List Int, y_ = (([0, 2560, t253, t256] : List Int)) := ⟨_, rfl⟩
 replace H : ((spec_l01PickInt.f s0_0 t257 t258 y259).bind fun bt262 => ((spec_l01Size2.f t250).bind fun t266 => (if t266 = 0 then (none) else ((spec_l01Once.f s0_0 bt262.2.1 bt262.2.2 30).bind fun bt267 => (if bt267.1 = true then ((spec_l01Below.f s0_0 bt267.2.1 bt267.2.2 3).bind fun bt270 => (if bt270.1 = 0 then ((spec_l01PickInt.f s0_0 bt270.2.1 bt270.2.2 (([(-1), 17, 3] : List Int))).bind fun bt276 => (some (wrap64 (bt262.1 - (Int.tmod bt262.1 t266)), bt276.1, bt276.2.1, bt276.2.2))) else (if bt270.1 = 1 then ((spec_l01PickInt.f s0_0 bt270.2.1 bt270.2.2 (([(-1), 65536, 1, 65535] : List Int))).bind fun bt282 => (some (bt282.1, t250, bt282.2.1, bt282.2.2))) else (if bt270.1 = 2 then (some (wrap64 ((wrap64 (bt262.1 - (Int.tmod bt262.1 t266))) + 1), t250, bt270.2.1, bt270.2.2)) else (some (wrap64 (bt262.1 - (Int.tmod bt262.1 t266)), t250, bt270.2.1, bt270.2.2)))))) else (some (wrap64 (bt262.1 - (Int.tmod bt262.1 t266)), t250, bt267.2.1, bt267.2.2))))))) = some (r1, r2, r3, r4) := by first | (rw [hy259]; with_reducible exact H) | (have H2_ := (Option.bind_some _ _).symm.trans H; rw [hy259]; with_reducible exact H2_) | (have H2_ := (Option.bind_some _ _).symm.trans H; with_reducible exact H2_) | with_reducible exact H | (rw [hy259]; exact H) | exact H
 have Ny259 := Aside0.mk hy259
 clear hy259
 obtain ⟨⟨t262, t263, t264⟩, A8, H⟩ := ob_ H
 obtain ⟨t266, A9, H⟩ := ob_ H
 by_cases c10 : t266 = 0
 ·rw [if_pos c10] at H
  exact absurd H (by simp)
 rw [if_neg c10] at H
 have c10b0 : (t266 == 0) = false := beq_eq_false_iff_ne.mpr c10
 have c10b1 : (t266 != 0) = true := bne_iff_ne.mpr c10
 obtain ⟨⟨t267, t268, t269⟩, A11, H⟩ := ob_ H
 have Hh_ := Aside0.mk H
 clear H
 go_enter Try.func86, Try.ntmps86
 try go_wp2_with (first | ((with_reducible refine gate_dst (N := 2) rfl ?_); refine be_ 2 #[.int .i64 0, .int .i64 0] 28 ?_; intro gb237 hg w16 BK237 hb; have GW237 := gw_ HK hg; have GE237 := gv_ HW0 HK hg; have NB0_237 := Aside0.mk ((by rw [hg]; exact Nat.ne_of_lt (IsS112.lt (show IsS112 w0 _ g s0_0 s0_1 s0_2 from is112_)) : g ≠ gb237)); have NB237_0 := Aside0.mk ((by rw [hg]; exact Nat.ne_of_gt (IsS112.lt (show IsS112 w0 _ g s0_0 s0_1 s0_2 from is112_)) : gb237 ≠ g)); replace HB := bs112_ hb; replace HK := kt_ HK (KeepBut.of_below hb g none); replace HI0 := Aside0.mk (IsS112.below is112_ hb); clear hb hg) | ((with_reducible refine gate_callee (f := 44) rfl ?_); refine gl_ (some 7) Try.func44 #[.pointer (some ⟨g, 0, none⟩), .int .i64 17] ?_; (with_reducible refine (spec_l01Below.calls g s0_0 s0_1 s0_2 17 t238 t239 t240 w0 _ ?side1 ?side2 A2.out).mono ?_); (case side1 => exact is112_); (case side2 => exact bw112_); rintro e w17 ⟨rfl, hi, hb, hk⟩; refine ⟨_, rfl, ?_⟩; replace BK237 := kb_ BK237 NB237_0 hk; replace HK := kt_ HK hk; replace HB := Aside0.mk (hb); replace HI0 := Aside0.mk (hi); clear hb hk hi) | ((with_reducible refine gate_callee (f := 44) rfl ?_); refine gl_ (some 9) Try.func44 #[.pointer (some ⟨g, 0, none⟩), .int .i64 9] ?_; (with_reducible refine (spec_l01Below.calls g s0_0 t239 t240 9 t241 t242 t243 w0 _ ?side1 ?side2 A3.out).mono ?_); (case side1 => exact is112_); (case side2 => exact bw112_); rintro e w18 ⟨rfl, hi, hb, hk⟩; refine ⟨_, rfl, ?_⟩; replace BK237 := kb_ BK237 NB237_0 hk; replace HK := kt_ HK hk; replace HB := Aside0.mk (hb); replace HI0 := Aside0.mk (hi); clear hb hk hi) | ((with_reducible refine gate_callee (f := 44) rfl ?_); refine gl_ (some 12) Try.func44 #[.pointer (some ⟨g, 0, none⟩), .int .i64 9] ?_; (with_reducible refine (spec_l01Below.calls g s0_0 t242 t243 9 t244 t245 t246 w0 _ ?side1 ?side2 A4.out).mono ?_); (case side1 => exact is112_); (case side2 => exact bw112_); rintro e w19 ⟨rfl, hi, hb, hk⟩; refine ⟨_, rfl, ?_⟩; replace BK237 := kb_ BK237 NB237_0 hk; replace HK := kt_ HK hk; replace HB := Aside0.mk (hb); replace HI0 := Aside0.mk (hi); clear hb hk hi) | ((with_reducible refine gate_dst (N := 14) rfl ?_); refine Kd.R_lit (Kd.int .i64) _ 3 ?hg (N := 14) ?hd (xs := ([0, 1, 4, 8, 12, 15, 16, t238, wrap64 (8 + t241), wrap64 (8 + t244)] : List Int)) (inner := [.int .i64 0, .int .i64 1, .int .i64 4, .int .i64 8, .int .i64 12, .int .i64 15, .int .i64 16, .int .i64 t238, .int .i64 (wrap64 (8 + t241)), .int .i64 (wrap64 (8 + t244))]) (ok := fun _ => True) (okp := fun _ => True) ?hr ?hp (fun _ hk => hk) trivial (Below.refl _ _) (Nat.le_refl _) (by simp) ?_; (case hd => rfl); (case hg => rfl); (case hr => first | (go_simp; done) | (go_simp; rfl)); (case hp => exact (Reps.one (show Kd.M (Kd.int .i64) _ _ _ 0 [.int .i64 0] from rfl) (Reps.one (show Kd.M (Kd.int .i64) _ _ _ 1 [.int .i64 1] from rfl) (Reps.one (show Kd.M (Kd.int .i64) _ _ _ 4 [.int .i64 4] from rfl) (Reps.one (show Kd.M (Kd.int .i64) _ _ _ 8 [.int .i64 8] from rfl) (Reps.one (show Kd.M (Kd.int .i64) _ _ _ 12 [.int .i64 12] from rfl) (Reps.one (show Kd.M (Kd.int .i64) _ _ _ 15 [.int .i64 15] from rfl) (Reps.one (show Kd.M (Kd.int .i64) _ _ _ 16 [.int .i64 16] from rfl) (Reps.one (show Kd.M (Kd.int .i64) _ _ _ t238 [.int .i64 t238] from rfl) (Reps.one (show Kd.M (Kd.int .i64) _ _ _ (wrap64 (8 + t241)) [.int .i64 (wrap64 (8 + t241))] from rfl) (Reps.one (show Kd.M (Kd.int .i64) _ _ _ (wrap64 (8 + t244)) [.int .i64 (wrap64 (8 + t244))] from rfl) (Reps.none _ _)))))))))))); intro v248 w20 ho21 hb hg_ hnew_; clear hg_ hnew_; (first | rw [← Ny247.out] at ho21 | (simp only [Int.reduceToNat] at ho21; rw [← Ny247.out] at ho21)); have HO249 := Aside0.mk (Kd.R_lower ho21 (keep_size (w := w) (g := g) (row := none) (kx_ HK))); replace BK237 := ab_ BK237 hb; replace HK := kt_ HK (KeepBut.of_below hb g none); replace HB := bs112_ hb; replace HI0 := Aside0.mk (IsS112.below is112_ hb); clear hb ho21; obtain ⟨Ao22, co22, eo22⟩ := Kd.R_slice HO249.out; subst eo22) | ((with_reducible refine gate_callee (f := 43) rfl ?_); refine gl_ (some 15) Try.func43 #[.pointer (some ⟨g, 0, none⟩), .slice Ao22 y247.length co22] ?_; (with_reducible refine (spec_l01PickInt.calls g s0_0 t245 t246 _ _ y247 t250 t251 t252 w0 _ ?side1 ?side2 ?side3 ?side4 ?side5 A5.out).mono ?_); (case side1 => exact is112_); (case side2 => exact bw112_); (case side3 => exact rc_ HO249); (case side4 => exact (Kd.R_reads' HO249.out).2.1); (case side5 => exact far_slice (IsS112.own_ne HI0.out HO249.out (by decide))); rintro e w23 ⟨rfl, hi, hb, hk⟩; refine ⟨_, rfl, ?_⟩; replace BK237 := kb_ BK237 NB237_0 hk; replace HO249 := ak112_ HO249 (show IsS112 w0 _ g s0_0 t245 t246 from is112_) hk; replace HK := kt_ HK hk; replace HB := Aside0.mk (hb); replace HI0 := Aside0.mk (hi); clear hb hk hi) | ((with_reducible refine gate_callee (f := 44) rfl ?_); refine gl_ (some 18) Try.func44 #[.pointer (some ⟨g, 0, none⟩), .int .i64 65536] ?_; (with_reducible refine (spec_l01Below.calls g s0_0 t251 t252 65536 t253 t254 t255 w0 _ ?side1 ?side2 A6.out).mono ?_); (case side1 => exact is112_); (case side2 => exact bw112_); rintro e w24 ⟨rfl, hi, hb, hk⟩; refine ⟨_, rfl, ?_⟩; replace BK237 := kb_ BK237 NB237_0 hk; replace HO249 := ak112_ HO249 (show IsS112 w0 _ g s0_0 t251 t252 from is112_) hk; replace HK := kt_ HK hk; replace HB := Aside0.mk (hb); replace HI0 := Aside0.mk (hi); clear hb hk hi) | ((with_reducible refine gate_callee (f := 44) rfl ?_); refine gl_ (some 20) Try.func44 #[.pointer (some ⟨g, 0, none⟩), .int .i64 2048] ?_; (with_reducible refine (spec_l01Below.calls g s0_0 t254 t255 2048 t256 t257 t258 w0 _ ?side1 ?side2 A7.out).mono ?_); (case side1 => exact is112_); (case side2 => exact bw112_); rintro e w25 ⟨rfl, hi, hb, hk⟩; refine ⟨_, rfl, ?_⟩; replace BK237 := kb_ BK237 NB237_0 hk; replace HO249 := ak112_ HO249 (show IsS112 w0 _ g s0_0 t254 t255 from is112_) hk; replace HK := kt_ HK hk; replace HB := Aside0.mk (hb); replace HI0 := Aside0.mk (hi); clear hb hk hi) | ((with_reducible refine gate_dst (N := 21) rfl ?_); refine Kd.R_lit (Kd.int .i64) _ 3 ?hg (N := 21) ?hd (xs := ([0, 2560, t253, t256] : List Int)) (inner := [.int .i64 0, .int .i64 2560, .int .i64 t253, .int .i64 t256]) (ok := fun _ => True) (okp := fun _ => True) ?hr ?hp (fun _ hk => hk) trivial (Below.refl _ _) (Nat.le_refl _) (by simp) ?_; (case hd => rfl); (case hg => rfl); (case hr => first | (go_simp; done) | (go_simp; rfl)); (case hp => exact (Reps.one (show Kd.M (Kd.int .i64) _ _ _ 0 [.int .i64 0] from rfl) (Reps.one (show Kd.M (Kd.int .i64) _ _ _ 2560 [.int .i64 2560] from rfl) (Reps.one (show Kd.M (Kd.int .i64) _ _ _ t253 [.int .i64 t253] from rfl) (Reps.one (show Kd.M (Kd.int .i64) _ _ _ t256 [.int .i64 t256] from rfl) (Reps.none _ _)))))); intro v260 w26 ho27 hb hg_ hnew_; clear hg_ hnew_; (first | rw [← Ny259.out] at ho27 | (simp only [Int.reduceToNat] at ho27; rw [← Ny259.out] at ho27)); have HO261 := Aside0.mk (Kd.R_lower (Kd.R_new' ho27 (Kd.R_lt (hd_ HO249))) (keep_size (w := w) (g := g) (row := none) (kx_ HK))); replace HO249 := Aside0.mk (Kd.R_elder' (hd_ HO249) (Kd.R_base ho27) hb); replace BK237 := ab_ BK237 hb; replace HK := kt_ HK (KeepBut.of_below hb g none); replace HB := bs112_ hb; replace HI0 := Aside0.mk (IsS112.below is112_ hb); clear hb ho27; obtain ⟨Ao28, co28, eo28⟩ := Kd.R_slice HO261.out; subst eo28) | ((with_reducible refine gate_callee (f := 43) rfl ?_); refine gl_ (some 22) Try.func43 #[.pointer (some ⟨g, 0, none⟩), .slice Ao28 y259.length co28] ?_; (with_reducible refine (spec_l01PickInt.calls g s0_0 t257 t258 _ _ y259 t262 t263 t264 w0 _ ?side1 ?side2 ?side3 ?side4 ?side5 A8.out).mono ?_); (case side1 => exact is112_); (case side2 => exact bw112_); (case side3 => exact rc_ HO261); (case side4 => exact (Kd.R_reads' HO261.out).2.1); (case side5 => exact far_slice (IsS112.own_ne HI0.out HO261.out (by decide))); rintro e w29 ⟨rfl, hi, hb, hk⟩; refine ⟨_, rfl, ?_⟩; replace BK237 := kb_ BK237 NB237_0 hk; replace HO249 := ak112_ HO249 (show IsS112 w0 _ g s0_0 t257 t258 from is112_) hk; replace HO261 := ak112_ HO261 (show IsS112 w0 _ g s0_0 t257 t258 from is112_) hk; replace HK := kt_ HK hk; replace HB := Aside0.mk (hb); replace HI0 := Aside0.mk (hi); clear hb hk hi) | ((with_reducible refine gate_dst (N := 4) rfl ?_); refine be_ 4 #[.int .i64 0, .int .i64 0] 28 ?_; intro gb265 hg w30 BK265 hb; have GW265 := gw_ HK hg; have GE265 := gv_ HW0 HK hg; have NB237_265 := nl_ BK237 hg; have NB265_237 := ng_ BK237 hg; have NB0_265 := Aside0.mk ((by rw [hg]; exact Nat.ne_of_lt (IsS112.lt (show IsS112 w0 _ g s0_0 t263 t264 from is112_)) : g ≠ gb265)); have NB265_0 := Aside0.mk ((by rw [hg]; exact Nat.ne_of_gt (IsS112.lt (show IsS112 w0 _ g s0_0 t263 t264 from is112_)) : gb265 ≠ g)); replace HO249 := rb_ HO249 hb; replace HO261 := rb_ HO261 hb; replace HB := bs112_ hb; replace HK := kt_ HK (KeepBut.of_below hb g none); replace BK237 := ab_ BK237 hb; replace HI0 := Aside0.mk (IsS112.below is112_ hb); clear hb hg; have hnb31 := NB265_237.out; have hnc31 := NB237_265.out; have hnb32 := NB265_0.out; have hnc32 := NB0_265.out; have hcz33_0 := cz_ BK265 0 (.int .i64 0); have hcz33_1 := cz_ BK265 1 (.int .i64 0); have hfz33_0 := fz_ BK265 0; have hfz33_1 := fz_ BK265 1))
 generalize hW_ : ((w30.setCell ⟨gb265, 0, none⟩ (.int .i64 t262)).setCell ⟨gb265, 1, none⟩ (.int .i64 t250)) = w34
 have n0_ : Aside0 (Kd.R (Kd.int .i64) 3 w34 w.heap.size (fun k_ => some k_ ≠ (.slice Ao28 y259.length co28 : Value).ownBlock) (.slice Ao22 y247.length co22) y247) := by subst hW_; exact ⟨by (with_reducible repeat (first | apply Kd.R_alloc | apply Kd.R_drewN | apply Kd.R_drew)); exact Kd.R_mono (Kd.R_far (Kd.R_far (Kd.R_types HO249.out BK265.out (by decide)) (fun _ hk => hk.2) _) (fun _ hk => hk.2) _) (fun _ hk => hk.1.2)⟩
 have n1_ : Aside0 (Kd.R (Kd.int .i64) 3 w34 w.heap.size (fun k_ => some k_ ≠ (.slice Ao22 y247.length co22 : Value).ownBlock) (.slice Ao28 y259.length co28) y259) := by subst hW_; exact ⟨by (with_reducible repeat (first | apply Kd.R_alloc | apply Kd.R_drewN | apply Kd.R_drew)); exact Kd.R_mono (Kd.R_far (Kd.R_far (Kd.R_types HO261.out BK265.out (by decide)) (fun _ hk => hk.2) _) (fun _ hk => hk.2) _) (fun _ hk => hk.1.2)⟩
 have n2_ : Aside0 (w34.heap[gb237]? = some (.cells #[.int .i64 0, .int .i64 0] 28 (0, 0))) := by subst hW_; exact ⟨bc_ BK237⟩
 have n3_ : Aside0 (w34.heap[gb265]? = some (.cells #[.int .i64 t262, .int .i64 t250] 28 (0, 0))) := by subst hW_; exact ⟨by refine bd_ ?_; refine blk_put (cs := #[.int .i64 t262, .int .i64 0]) ?_ 1 _ rfl; refine bd_ ?_; refine blk_put (cs := #[.int .i64 0, .int .i64 0]) ?_ 0 _ rfl; refine bd_ ?_; exact BK265.out⟩
 have n4_ : Aside0 (IsS112 w0 w34 g s0_0 t263 t264) := by subst hW_; exact ⟨is112_⟩
 have n5_ : Aside0 (KeepBut w w34 g none) := by subst hW_; exact ⟨kx_ HK⟩
 have n6_ : Aside0 (Below w0.heap.size w0 w34) := by subst hW_; exact ⟨bw112_⟩
 clear hW_ HO249 HO261 BK237 BK265 HI0 HK HB
 have HO249 := n0_
 have HO261 := n1_
 have BK237 := n2_
 have BK265 := n3_
 have HI0 := n4_
 have HK := n5_
 have HB := n6_
 clear n0_ n1_ n2_ n3_ n4_ n5_ n6_
 replace HO249 := Aside0.mk (Kd.R_drew HO249.out)
 replace HO261 := Aside0.mk (Kd.R_drew HO261.out)
 replace BK237 := ad_ BK237
 replace BK265 := ad_ BK265
 replace HI0 := Aside0.mk (IsS112.drew HI0.out)
 replace HK := Aside0.mk (keep_drew HK.out)
 replace HB := Aside0.mk (below_drew1 HB.out)
 refine start_ (n := 10) (S := fun w' => w'.cell? ⟨gb265, 0, none⟩ = some (.int .i64 t262) ∧ w'.cell? ⟨gb265, 1, none⟩ = some (.int .i64 t250)) (ds := [9]) ba11_0 (by kernel_rfl) rfl rfl ⟨bq5_ BK265 0, bq5_ BK265 1⟩ (fun hHeld => ?_); refine with_tabW spec_l01DrawPrefix.tab3 spec_l01DrawPrefix.bits3 (fun HT_ HW_ => ?_)
 generalize w34.drew = w35 at HO249 HO261 BK237 BK265 HI0 HK HB hHeld ⊢
 refine pz_ 0 25 ba11_1 HT_ ?_
 refine pz_ 2 27 ba11_2 HT_ ?_
 refine pz_ 4 29 ba11_3 HT_ ?_
 refine pt_ 1 26 ba11_4 HT_ HW_ hHeld ?_
 refine pt_ 3 28 ba11_5 HT_ HW_ hHeld ?_
 refine on_ 5 (some 30) ba11_6 HT_ (fun K hK => ?_)
 refine gz_ Try.func57 #[.int .i64 t250] ?_
 with_reducible refine (spec_l01Size2.calls t250 t266 _ A9.out).mono ?_
 rintro e w' ⟨rfl, ⟨nd, rfl⟩⟩
 refine ⟨_, rfl, ?_⟩
 refine hK.out _ _ ⟨bq5_ BK265 0, bq5_ BK265 1⟩ (fun hHeld => ?_)
 clear hK K
 refine nz_ 30 ?_
 refine pz_ 6 31 ba11_7 HT_ ?_
 refine pz_ 7 32 ba11_8 HT_ ?_
 refine pz_ 8 33 ba11_9 HT_ ?_
 refine last_ (i := 9) (N := none) ba11_10 rfl rfl (one_of HT_.out (by kernel_rfl)) (by decide) (fun K hK => ?_)
 have hs36 : w35.cell? ⟨gb265, 0, none⟩ = some (.int .i64 t262) := bq5_ BK265 0
 have hfs36 := fz_ BK265 0
 have hns36_0 := NB237_265.out
 have hms36_0 := NB265_237.out
 have H := Hh_.out
 clear Hh_
 by_cases c12 : t267 = true
 rotate_left
 ·replace c12 := Bool.eq_false_iff.mpr c12
  subst c12
  rw [if_neg (show ¬ (false = true) by decide)] at H
  simp only [Option.some.injEq, Prod.mk.injEq] at H
  obtain ⟨rfl, rfl, rfl, rfl⟩ := H
  refine skip_ (w1 := ?_) (by rfl) rfl ?_ ?_
  rotate_left; · go_simp; rfl
  refine hK.out _ _ ?_
  clear hK K
  refine done_ (done_of HT_.out (by kernel_rfl)) ?_
  try go_wp2_with ((with_reducible refine gate_callee (f := 81) rfl ?_); refine gl_ (some 35) Try.func81 #[.pointer (some ⟨g, 0, none⟩), .int .i64 30] ?_; (with_reducible refine (spec_l01Once.calls g s0_0 t263 t264 30 false t268 t269 w0 _ ?side1 ?side2 A11.out).mono ?_); (case side1 => exact is112_); (case side2 => exact bw112_); rintro e w152 ⟨rfl, hi, hb, hk⟩; refine ⟨_, rfl, ?_⟩; replace BK237 := kc_ BK237 NB237_0 hk; replace HO249 := Aside0.mk (Kd.R_mono (Kd.R_keep (IsS112.apart (show IsS112 w0 _ g s0_0 t263 t264 from is112_) (hs_ HO249 BK265) (by decide)) hk (fun _ h => h.2)) (fun _ h => h.1)); replace HO261 := Aside0.mk (Kd.R_mono (Kd.R_keep (IsS112.apart (show IsS112 w0 _ g s0_0 t263 t264 from is112_) (hs_ HO261 BK265) (by decide)) hk (fun _ h => h.2)) (fun _ h => h.1)); replace BK265 := Aside0.mk (KeepBut.blk hk (g' := gb265) (o := .cells #[.int .i64 (wrap64 (t262 - (Int.tmod t262 t266))), .int .i64 t250] 28 (0, 0)) (by refine bd_ ?_; refine blk_put (cs := #[.int .i64 t262, .int .i64 t250]) ?_ 0 _ rfl; refine bd_ ?_; exact BK265.out) NB265_0.out (by simp)); replace HK := kt_ HK hk; replace HB := Aside0.mk (hb); replace HI0 := Aside0.mk (hi); clear hb hk hi; have hcz153_0 := cz_ BK265 0 (.int .i64 (wrap64 (t262 - (Int.tmod t262 t266)))); have hcz153_1 := cz_ BK265 1 (.int .i64 t250); have hfz153_0 := fz_ BK265 0; have hfz153_1 := fz_ BK265 1; have hnb154 := NB237_0.out; have hnc154 := NB0_237.out; have hcz155_0 := cz_ BK237 0 (.int .i64 0); have hcz155_1 := cz_ BK237 1 (.int .i64 0); have hfz155_0 := fz_ BK237 0; have hfz155_1 := fz_ BK237 1)
  refine bodyPost_ret (results_cell_row rfl _ _ gb237 28 #[.int .i64 (wrap64 (t262 - (Int.tmod t262 t266))), .int .i64 t250] (0, 0) _ rfl (by refine bd_ ?_; refine blk_put (cs := #[.int .i64 (wrap64 (t262 - (Int.tmod t262 t266))), .int .i64 0]) ?_ 1 _ rfl; refine bd_ ?_; refine blk_put (cs := #[.int .i64 0, .int .i64 0]) ?_ 0 _ rfl; refine bd_ ?_; exact BK237.out) Try.underlying28 rfl (by kernel_rfl)) rfl ?_
  exact ⟨by first | rfl | (simp [errW_none, errW_some] <;> rfl) | (simp [*, errW_none, errW_some] <;> rfl), is112_, bw112_, kx_ HK⟩
 subst c12
 rw [if_pos rfl] at H
 obtain ⟨⟨t270, t271, t272⟩, A13, H⟩ := ob_ H
 by_cases c14 : t270 = 0
 ·rw [if_pos c14] at H
  have c14b0 : (t270 == 0) = true := beq_iff_eq.mpr c14
  have c14b1 : (t270 != 0) = false := bne_eq_false_iff_eq.mpr c14
  clear c14
  obtain ⟨y273, hy273⟩ : ∃ y_ : List Int, y_ = (([(-1), 17, 3] : List Int)) := ⟨_, rfl⟩
  replace H : ((spec_l01PickInt.f s0_0 t271 t272 y273).bind fun bt276 => (some (wrap64 (t262 - (Int.tmod t262 t266)), bt276.1, bt276.2.1, bt276.2.2))) = some (r1, r2, r3, r4) := by first | (rw [hy273]; with_reducible exact H) | (have H2_ := (Option.bind_some _ _).symm.trans H; rw [hy273]; with_reducible exact H2_) | (have H2_ := (Option.bind_some _ _).symm.trans H; with_reducible exact H2_) | with_reducible exact H | (rw [hy273]; exact H) | exact H
  have Ny273 := Aside0.mk hy273
  clear hy273
  obtain ⟨⟨t276, t277, t278⟩, A15, H⟩ := ob_ H
  simp only [Option.some.injEq, Prod.mk.injEq] at H
  obtain ⟨rfl, rfl, rfl, rfl⟩ := H
  refine skip_ (w1 := ?_) (by rfl) rfl ?_ ?_
  rotate_left; · go_simp; rfl
  refine hK.out _ _ ?_
  clear hK K
  refine done_ (done_of HT_.out (by kernel_rfl)) ?_
  try go_wp2_with (first | ((with_reducible refine gate_callee (f := 81) rfl ?_); refine gl_ (some 35) Try.func81 #[.pointer (some ⟨g, 0, none⟩), .int .i64 30] ?_; (with_reducible refine (spec_l01Once.calls g s0_0 t263 t264 30 true t268 t269 w0 _ ?side1 ?side2 A11.out).mono ?_); (case side1 => exact is112_); (case side2 => exact bw112_); rintro e w37 ⟨rfl, hi, hb, hk⟩; refine ⟨_, rfl, ?_⟩; replace BK237 := kc_ BK237 NB237_0 hk; replace HO249 := Aside0.mk (Kd.R_mono (Kd.R_keep (IsS112.apart (show IsS112 w0 _ g s0_0 t263 t264 from is112_) (hs_ HO249 BK265) (by decide)) hk (fun _ h => h.2)) (fun _ h => h.1)); replace HO261 := Aside0.mk (Kd.R_mono (Kd.R_keep (IsS112.apart (show IsS112 w0 _ g s0_0 t263 t264 from is112_) (hs_ HO261 BK265) (by decide)) hk (fun _ h => h.2)) (fun _ h => h.1)); replace BK265 := Aside0.mk (KeepBut.blk hk (g' := gb265) (o := .cells #[.int .i64 (wrap64 (t262 - (Int.tmod t262 t266))), .int .i64 t250] 28 (0, 0)) (by refine bd_ ?_; refine blk_put (cs := #[.int .i64 t262, .int .i64 t250]) ?_ 0 _ rfl; refine bd_ ?_; exact BK265.out) NB265_0.out (by simp)); replace HK := kt_ HK hk; replace HB := Aside0.mk (hb); replace HI0 := Aside0.mk (hi); clear hb hk hi) | ((with_reducible refine gate_callee (f := 44) rfl ?_); refine gl_ (some 37) Try.func44 #[.pointer (some ⟨g, 0, none⟩), .int .i64 3] ?_; (with_reducible refine (spec_l01Below.calls g s0_0 t268 t269 3 t270 t271 t272 w0 _ ?side1 ?side2 A13.out).mono ?_); (case side1 => exact is112_); (case side2 => exact bw112_); rintro e w38 ⟨rfl, hi, hb, hk⟩; refine ⟨_, rfl, ?_⟩; replace BK237 := kb_ BK237 NB237_0 hk; replace HO249 := ak112_ HO249 (show IsS112 w0 _ g s0_0 t268 t269 from is112_) hk; replace HO261 := ak112_ HO261 (show IsS112 w0 _ g s0_0 t268 t269 from is112_) hk; replace BK265 := Aside0.mk (KeepBut.blk hk (g' := gb265) (o := .cells #[.int .i64 (wrap64 (t262 - (Int.tmod t262 t266))), .int .i64 t250] 28 (0, 0)) (bx_ BK265) NB265_0.out (by simp)); replace HK := kt_ HK hk; replace HB := Aside0.mk (hb); replace HI0 := Aside0.mk (hi); clear hb hk hi) | ((with_reducible refine gate_dst (N := 41) rfl ?_); refine Kd.R_lit (Kd.int .i64) _ 3 ?hg (N := 41) ?hd (xs := ([(-1), 17, 3] : List Int)) (inner := [.int .i64 (-1), .int .i64 17, .int .i64 3]) (ok := fun _ => True) (okp := fun _ => True) ?hr ?hp (fun _ hk => hk) trivial (Below.refl _ _) (Nat.le_refl _) (by simp) ?_; (case hd => rfl); (case hg => rfl); (case hr => first | (go_simp; done) | (go_simp; rfl)); (case hp => exact (Reps.one (show Kd.M (Kd.int .i64) _ _ _ (-1) [.int .i64 (-1)] from rfl) (Reps.one (show Kd.M (Kd.int .i64) _ _ _ 17 [.int .i64 17] from rfl) (Reps.one (show Kd.M (Kd.int .i64) _ _ _ 3 [.int .i64 3] from rfl) (Reps.none _ _))))); intro v274 w39 ho40 hb hg_ hnew_; clear hg_ hnew_; (first | rw [← Ny273.out] at ho40 | (simp only [Int.reduceToNat] at ho40; rw [← Ny273.out] at ho40)); have HO275 := Aside0.mk (Kd.R_lower (Kd.R_new' (Kd.R_new' ho40 (Kd.R_lt (hd_ HO249))) (Kd.R_lt (hd_ HO261))) (keep_size (w := w) (g := g) (row := none) (kx_ HK))); replace HO249 := Aside0.mk (Kd.R_elder' (hd_ HO249) (Kd.R_base ho40) hb); replace HO261 := Aside0.mk (Kd.R_elder' (hd_ HO261) (Kd.R_base ho40) hb); replace BK237 := ab_ BK237 hb; replace BK265 := ab_ BK265 hb; replace HK := kt_ HK (KeepBut.of_below hb g none); replace HB := bs112_ hb; replace HI0 := Aside0.mk (IsS112.below is112_ hb); clear hb ho40; obtain ⟨Ao41, co41, eo41⟩ := Kd.R_slice HO275.out; subst eo41) | ((with_reducible refine gate_callee (f := 43) rfl ?_); refine gl_ (some 42) Try.func43 #[.pointer (some ⟨g, 0, none⟩), .slice Ao41 y273.length co41] ?_; (with_reducible refine (spec_l01PickInt.calls g s0_0 t271 t272 _ _ y273 t276 t277 t278 w0 _ ?side1 ?side2 ?side3 ?side4 ?side5 A15.out).mono ?_); (case side1 => exact is112_); (case side2 => exact bw112_); (case side3 => exact rc_ HO275); (case side4 => exact (Kd.R_reads' HO275.out).2.1); (case side5 => exact far_slice (IsS112.own_ne HI0.out HO275.out (by decide))); rintro e w42 ⟨rfl, hi, hb, hk⟩; refine ⟨_, rfl, ?_⟩; replace BK237 := kb_ BK237 NB237_0 hk; replace HO249 := ak112_ HO249 (show IsS112 w0 _ g s0_0 t271 t272 from is112_) hk; replace HO261 := ak112_ HO261 (show IsS112 w0 _ g s0_0 t271 t272 from is112_) hk; replace BK265 := Aside0.mk (KeepBut.blk hk (g' := gb265) (o := .cells #[.int .i64 (wrap64 (t262 - (Int.tmod t262 t266))), .int .i64 t250] 28 (0, 0)) (bx_ BK265) NB265_0.out (by simp)); replace HO275 := ak112_ HO275 (show IsS112 w0 _ g s0_0 t271 t272 from is112_) hk; replace HK := kt_ HK hk; replace HB := Aside0.mk (hb); replace HI0 := Aside0.mk (hi); clear hb hk hi; have hcz43_0 := cz_ BK265 0 (.int .i64 (wrap64 (t262 - (Int.tmod t262 t266)))); have hcz43_1 := cz_ BK265 1 (.int .i64 t250); have hfz43_0 := fz_ BK265 0; have hfz43_1 := fz_ BK265 1; have hnb44 := NB237_0.out; have hnc44 := NB0_237.out; have hcz45_0 := cz_ BK237 0 (.int .i64 0); have hcz45_1 := cz_ BK237 1 (.int .i64 0); have hfz45_0 := fz_ BK237 0; have hfz45_1 := fz_ BK237 1))
  refine bodyPost_ret (results_cell_row rfl _ _ gb237 28 #[.int .i64 (wrap64 (t262 - (Int.tmod t262 t266))), .int .i64 t276] (0, 0) _ rfl (by refine bd_ ?_; refine blk_put (cs := #[.int .i64 (wrap64 (t262 - (Int.tmod t262 t266))), .int .i64 0]) ?_ 1 _ rfl; refine bd_ ?_; refine blk_put (cs := #[.int .i64 0, .int .i64 0]) ?_ 0 _ rfl; refine bd_ ?_; refine blk_far ?_ NB237_265.out _; refine bd_ ?_; exact BK237.out) Try.underlying28 rfl (by kernel_rfl)) rfl ?_
  exact ⟨by first | rfl | (simp [errW_none, errW_some] <;> rfl) | (simp [*, errW_none, errW_some] <;> rfl), is112_, bw112_, kx_ HK⟩
 rw [if_neg c14] at H
 have c14b0 : (t270 == 0) = false := beq_eq_false_iff_ne.mpr c14
 have c14b1 : (t270 != 0) = true := bne_iff_ne.mpr c14
 by_cases c46 : t270 = 1
 ·rw [if_pos c46] at H
  have c46b0 : (t270 == 1) = true := beq_iff_eq.mpr c46
  have c46b1 : (t270 != 1) = false := bne_eq_false_iff_eq.mpr c46
  clear c46
  obtain ⟨y279, hy279⟩ : ∃ y_ : List Int, y_ = (([(-1), 65536, 1, 65535] : List Int)) := ⟨_, rfl⟩
  replace H : ((spec_l01PickInt.f s0_0 t271 t272 y279).bind fun bt282 => (some (bt282.1, t250, bt282.2.1, bt282.2.2))) = some (r1, r2, r3, r4) := by first | (rw [hy279]; with_reducible exact H) | (have H2_ := (Option.bind_some _ _).symm.trans H; rw [hy279]; with_reducible exact H2_) | (have H2_ := (Option.bind_some _ _).symm.trans H; with_reducible exact H2_) | with_reducible exact H | (rw [hy279]; exact H) | exact H
  have Ny279 := Aside0.mk hy279
  clear hy279
  obtain ⟨⟨t282, t283, t284⟩, A47, H⟩ := ob_ H
  simp only [Option.some.injEq, Prod.mk.injEq] at H
  obtain ⟨rfl, rfl, rfl, rfl⟩ := H
  refine skip_ (w1 := ?_) (by rfl) rfl ?_ ?_
  rotate_left; · go_simp; rfl
  refine hK.out _ _ ?_
  clear hK K
  refine done_ (done_of HT_.out (by kernel_rfl)) ?_
  try go_wp2_with (first | ((with_reducible refine gate_callee (f := 81) rfl ?_); refine gl_ (some 35) Try.func81 #[.pointer (some ⟨g, 0, none⟩), .int .i64 30] ?_; (with_reducible refine (spec_l01Once.calls g s0_0 t263 t264 30 true t268 t269 w0 _ ?side1 ?side2 A11.out).mono ?_); (case side1 => exact is112_); (case side2 => exact bw112_); rintro e w69 ⟨rfl, hi, hb, hk⟩; refine ⟨_, rfl, ?_⟩; replace BK237 := kc_ BK237 NB237_0 hk; replace HO249 := Aside0.mk (Kd.R_mono (Kd.R_keep (IsS112.apart (show IsS112 w0 _ g s0_0 t263 t264 from is112_) (hs_ HO249 BK265) (by decide)) hk (fun _ h => h.2)) (fun _ h => h.1)); replace HO261 := Aside0.mk (Kd.R_mono (Kd.R_keep (IsS112.apart (show IsS112 w0 _ g s0_0 t263 t264 from is112_) (hs_ HO261 BK265) (by decide)) hk (fun _ h => h.2)) (fun _ h => h.1)); replace BK265 := Aside0.mk (KeepBut.blk hk (g' := gb265) (o := .cells #[.int .i64 (wrap64 (t262 - (Int.tmod t262 t266))), .int .i64 t250] 28 (0, 0)) (by refine bd_ ?_; refine blk_put (cs := #[.int .i64 t262, .int .i64 t250]) ?_ 0 _ rfl; refine bd_ ?_; exact BK265.out) NB265_0.out (by simp)); replace HK := kt_ HK hk; replace HB := Aside0.mk (hb); replace HI0 := Aside0.mk (hi); clear hb hk hi) | ((with_reducible refine gate_callee (f := 44) rfl ?_); refine gl_ (some 37) Try.func44 #[.pointer (some ⟨g, 0, none⟩), .int .i64 3] ?_; (with_reducible refine (spec_l01Below.calls g s0_0 t268 t269 3 t270 t271 t272 w0 _ ?side1 ?side2 A13.out).mono ?_); (case side1 => exact is112_); (case side2 => exact bw112_); rintro e w70 ⟨rfl, hi, hb, hk⟩; refine ⟨_, rfl, ?_⟩; replace BK237 := kb_ BK237 NB237_0 hk; replace HO249 := ak112_ HO249 (show IsS112 w0 _ g s0_0 t268 t269 from is112_) hk; replace HO261 := ak112_ HO261 (show IsS112 w0 _ g s0_0 t268 t269 from is112_) hk; replace BK265 := Aside0.mk (KeepBut.blk hk (g' := gb265) (o := .cells #[.int .i64 (wrap64 (t262 - (Int.tmod t262 t266))), .int .i64 t250] 28 (0, 0)) (bx_ BK265) NB265_0.out (by simp)); replace HK := kt_ HK hk; replace HB := Aside0.mk (hb); replace HI0 := Aside0.mk (hi); clear hb hk hi) | ((with_reducible refine gate_dst (N := 47) rfl ?_); refine Kd.R_lit (Kd.int .i64) _ 3 ?hg (N := 47) ?hd (xs := ([(-1), 65536, 1, 65535] : List Int)) (inner := [.int .i64 (-1), .int .i64 65536, .int .i64 1, .int .i64 65535]) (ok := fun _ => True) (okp := fun _ => True) ?hr ?hp (fun _ hk => hk) trivial (Below.refl _ _) (Nat.le_refl _) (by simp) ?_; (case hd => rfl); (case hg => rfl); (case hr => first | (go_simp; done) | (go_simp; rfl)); (case hp => exact (Reps.one (show Kd.M (Kd.int .i64) _ _ _ (-1) [.int .i64 (-1)] from rfl) (Reps.one (show Kd.M (Kd.int .i64) _ _ _ 65536 [.int .i64 65536] from rfl) (Reps.one (show Kd.M (Kd.int .i64) _ _ _ 1 [.int .i64 1] from rfl) (Reps.one (show Kd.M (Kd.int .i64) _ _ _ 65535 [.int .i64 65535] from rfl) (Reps.none _ _)))))); intro v280 w71 ho72 hb hg_ hnew_; clear hg_ hnew_; (first | rw [← Ny279.out] at ho72 | (simp only [Int.reduceToNat] at ho72; rw [← Ny279.out] at ho72)); have HO281 := Aside0.mk (Kd.R_lower (Kd.R_new' (Kd.R_new' ho72 (Kd.R_lt (hd_ HO249))) (Kd.R_lt (hd_ HO261))) (keep_size (w := w) (g := g) (row := none) (kx_ HK))); replace HO249 := Aside0.mk (Kd.R_elder' (hd_ HO249) (Kd.R_base ho72) hb); replace HO261 := Aside0.mk (Kd.R_elder' (hd_ HO261) (Kd.R_base ho72) hb); replace BK237 := ab_ BK237 hb; replace BK265 := ab_ BK265 hb; replace HK := kt_ HK (KeepBut.of_below hb g none); replace HB := bs112_ hb; replace HI0 := Aside0.mk (IsS112.below is112_ hb); clear hb ho72; obtain ⟨Ao73, co73, eo73⟩ := Kd.R_slice HO281.out; subst eo73) | ((with_reducible refine gate_callee (f := 43) rfl ?_); refine gl_ (some 48) Try.func43 #[.pointer (some ⟨g, 0, none⟩), .slice Ao73 y279.length co73] ?_; (with_reducible refine (spec_l01PickInt.calls g s0_0 t271 t272 _ _ y279 t282 t283 t284 w0 _ ?side1 ?side2 ?side3 ?side4 ?side5 A47.out).mono ?_); (case side1 => exact is112_); (case side2 => exact bw112_); (case side3 => exact rc_ HO281); (case side4 => exact (Kd.R_reads' HO281.out).2.1); (case side5 => exact far_slice (IsS112.own_ne HI0.out HO281.out (by decide))); rintro e w74 ⟨rfl, hi, hb, hk⟩; refine ⟨_, rfl, ?_⟩; replace BK237 := kb_ BK237 NB237_0 hk; replace HO249 := ak112_ HO249 (show IsS112 w0 _ g s0_0 t271 t272 from is112_) hk; replace HO261 := ak112_ HO261 (show IsS112 w0 _ g s0_0 t271 t272 from is112_) hk; replace BK265 := Aside0.mk (KeepBut.blk hk (g' := gb265) (o := .cells #[.int .i64 (wrap64 (t262 - (Int.tmod t262 t266))), .int .i64 t250] 28 (0, 0)) (bx_ BK265) NB265_0.out (by simp)); replace HO281 := ak112_ HO281 (show IsS112 w0 _ g s0_0 t271 t272 from is112_) hk; replace HK := kt_ HK hk; replace HB := Aside0.mk (hb); replace HI0 := Aside0.mk (hi); clear hb hk hi; have hcz75_0 := cz_ BK265 0 (.int .i64 (wrap64 (t262 - (Int.tmod t262 t266)))); have hcz75_1 := cz_ BK265 1 (.int .i64 t250); have hfz75_0 := fz_ BK265 0; have hfz75_1 := fz_ BK265 1; have hnb76 := NB237_0.out; have hnc76 := NB0_237.out; have hcz77_0 := cz_ BK237 0 (.int .i64 0); have hcz77_1 := cz_ BK237 1 (.int .i64 0); have hfz77_0 := fz_ BK237 0; have hfz77_1 := fz_ BK237 1))
  refine bodyPost_ret (results_cell_row rfl _ _ gb237 28 #[.int .i64 t282, .int .i64 t250] (0, 0) _ rfl (by refine bd_ ?_; refine blk_put (cs := #[.int .i64 t282, .int .i64 0]) ?_ 1 _ rfl; refine bd_ ?_; refine blk_put (cs := #[.int .i64 0, .int .i64 0]) ?_ 0 _ rfl; refine bd_ ?_; refine blk_far ?_ NB237_265.out _; refine bd_ ?_; exact BK237.out) Try.underlying28 rfl (by kernel_rfl)) rfl ?_
  exact ⟨by first | rfl | (simp [errW_none, errW_some] <;> rfl) | (simp [*, errW_none, errW_some] <;> rfl), is112_, bw112_, kx_ HK⟩
 rw [if_neg c46] at H
 have c46b0 : (t270 == 1) = false := beq_eq_false_iff_ne.mpr c46
 have c46b1 : (t270 != 1) = true := bne_iff_ne.mpr c46
 by_cases c78 : t270 = 2
 rotate_left
 ·rw [if_neg c78] at H
  have c78b0 : (t270 == 2) = false := beq_eq_false_iff_ne.mpr c78
  have c78b1 : (t270 != 2) = true := bne_iff_ne.mpr c78
  simp only [Option.some.injEq, Prod.mk.injEq] at H
  obtain ⟨rfl, rfl, rfl, rfl⟩ := H
  refine skip_ (w1 := ?_) (by rfl) rfl ?_ ?_
  rotate_left; · go_simp; rfl
  refine hK.out _ _ ?_
  clear hK K
  refine done_ (done_of HT_.out (by kernel_rfl)) ?_
  try go_wp2_with (first | ((with_reducible refine gate_callee (f := 81) rfl ?_); refine gl_ (some 35) Try.func81 #[.pointer (some ⟨g, 0, none⟩), .int .i64 30] ?_; (with_reducible refine (spec_l01Once.calls g s0_0 t263 t264 30 true t268 t269 w0 _ ?side1 ?side2 A11.out).mono ?_); (case side1 => exact is112_); (case side2 => exact bw112_); rintro e w126 ⟨rfl, hi, hb, hk⟩; refine ⟨_, rfl, ?_⟩; replace BK237 := kc_ BK237 NB237_0 hk; replace HO249 := Aside0.mk (Kd.R_mono (Kd.R_keep (IsS112.apart (show IsS112 w0 _ g s0_0 t263 t264 from is112_) (hs_ HO249 BK265) (by decide)) hk (fun _ h => h.2)) (fun _ h => h.1)); replace HO261 := Aside0.mk (Kd.R_mono (Kd.R_keep (IsS112.apart (show IsS112 w0 _ g s0_0 t263 t264 from is112_) (hs_ HO261 BK265) (by decide)) hk (fun _ h => h.2)) (fun _ h => h.1)); replace BK265 := Aside0.mk (KeepBut.blk hk (g' := gb265) (o := .cells #[.int .i64 (wrap64 (t262 - (Int.tmod t262 t266))), .int .i64 t250] 28 (0, 0)) (by refine bd_ ?_; refine blk_put (cs := #[.int .i64 t262, .int .i64 t250]) ?_ 0 _ rfl; refine bd_ ?_; exact BK265.out) NB265_0.out (by simp)); replace HK := kt_ HK hk; replace HB := Aside0.mk (hb); replace HI0 := Aside0.mk (hi); clear hb hk hi) | ((with_reducible refine gate_callee (f := 44) rfl ?_); refine gl_ (some 37) Try.func44 #[.pointer (some ⟨g, 0, none⟩), .int .i64 3] ?_; (with_reducible refine (spec_l01Below.calls g s0_0 t268 t269 3 t270 t271 t272 w0 _ ?side1 ?side2 A13.out).mono ?_); (case side1 => exact is112_); (case side2 => exact bw112_); rintro e w127 ⟨rfl, hi, hb, hk⟩; refine ⟨_, rfl, ?_⟩; replace BK237 := kb_ BK237 NB237_0 hk; replace HO249 := ak112_ HO249 (show IsS112 w0 _ g s0_0 t268 t269 from is112_) hk; replace HO261 := ak112_ HO261 (show IsS112 w0 _ g s0_0 t268 t269 from is112_) hk; replace BK265 := Aside0.mk (KeepBut.blk hk (g' := gb265) (o := .cells #[.int .i64 (wrap64 (t262 - (Int.tmod t262 t266))), .int .i64 t250] 28 (0, 0)) (bx_ BK265) NB265_0.out (by simp)); replace HK := kt_ HK hk; replace HB := Aside0.mk (hb); replace HI0 := Aside0.mk (hi); clear hb hk hi; have hcz128_0 := cz_ BK265 0 (.int .i64 (wrap64 (t262 - (Int.tmod t262 t266)))); have hcz128_1 := cz_ BK265 1 (.int .i64 t250); have hfz128_0 := fz_ BK265 0; have hfz128_1 := fz_ BK265 1; have hnb129 := NB237_0.out; have hnc129 := NB0_237.out; have hcz130_0 := cz_ BK237 0 (.int .i64 0); have hcz130_1 := cz_ BK237 1 (.int .i64 0); have hfz130_0 := fz_ BK237 0; have hfz130_1 := fz_ BK237 1))
  refine bodyPost_ret (results_cell_row rfl _ _ gb237 28 #[.int .i64 (wrap64 (t262 - (Int.tmod t262 t266))), .int .i64 t250] (0, 0) _ rfl (by refine bd_ ?_; refine blk_put (cs := #[.int .i64 (wrap64 (t262 - (Int.tmod t262 t266))), .int .i64 0]) ?_ 1 _ rfl; refine bd_ ?_; refine blk_put (cs := #[.int .i64 0, .int .i64 0]) ?_ 0 _ rfl; refine bd_ ?_; exact BK237.out) Try.underlying28 rfl (by kernel_rfl)) rfl ?_
  exact ⟨by first | rfl | (simp [errW_none, errW_some] <;> rfl) | (simp [*, errW_none, errW_some] <;> rfl), is112_, bw112_, kx_ HK⟩
 rw [if_pos c78] at H
 have c78b0 : (t270 == 2) = true := beq_iff_eq.mpr c78
 have c78b1 : (t270 != 2) = false := bne_eq_false_iff_eq.mpr c78
 clear c78
 simp only [Option.some.injEq, Prod.mk.injEq] at H
 obtain ⟨rfl, rfl, rfl, rfl⟩ := H
 refine skip_ (w1 := ?_) (by rfl) rfl ?_ ?_
 rotate_left; · go_simp; rfl
 refine hK.out _ _ ?_
 clear hK K
 refine done_ (done_of HT_.out (by kernel_rfl)) ?_
 try go_wp2_with (first | ((with_reducible refine gate_callee (f := 81) rfl ?_); refine gl_ (some 35) Try.func81 #[.pointer (some ⟨g, 0, none⟩), .int .i64 30] ?_; (with_reducible refine (spec_l01Once.calls g s0_0 t263 t264 30 true t268 t269 w0 _ ?side1 ?side2 A11.out).mono ?_); (case side1 => exact is112_); (case side2 => exact bw112_); rintro e w100 ⟨rfl, hi, hb, hk⟩; refine ⟨_, rfl, ?_⟩; replace BK237 := kc_ BK237 NB237_0 hk; replace HO249 := Aside0.mk (Kd.R_mono (Kd.R_keep (IsS112.apart (show IsS112 w0 _ g s0_0 t263 t264 from is112_) (hs_ HO249 BK265) (by decide)) hk (fun _ h => h.2)) (fun _ h => h.1)); replace HO261 := Aside0.mk (Kd.R_mono (Kd.R_keep (IsS112.apart (show IsS112 w0 _ g s0_0 t263 t264 from is112_) (hs_ HO261 BK265) (by decide)) hk (fun _ h => h.2)) (fun _ h => h.1)); replace BK265 := Aside0.mk (KeepBut.blk hk (g' := gb265) (o := .cells #[.int .i64 (wrap64 (t262 - (Int.tmod t262 t266))), .int .i64 t250] 28 (0, 0)) (by refine bd_ ?_; refine blk_put (cs := #[.int .i64 t262, .int .i64 t250]) ?_ 0 _ rfl; refine bd_ ?_; exact BK265.out) NB265_0.out (by simp)); replace HK := kt_ HK hk; replace HB := Aside0.mk (hb); replace HI0 := Aside0.mk (hi); clear hb hk hi) | ((with_reducible refine gate_callee (f := 44) rfl ?_); refine gl_ (some 37) Try.func44 #[.pointer (some ⟨g, 0, none⟩), .int .i64 3] ?_; (with_reducible refine (spec_l01Below.calls g s0_0 t268 t269 3 t270 t271 t272 w0 _ ?side1 ?side2 A13.out).mono ?_); (case side1 => exact is112_); (case side2 => exact bw112_); rintro e w101 ⟨rfl, hi, hb, hk⟩; refine ⟨_, rfl, ?_⟩; replace BK237 := kb_ BK237 NB237_0 hk; replace HO249 := ak112_ HO249 (show IsS112 w0 _ g s0_0 t268 t269 from is112_) hk; replace HO261 := ak112_ HO261 (show IsS112 w0 _ g s0_0 t268 t269 from is112_) hk; replace BK265 := Aside0.mk (KeepBut.blk hk (g' := gb265) (o := .cells #[.int .i64 (wrap64 (t262 - (Int.tmod t262 t266))), .int .i64 t250] 28 (0, 0)) (bx_ BK265) NB265_0.out (by simp)); replace HK := kt_ HK hk; replace HB := Aside0.mk (hb); replace HI0 := Aside0.mk (hi); clear hb hk hi; have hcz102_0 := cz_ BK265 0 (.int .i64 (wrap64 (t262 - (Int.tmod t262 t266)))); have hcz102_1 := cz_ BK265 1 (.int .i64 t250); have hfz102_0 := fz_ BK265 0; have hfz102_1 := fz_ BK265 1; have hnb103 := NB237_0.out; have hnc103 := NB0_237.out; have hcz104_0 := cz_ BK237 0 (.int .i64 0); have hcz104_1 := cz_ BK237 1 (.int .i64 0); have hfz104_0 := fz_ BK237 0; have hfz104_1 := fz_ BK237 1))
 refine bodyPost_ret (results_cell_row rfl _ _ gb237 28 #[.int .i64 (wrap64 ((wrap64 (t262 - (Int.tmod t262 t266))) + 1)), .int .i64 t250] (0, 0) _ rfl (by refine bd_ ?_; refine blk_put (cs := #[.int .i64 (wrap64 ((wrap64 (t262 - (Int.tmod t262 t266))) + 1)), .int .i64 0]) ?_ 1 _ rfl; refine bd_ ?_; refine blk_put (cs := #[.int .i64 0, .int .i64 0]) ?_ 0 _ rfl; refine bd_ ?_; refine blk_far ?_ NB237_265.out _; refine bd_ ?_; exact BK237.out) Try.underlying28 rfl (by kernel_rfl)) rfl ?_
 exact ⟨by first | rfl | (simp [errW_none, errW_some] <;> rfl) | (simp [*, errW_none, errW_some] <;> rfl), is112_, bw112_, kx_ HK⟩

def ba12_0 := bs_ 20 0
def ba12_1 := bs_ 20 1
def ba12_2 := bs_ 20 5
def ba12_3 := bs_ 20 69
def ba12_4 := bs_ 20 325
def ba12_5 := bs_ 20 8517
def ba12_6 := bs_ 20 8519
def ba12_7 := bs_ 20 8527
def ba12_8 := bs_ 20 8543
def ba12_9 := bs_ 20 8575
def ba12_10 := bs_ 20 8703
def ba12_11 := bs_ 20 9215
def ba12_12 := bs_ 20 10239
def ba12_13 := bs_ 20 26623
def ba12_14 := bs_ 20 59391
def ba12_15 := bs_ 20 61439
def ba12_16 := bs_ 20 65535
def ba12_17 := bs_ 20 131071
def ba12_18 := bs_ 20 262143
def ba12_19 := bs_ 20 524287
def ba12_20 := bs_ 20 1048575

/-! ### spec_Halves: function 95 -/
def spec_Halves.f (a0_0 : Int) (a0_1 : Int) : Option (Int × Int × Int × Int × Bool) := (spec_PrefixOk.f a0_0 a0_1).bind fun t288 => (if t288 = true then (if a0_1 = 16 then (some (0, 0, 0, 0, false)) else ((spec_l01Size2.f (wrap64 (a0_1 + 1))).bind fun t289 => (some (a0_0, wrap64 (a0_1 + 1), wrap64 (a0_0 + t289), wrap64 (a0_1 + 1), true)))) else (some (0, 0, 0, 0, false)))
def spec_Halves.T3 : Bool × List (List Nat × List Nat) := (true, [([], []), ([0], [0]), ([], []), ([2], [2]), ([3], [3]), ([1, 4], [1, 4]), ([], []), ([6], [6]), ([], []), ([8], [8]), ([9], [9]), ([10], [10]), ([7, 11], [7, 11]), ([], []), ([13], [13]), ([14], [14]), ([12, 15], [12, 15]), ([5, 11, 0, 1, 2, 3, 4, 5], [5]), ([16, 17, 0, 1, 2, 3, 4, 5, 6, 7, 8, 9, 10, 11, 12, 13, 14, 15, 16, 17], [16]), ([18, 0, 1, 2, 3, 4, 5, 6, 7, 8, 9, 10, 11, 12, 13, 14, 15, 16, 17, 18], [])])
def spec_Halves.B3 : List Nat := [0, 1, 0, 4, 12, 31, 0, 64, 0, 256, 768, 1792, 4032, 0, 8192, 24576, 65472, 3903, 262143, 524287]
theorem spec_Halves.tab3 : rtab .any (opsOf Try.f95 3) = spec_Halves.T3 := by kernel_rfl
theorem spec_Halves.bits3 : waitsOk spec_Halves.T3.2 spec_Halves.B3 = true := by kernel_rfl
set_option maxHeartbeats 8000000 in
set_option maxRecDepth 100000 in
theorem spec_Halves.calls (a0_0 : Int) (a0_1 : Int) (r1 : Int) (r2 : Int) (r3 : Int) (r4 : Int) (r5 : Bool) (w : World) (h : spec_Halves.f a0_0 a0_1 = some (r1, r2, r3, r4, r5)) :
  Calls Try.prog 95 #[.agg #[.int .i64 a0_0, .int .i64 a0_1]] w fun e w' => e = .returned (.tuple #[.agg #[.int .i64 r1, .int .i64 r2], .agg #[.int .i64 r3, .int .i64 r4], .bool r5]) ∧ Below w.heap.size w w' := by
 have hu28 := Try.underlying28
 have HB := Aside0.mk (Below.refl w.heap.size w)
 have H : ((spec_PrefixOk.f a0_0 a0_1).bind fun t288 => (if t288 = true then (if a0_1 = 16 then (some (0, 0, 0, 0, false)) else ((spec_l01Size2.f (wrap64 (a0_1 + 1))).bind fun t289 => (some (a0_0, wrap64 (a0_1 + 1), wrap64 (a0_0 + t289), wrap64 (a0_1 + 1), true)))) else (some (0, 0, 0, 0, false)))) = some (r1, r2, r3, r4, r5) := h
 clear h
 obtain ⟨t288, A2, H⟩ := ob_ H
 by_cases c3 : t288 = true
 rotate_left
 ·replace c3 := Bool.eq_false_iff.mpr c3
  subst c3
  rw [if_neg (show ¬ (false = true) by decide)] at H
  simp only [Option.some.injEq, Prod.mk.injEq] at H
  obtain ⟨rfl, rfl, rfl, rfl, rfl⟩ := H
  go_enter Try.func95, Try.ntmps95
  go_wp2_with (first | ((with_reducible refine gate_dst (N := 1) rfl ?_); refine be_ 1 #[.int .i64 a0_0, .int .i64 a0_1] 28 ?_; intro gb285 hg w30 BK285 hb; have GW285 := ge_ HB hg; have GE285 := ge_ HB hg; replace HB := at_ HB hb; clear hb hg) | ((with_reducible refine gate_dst (N := 2) rfl ?_); refine be_ 2 #[.int .i64 0, .int .i64 0] 28 ?_; intro gb286 hg w31 BK286 hb; have GW286 := ge_ HB hg; have GE286 := ge_ HB hg; have NB285_286 := nl_ BK285 hg; have NB286_285 := ng_ BK285 hg; replace HB := at_ HB hb; replace BK285 := ab_ BK285 hb; clear hb hg) | ((with_reducible refine gate_dst (N := 3) rfl ?_); refine be_ 3 #[.int .i64 0, .int .i64 0] 28 ?_; intro gb287 hg w32 BK287 hb; have GW287 := ge_ HB hg; have GE287 := ge_ HB hg; have NB285_287 := nl_ BK285 hg; have NB287_285 := ng_ BK285 hg; have NB286_287 := nl_ BK286 hg; have NB287_286 := ng_ BK286 hg; replace HB := at_ HB hb; replace BK285 := ab_ BK285 hb; replace BK286 := ab_ BK286 hb; clear hb hg; have hnb33 := NB285_286.out; have hnc33 := NB286_285.out; have hnb34 := NB285_287.out; have hnc34 := NB287_285.out; have hcz35_0 := cz_ BK285 0 (.int .i64 a0_0); have hcz35_1 := cz_ BK285 1 (.int .i64 a0_1); have hfz35_0 := fz_ BK285 0; have hfz35_1 := fz_ BK285 1) | ((with_reducible refine gate_callee (f := 55) rfl ?_); refine gl_ (some 6) Try.func55 #[.agg #[.int .i64 a0_0, .int .i64 a0_1]] ?_; (with_reducible refine (spec_PrefixOk.calls a0_0 a0_1 false _ A2.out).mono ?_); rintro e w36 ⟨rfl, hb⟩; refine ⟨_, rfl, ?_⟩; replace BK285 := ab_ BK285 hb; replace BK286 := ab_ BK286 hb; replace BK287 := ab_ BK287 hb; replace HB := at_ HB hb; clear hb; have hnb37 := NB286_287.out; have hnc37 := NB287_286.out; have hcz38_0 := cz_ BK286 0 (.int .i64 0); have hcz38_1 := cz_ BK286 1 (.int .i64 0); have hfz38_0 := fz_ BK286 0; have hfz38_1 := fz_ BK286 1; have hcz39_0 := cz_ BK287 0 (.int .i64 0); have hcz39_1 := cz_ BK287 1 (.int .i64 0); have hfz39_0 := fz_ BK287 0; have hfz39_1 := fz_ BK287 1))
  refine bodyPost_ret (results_list (rs := [.cell 2 28, .cell 3 28, .tmp 4]) rfl (by simp) (.cell gb286 28 #[.int .i64 0, .int .i64 0] (0, 0) _ rfl (by refine bd_ ?_; refine blk_far ?_ NB286_287.out _; refine bd_ ?_; refine blk_far ?_ NB286_287.out _; refine bd_ ?_; refine blk_put (cs := #[.int .i64 0, .int .i64 0]) ?_ 1 _ rfl; refine bd_ ?_; refine blk_put (cs := #[.int .i64 0, .int .i64 0]) ?_ 0 _ rfl; refine bd_ ?_; exact BK286.out) Try.underlying28 rfl (by kernel_rfl) (.cell gb287 28 #[.int .i64 0, .int .i64 0] (0, 0) _ rfl (by refine bd_ ?_; refine blk_put (cs := #[.int .i64 0, .int .i64 0]) ?_ 1 _ rfl; refine bd_ ?_; refine blk_put (cs := #[.int .i64 0, .int .i64 0]) ?_ 0 _ rfl; refine bd_ ?_; refine blk_far ?_ NB287_286.out _; refine bd_ ?_; refine blk_far ?_ NB287_286.out _; refine bd_ ?_; exact BK287.out) Try.underlying28 rfl (by kernel_rfl) (.tmp .nil)))) rfl ?_
  exact ⟨by first | rfl | (simp [errW_none, errW_some] <;> rfl) | (simp [*, errW_none, errW_some] <;> rfl), bw112_⟩
 subst c3
 rw [if_pos rfl] at H
 by_cases c4 : a0_1 = 16
 ·rw [if_pos c4] at H
  have c4b0 : (a0_1 == 16) = true := beq_iff_eq.mpr c4
  have c4b1 : (a0_1 != 16) = false := bne_eq_false_iff_eq.mpr c4
  clear c4
  simp only [Option.some.injEq, Prod.mk.injEq] at H
  obtain ⟨rfl, rfl, rfl, rfl, rfl⟩ := H
  go_enter Try.func95, Try.ntmps95
  go_wp2_with (first | ((with_reducible refine gate_dst (N := 1) rfl ?_); refine be_ 1 #[.int .i64 a0_0, .int .i64 a0_1] 28 ?_; intro gb285 hg w5 BK285 hb; have GW285 := ge_ HB hg; have GE285 := ge_ HB hg; replace HB := at_ HB hb; clear hb hg) | ((with_reducible refine gate_dst (N := 2) rfl ?_); refine be_ 2 #[.int .i64 0, .int .i64 0] 28 ?_; intro gb286 hg w6 BK286 hb; have GW286 := ge_ HB hg; have GE286 := ge_ HB hg; have NB285_286 := nl_ BK285 hg; have NB286_285 := ng_ BK285 hg; replace HB := at_ HB hb; replace BK285 := ab_ BK285 hb; clear hb hg) | ((with_reducible refine gate_dst (N := 3) rfl ?_); refine be_ 3 #[.int .i64 0, .int .i64 0] 28 ?_; intro gb287 hg w7 BK287 hb; have GW287 := ge_ HB hg; have GE287 := ge_ HB hg; have NB285_287 := nl_ BK285 hg; have NB287_285 := ng_ BK285 hg; have NB286_287 := nl_ BK286 hg; have NB287_286 := ng_ BK286 hg; replace HB := at_ HB hb; replace BK285 := ab_ BK285 hb; replace BK286 := ab_ BK286 hb; clear hb hg; have hnb8 := NB285_286.out; have hnc8 := NB286_285.out; have hnb9 := NB285_287.out; have hnc9 := NB287_285.out; have hcz10_0 := cz_ BK285 0 (.int .i64 a0_0); have hcz10_1 := cz_ BK285 1 (.int .i64 a0_1); have hfz10_0 := fz_ BK285 0; have hfz10_1 := fz_ BK285 1) | ((with_reducible refine gate_callee (f := 55) rfl ?_); refine gl_ (some 6) Try.func55 #[.agg #[.int .i64 a0_0, .int .i64 a0_1]] ?_; (with_reducible refine (spec_PrefixOk.calls a0_0 a0_1 true _ A2.out).mono ?_); rintro e w11 ⟨rfl, hb⟩; refine ⟨_, rfl, ?_⟩; replace BK285 := ab_ BK285 hb; replace BK286 := ab_ BK286 hb; replace BK287 := ab_ BK287 hb; replace HB := at_ HB hb; clear hb; have hcz12_0 := cz_ BK285 0 (.int .i64 a0_0); have hcz12_1 := cz_ BK285 1 (.int .i64 a0_1); have hfz12_0 := fz_ BK285 0; have hfz12_1 := fz_ BK285 1; have hnb13 := NB286_287.out; have hnc13 := NB287_286.out; have hcz14_0 := cz_ BK286 0 (.int .i64 0); have hcz14_1 := cz_ BK286 1 (.int .i64 0); have hfz14_0 := fz_ BK286 0; have hfz14_1 := fz_ BK286 1; have hcz15_0 := cz_ BK287 0 (.int .i64 0); have hcz15_1 := cz_ BK287 1 (.int .i64 0); have hfz15_0 := fz_ BK287 0; have hfz15_1 := fz_ BK287 1))
  refine bodyPost_ret (results_list (rs := [.cell 2 28, .cell 3 28, .tmp 4]) rfl (by simp) (.cell gb286 28 #[.int .i64 0, .int .i64 0] (0, 0) _ rfl (by refine bd_ ?_; refine blk_far ?_ NB286_287.out _; refine bd_ ?_; refine blk_far ?_ NB286_287.out _; refine bd_ ?_; refine blk_put (cs := #[.int .i64 0, .int .i64 0]) ?_ 1 _ rfl; refine bd_ ?_; refine blk_put (cs := #[.int .i64 0, .int .i64 0]) ?_ 0 _ rfl; refine bd_ ?_; exact BK286.out) Try.underlying28 rfl (by kernel_rfl) (.cell gb287 28 #[.int .i64 0, .int .i64 0] (0, 0) _ rfl (by refine bd_ ?_; refine blk_put (cs := #[.int .i64 0, .int .i64 0]) ?_ 1 _ rfl; refine bd_ ?_; refine blk_put (cs := #[.int .i64 0, .int .i64 0]) ?_ 0 _ rfl; refine bd_ ?_; refine blk_far ?_ NB287_286.out _; refine bd_ ?_; refine blk_far ?_ NB287_286.out _; refine bd_ ?_; exact BK287.out) Try.underlying28 rfl (by kernel_rfl) (.tmp .nil)))) rfl ?_
  exact ⟨by first | rfl | (simp [errW_none, errW_some] <;> rfl) | (simp [*, errW_none, errW_some] <;> rfl), bw112_⟩
 rw [if_neg c4] at H
 have c4b0 : (a0_1 == 16) = false := beq_eq_false_iff_ne.mpr c4
 have c4b1 : (a0_1 != 16) = true := bne_iff_ne.mpr c4
 obtain ⟨t289, A16, H⟩ := ob_ H
 simp only [Option.some.injEq, Prod.mk.injEq] at H
 obtain ⟨rfl, rfl, rfl, rfl, rfl⟩ := H
 go_enter Try.func95, Try.ntmps95
 try go_wp2_with (first | ((with_reducible refine gate_dst (N := 1) rfl ?_); refine be_ 1 #[.int .i64 a0_0, .int .i64 a0_1] 28 ?_; intro gb285 hg w17 BK285 hb; have GW285 := ge_ HB hg; have GE285 := ge_ HB hg; replace HB := at_ HB hb; clear hb hg) | ((with_reducible refine gate_dst (N := 2) rfl ?_); refine be_ 2 #[.int .i64 0, .int .i64 0] 28 ?_; intro gb286 hg w18 BK286 hb; have GW286 := ge_ HB hg; have GE286 := ge_ HB hg; have NB285_286 := nl_ BK285 hg; have NB286_285 := ng_ BK285 hg; replace HB := at_ HB hb; replace BK285 := ab_ BK285 hb; clear hb hg) | ((with_reducible refine gate_dst (N := 3) rfl ?_); refine be_ 3 #[.int .i64 0, .int .i64 0] 28 ?_; intro gb287 hg w19 BK287 hb; have GW287 := ge_ HB hg; have GE287 := ge_ HB hg; have NB285_287 := nl_ BK285 hg; have NB287_285 := ng_ BK285 hg; have NB286_287 := nl_ BK286 hg; have NB287_286 := ng_ BK286 hg; replace HB := at_ HB hb; replace BK285 := ab_ BK285 hb; replace BK286 := ab_ BK286 hb; clear hb hg; have hnb20 := NB285_286.out; have hnc20 := NB286_285.out; have hnb21 := NB285_287.out; have hnc21 := NB287_285.out; have hcz22_0 := cz_ BK285 0 (.int .i64 a0_0); have hcz22_1 := cz_ BK285 1 (.int .i64 a0_1); have hfz22_0 := fz_ BK285 0; have hfz22_1 := fz_ BK285 1) | ((with_reducible refine gate_callee (f := 55) rfl ?_); refine gl_ (some 6) Try.func55 #[.agg #[.int .i64 a0_0, .int .i64 a0_1]] ?_; (with_reducible refine (spec_PrefixOk.calls a0_0 a0_1 true _ A2.out).mono ?_); rintro e w23 ⟨rfl, hb⟩; refine ⟨_, rfl, ?_⟩; replace BK285 := ab_ BK285 hb; replace BK286 := ab_ BK286 hb; replace BK287 := ab_ BK287 hb; replace HB := at_ HB hb; clear hb; have hcz24_0 := cz_ BK285 0 (.int .i64 a0_0); have hcz24_1 := cz_ BK285 1 (.int .i64 a0_1); have hfz24_0 := fz_ BK285 0; have hfz24_1 := fz_ BK285 1))
 replace BK285 := ad_ BK285
 replace BK286 := ad_ BK286
 replace BK287 := ad_ BK287
 replace HB := Aside0.mk (below_drew1 HB.out)
 refine start_ (n := 20) (S := fun w' => w'.cell? ⟨gb285, 0, none⟩ = some (.int .i64 a0_0) ∧ w'.cell? ⟨gb285, 1, none⟩ = some (.int .i64 a0_1)) (ds := []) ba12_0 (by kernel_rfl) rfl rfl ⟨bq5_ BK285 0, bq5_ BK285 1⟩ (fun hHeld => ?_); refine with_tabW spec_Halves.tab3 spec_Halves.bits3 (fun HT_ HW_ => ?_)
 generalize w23.drew = w25 at BK285 BK286 BK287 HB hHeld ⊢
 refine pz_ 0 15 ba12_1 HT_ ?_
 refine pz_ 2 17 ba12_2 HT_ ?_
 refine pz_ 6 21 ba12_3 HT_ ?_
 refine pz_ 8 23 ba12_4 HT_ ?_
 refine pz_ 13 28 ba12_5 HT_ ?_
 refine pt_ 1 16 ba12_6 HT_ HW_ hHeld ?_
 refine pt_ 3 18 ba12_7 HT_ HW_ hHeld ?_
 refine pz_ 4 19 ba12_8 HT_ ?_
 refine pz_ 5 20 ba12_9 HT_ ?_
 refine pt_ 7 22 ba12_10 HT_ HW_ hHeld ?_
 refine pt_ 9 24 ba12_11 HT_ HW_ hHeld ?_
 refine pz_ 10 25 ba12_12 HT_ ?_
 refine pt_ 14 29 ba12_13 HT_ HW_ hHeld ?_
 refine pz_ 15 30 ba12_14 HT_ ?_
 refine on_ 11 (some 26) ba12_15 HT_ (fun K hK => ?_)
 refine gz_ Try.func57 #[.int .i64 (wrap64 (a0_1 + 1))] ?_
 with_reducible refine (spec_l01Size2.calls (wrap64 (a0_1 + 1)) t289 _ A16.out).mono ?_
 rintro e w' ⟨rfl, ⟨nd, rfl⟩⟩
 refine ⟨_, rfl, ?_⟩
 refine hK.out _ _ ⟨bq5_ BK285 0, bq5_ BK285 1⟩ (fun hHeld => ?_)
 clear hK K
 refine nz_ 26 ?_
 refine pz_ 12 27 ba12_16 HT_ ?_
 refine pz_ 16 31 ba12_17 HT_ ?_
 refine on_ 17 none ba12_18 HT_ (fun K hK => ?_)
 have hs26 : w25.cell? ⟨gb286, 0, none⟩ = some (.int .i64 0) := bq5_ BK286 0
 have hfs26 := fz_ BK286 0
 have hns26_0 := NB285_286.out
 have hns26_2 := NB287_286.out
 have hms26_0 := NB286_285.out
 have hms26_2 := NB286_287.out
 have hs27 : w25.cell? ⟨gb286, 1, none⟩ = some (.int .i64 0) := bq5_ BK286 1
 have hfs27 := fz_ BK286 1
 have hns27_0 := NB285_286.out
 have hns27_2 := NB287_286.out
 have hms27_0 := NB286_285.out
 have hms27_2 := NB286_287.out
 refine skip_ (w1 := ?_) (by rfl) rfl ?_ ?_
 rotate_left; · go_simp; rfl
 refine hK.out _ _ ⟨((cell_far (p := ⟨gb286, _, none⟩) NB285_286.out _).trans (((cell_far (p := ⟨gb286, _, none⟩) NB285_286.out _).trans (hHeld.1)))), ((cell_far (p := ⟨gb286, _, none⟩) NB285_286.out _).trans (((cell_far (p := ⟨gb286, _, none⟩) NB285_286.out _).trans (hHeld.2))))⟩ (fun hHeld => ?_)
 clear hK K
 refine on_ 18 none ba12_19 HT_ (fun K hK => ?_)
 have hs28 : w25.cell? ⟨gb287, 0, none⟩ = some (.int .i64 0) := bq5_ BK287 0
 have hfs28 := fz_ BK287 0
 have hns28_0 := NB285_287.out
 have hns28_1 := NB286_287.out
 have hms28_0 := NB287_285.out
 have hms28_1 := NB287_286.out
 have hs29 : w25.cell? ⟨gb287, 1, none⟩ = some (.int .i64 0) := bq5_ BK287 1
 have hfs29 := fz_ BK287 1
 have hns29_0 := NB285_287.out
 have hns29_1 := NB286_287.out
 have hms29_0 := NB287_285.out
 have hms29_1 := NB287_286.out
 refine skip_ (w1 := ?_) (by rfl) rfl ?_ ?_
 rotate_left; · go_simp; rfl
 refine hK.out _ _ ⟨((cell_far (p := ⟨gb287, _, none⟩) NB285_287.out _).trans (((cell_far (p := ⟨gb287, _, none⟩) NB285_287.out _).trans (hHeld.1)))), ((cell_far (p := ⟨gb287, _, none⟩) NB285_287.out _).trans (((cell_far (p := ⟨gb287, _, none⟩) NB285_287.out _).trans (hHeld.2))))⟩ (fun hHeld => ?_)
 clear hK K
 refine pz_ 19 4 ba12_20 HT_ ?_
 refine done_ (done_of HT_.out (by kernel_rfl)) ?_
 go_wp2
 refine bodyPost_ret (results_list (rs := [.cell 2 28, .cell 3 28, .tmp 4]) rfl (by simp) (.cell gb286 28 #[.int .i64 a0_0, .int .i64 (wrap64 (a0_1 + 1))] (0, 0) _ rfl (by refine bd_ ?_; refine blk_far ?_ NB286_287.out _; refine bd_ ?_; refine blk_far ?_ NB286_287.out _; refine bd_ ?_; refine blk_put (cs := #[.int .i64 a0_0, .int .i64 0]) ?_ 1 _ rfl; refine bd_ ?_; refine blk_put (cs := #[.int .i64 0, .int .i64 0]) ?_ 0 _ rfl; refine bd_ ?_; exact BK286.out) Try.underlying28 rfl (by kernel_rfl) (.cell gb287 28 #[.int .i64 (wrap64 (a0_0 + t289)), .int .i64 (wrap64 (a0_1 + 1))] (0, 0) _ rfl (by refine bd_ ?_; refine blk_put (cs := #[.int .i64 (wrap64 (a0_0 + t289)), .int .i64 0]) ?_ 1 _ rfl; refine bd_ ?_; refine blk_put (cs := #[.int .i64 0, .int .i64 0]) ?_ 0 _ rfl; refine bd_ ?_; refine blk_far ?_ NB287_286.out _; refine bd_ ?_; refine blk_far ?_ NB287_286.out _; refine bd_ ?_; exact BK287.out) Try.underlying28 rfl (by kernel_rfl) (.tmp .nil)))) rfl ?_
 exact ⟨by first | rfl | (simp [errW_none, errW_some] <;> rfl) | (simp [*, errW_none, errW_some] <;> rfl), bw112_⟩

end Go.Proofs.Ytjepmdngbafonaa.QFnSqueezed
