/- Contracts of functions that the law reaches: what each call returns and what it leaves in memory. Made by this session over the print of the kit. -/
import Derived.Test.YthmahcohcphljaaQFnCheapestx0
import Derived.Test.YthmahcohcphljaaQFnCheapestx7
import Derived.Test.YthmahcohcphljaaQFnCheapestx8
namespace Go.Proofs.Ythmahcohcphljaa.QFnCheapest
open Go.RowKit Go.Proofs.YthmahcohcphljaaC.PrintWords Go.Proofs.YthmahcohcphljaaC.PrintLast Go.Proofs.YthmahcohcphljaaC.PrintMore
attribute [local go_sem] max2_int min2_int max_two min_two max_three min_three max_four min_four
set_option linter.unusedVariables false
set_option linter.unusedSimpArgs false
mutual
def spec_l03DrawGraph.l0 : Nat → Int → Int → Int → List Int → Int → Int → Int → List (S76) → Option (Int × (List (S76)) × Int × Int)
 | 0, _, _, _, _, _, _, _, _ => none
 | k + 1, x1, x2, x8, x1000, x1001, x1002, x262000, x262001 => if x8 < x2 then (spec_l03DrawGraph.j1 k x1 x2 x8 (decide (x1 > 1)) x1000 x1001 x1002 x262000 x262001) else (spec_l03DrawGraph.j1 k x1 x2 x8 false x1000 x1001 x1002 x262000 x262001)
def spec_l03DrawGraph.j1 : Nat → Int → Int → Int → Bool → List Int → Int → Int → Int → List (S76) → Option (Int × (List (S76)) × Int × Int)
 | 0, _, _, _, _, _, _, _, _, _ => none
 | k + 1, x1, x2, x8, x19, x1000, x1001, x1002, x262000, x262001 => if x19 = true then ((spec_l01Below.f x1000 x1001 x1002 x1).bind fun bt262 => ((spec_l01Below.f x1000 bt262.2.1 bt262.2.2 x1).bind fun bt265 => ((spec_l01Below.f x1000 bt265.2.1 bt265.2.2 9).bind fun bt268 => ((spec_l01PickInt.f x1000 bt268.2.1 bt268.2.2 (([1, 1, 2, 2, 3, 5, wrap64 (1 + bt268.1), 1000] : List Int))).bind fun bt274 => (if x8 < (wrap64 (x1 - 1)) then ((spec_l01Below.f x1000 bt274.2.1 bt274.2.2 3).bind fun bt278 => (spec_l03DrawGraph.j2 k x1 x2 x8 (decide (bt278.1 > 0)) x1000 bt278.2.1 bt278.2.2 x262000 x262001 bt262.1 bt265.1 bt274.1)) else (spec_l03DrawGraph.j2 k x1 x2 x8 false x1000 bt274.2.1 bt274.2.2 x262000 x262001 bt262.1 bt265.1 bt274.1)))))) else (some (x262000, x262001, x1001, x1002))
def spec_l03DrawGraph.j2 : Nat → Int → Int → Int → Bool → List Int → Int → Int → Int → List (S76) → Int → Int → Int → Option (Int × (List (S76)) × Int × Int)
 | 0, _, _, _, _, _, _, _, _, _, _, _, _ => none
 | k + 1, x1, x2, x8, x43, x1000, x1001, x1002, x262000, x262001, x278000, x278001, x278002 => if x43 = true then (spec_l03DrawGraph.j3 k x1 x2 x8 x1000 x1001 x1002 x262000 x262001 x8 (wrap64 (x8 + 1)) x278002) else (spec_l03DrawGraph.j3 k x1 x2 x8 x1000 x1001 x1002 x262000 x262001 x278000 x278001 x278002)
def spec_l03DrawGraph.j3 : Nat → Int → Int → Int → List Int → Int → Int → Int → List (S76) → Int → Int → Int → Option (Int × (List (S76)) × Int × Int)
 | 0, _, _, _, _, _, _, _, _, _, _, _ => none
 | k + 1, x1, x2, x8, x1000, x1001, x1002, x262000, x262001, x278000, x278001, x278002 => if x278000 = x278001 then (spec_l03DrawGraph.l0 k x1 x2 (wrap64 (x8 + 1)) x1000 x1001 x1002 x262000 x262001) else (if (x262001.length : Int) < 59 then ((spec_l03Put.f k x262001 x278000 x278001 x278002).bind fun t281 => ((spec_l01Below.f x1000 x1001 x1002 4).bind fun bt284 => (if bt284.1 > 0 then ((spec_l01Once.f x1000 bt284.2.1 bt284.2.2 4).bind fun bt288 => (if bt288.1 = true then ((spec_l01Below.f x1000 bt288.2.1 bt288.2.2 6).bind fun bt291 => ((spec_l03Put.f k t281 x278001 x278000 (wrap64 (1 + bt291.1))).bind fun t294 => (spec_l03DrawGraph.l0 k x1 x2 (wrap64 (x8 + 1)) x1000 bt291.2.1 bt291.2.2 x262000 t294))) else ((spec_l03Put.f k t281 x278001 x278000 x278002).bind fun t297 => (spec_l03DrawGraph.l0 k x1 x2 (wrap64 (x8 + 1)) x1000 bt288.2.1 bt288.2.2 x262000 t297)))) else (spec_l03DrawGraph.l0 k x1 x2 (wrap64 (x8 + 1)) x1000 bt284.2.1 bt284.2.2 x262000 t281)))) else (spec_l03DrawGraph.l0 k x1 x2 (wrap64 (x8 + 1)) x1000 x1001 x1002 x262000 x262001))
end
def spec_l03DrawGraph.f (k : Nat) (s0_0 : List Int) (s0_1 : Int) (s0_2 : Int) (a1 : Int) (a2 : Int) : Option (Int × (List (S76)) × Int × Int) := spec_l03DrawGraph.l0 k a1 a2 0 s0_0 s0_1 s0_2 a1 ([] : List (S76))
set_option maxHeartbeats 8000000 in
set_option maxRecDepth 100000 in
theorem spec_l03DrawGraph.calls (k : Nat) (g : Nat) (s0_0 : List Int) (s0_1 : Int) (s0_2 : Int) (a1 : Int) (a2 : Int) (r1 : Int) (r2 : List (S76)) (r3 : Int) (r4 : Int) (w0 w : World) (hI : IsS115 w0 w g s0_0 s0_1 s0_2) (hB : Below w0.heap.size w0 w) (h : spec_l03DrawGraph.f k s0_0 s0_1 s0_2 a1 a2 = some (r1, r2, r3, r4)) :
  Calls Try.prog 83 #[.pointer (some ⟨g, 0, none⟩), .int .i64 a1, .int .i64 a2] w fun e w' => ∃ v1_ : Value, e = .returned (.agg #[.int .i64 r1, v1_]) ∧ Kd.R k76 76 w' w.heap.size (fun _ => True) v1_ r2 ∧ IsS115 w0 w' g s0_0 r3 r4 ∧ Below w0.heap.size w0 w' ∧ KeepBut w w' g none := by
 have hu30 := Try.underlying30
 have hu76 := Try.underlying76
 have HI0 := Aside0.mk hI
 have HK := Aside0.mk (KeepBut.refl w g none)
 have HL := Aside0.mk hB.size
 clear hI
 have HW0 := Aside0.mk hB.size
 have HB := Aside0.mk hB
 clear hB
 have H : (spec_l03DrawGraph.l0 k a1 a2 0 s0_0 s0_1 s0_2 a1 ([] : List (S76))) = some (r1, r2, r3, r4) := h
 clear h
 have H' := Aside0.mk H
 clear H
 go_enter Try.func83, Try.ntmps83
 go_wp2_with (first | ((with_reducible refine gate_dst (N := 6) rfl ?_); refine be_ 6 #[.int .i64 0, .slice none 0 0] 30 ?_; intro gb260 hg w4 BK260 hb; have GW260 := gw_ HK hg; have GE260 := gv_ HW0 HK hg; have NB0_260 := Aside0.mk ((by rw [hg]; exact Nat.ne_of_lt (IsS115.lt (show IsS115 w0 _ g s0_0 s0_1 s0_2 from is115_)) : g ≠ gb260)); have NB260_0 := Aside0.mk ((by rw [hg]; exact Nat.ne_of_gt (IsS115.lt (show IsS115 w0 _ g s0_0 s0_1 s0_2 from is115_)) : gb260 ≠ g)); replace HB := bs115_ hb; replace HK := kt_ HK (KeepBut.of_below hb g none); replace HI0 := Aside0.mk (IsS115.below is115_ hb); clear hb hg) | ((with_reducible refine gate_dst (N := 7) rfl ?_); refine be_ 7 #[.int .i64 0, .slice none 0 0] 30 ?_; intro gb261 hg w5 BK261 hb; have GW261 := gw_ HK hg; have GE261 := gv_ HW0 HK hg; have NB260_261 := nl_ BK260 hg; have NB261_260 := ng_ BK260 hg; have NB0_261 := Aside0.mk ((by rw [hg]; exact Nat.ne_of_lt (IsS115.lt (show IsS115 w0 _ g s0_0 s0_1 s0_2 from is115_)) : g ≠ gb261)); have NB261_0 := Aside0.mk ((by rw [hg]; exact Nat.ne_of_gt (IsS115.lt (show IsS115 w0 _ g s0_0 s0_1 s0_2 from is115_)) : gb261 ≠ g)); replace HB := bs115_ hb; replace HK := kt_ HK (KeepBut.of_below hb g none); replace BK260 := ab_ BK260 hb; replace HI0 := Aside0.mk (IsS115.below is115_ hb); clear hb hg; have hnb6 := NB261_260.out; have hnc6 := NB260_261.out; have hnb7 := NB261_0.out; have hnc7 := NB0_261.out; have hcz8_0 := cz_ BK261 0 (.int .i64 0); have hcz8_1 := cz_ BK261 1 (.slice none 0 0); have hfz8_0 := fz_ BK261 0; have hfz8_1 := fz_ BK261 1))
 go_loopg [8] k (fun kq v8 w' => ∃ (x8_1 : Int) (x1001_1 : Int) (x1002_1 : Int) (x262001_1 : List (S76)) (u262001 : Value), v8 = .int .i64 x8_1 ∧ Aside0 (spec_l03DrawGraph.l0 kq a1 a2 x8_1 s0_0 x1001_1 x1002_1 a1 x262001_1 = some (r1, r2, r3, r4)) ∧ Aside0 (kq ≤ k) ∧ Aside0 (Kd.R k76 76 w' w.heap.size (fun _ => True) u262001 x262001_1) ∧ Aside0 (w'.heap[gb260]? = some (.cells #[.int .i64 0, (.slice none 0 0)] 30 (0, 0))) ∧ Aside0 (w'.heap[gb261]? = some (.cells #[.int .i64 a1, u262001] 30 (0, 0))) ∧ Aside0 (IsS115 w0 w' g s0_0 x1001_1 x1002_1) ∧ Aside0 (KeepBut w w' g none) ∧ Aside0 (Below w0.heap.size w0 w'))
 case atStart => exact ⟨(0), (s0_1), (s0_2), (([] : List (S76))), (.slice none 0 0), er_, H', ⟨Nat.le_refl _⟩, ⟨by first | exact Kd.R_nil _ _ _ _ _ | exact Kd.N_nil _ _ _ _ _ | exact Kd.V_nil _ _ _ _ _ | exact Kd.Q_nil _ _ _ _ _ | exact Kd.S_nil _ _ _ _ _⟩, ⟨bc_ BK260⟩, ⟨by refine bd_ ?_; refine blk_put (cs := #[.int .i64 a1, .slice none 0 0]) ?_ 1 _ rfl; refine bd_ ?_; refine blk_put (cs := #[.int .i64 0, .slice none 0 0]) ?_ 0 _ rfl; refine bd_ ?_; exact BK261.out⟩, ⟨is115_⟩, ⟨kx_ HK⟩, ⟨bw115_⟩⟩
 clear H' hcz8_0 hcz8_1 hfz8_0 hfz8_1
 obtain ⟨x8_1, x1001_1, x1002_1, x262001_1, u262001, rfl, HA, HK1, HO_262001, BK260, BK261, HI0, HK, HB⟩ := hrel
 cases gk with
 | zero => exact absurd HA.out (by simp [spec_l03DrawGraph.l0])
 | succ k1 =>
  have H := HA.out
  clear HA
  simp only [spec_l03DrawGraph.l0] at H
  have HC9 := Aside0.mk H
  clear H
  go_upto_region 3 with (fail)
  go_cut [19] (fun v19 wc => ∃ (kq : Nat) (x19_8 : Bool), v19 = .bool x19_8 ∧ Aside0 (spec_l03DrawGraph.j1 kq a1 a2 x8_1 x19_8 s0_0 x1001_1 x1002_1 a1 x262001_1 = some (r1, r2, r3, r4)) ∧ Aside0 (kq ≤ k1) ∧ Aside0 (Kd.R k76 76 wc w.heap.size (fun _ => True) u262001 x262001_1) ∧ Aside0 (wc.heap[gb260]? = some (.cells #[.int .i64 0, (.slice none 0 0)] 30 (0, 0))) ∧ Aside0 (wc.heap[gb261]? = some (.cells #[.int .i64 a1, u262001] 30 (0, 0))) ∧ Aside0 (IsS115 w0 wc g s0_0 x1001_1 x1002_1) ∧ Aside0 (KeepBut w wc g none) ∧ Aside0 (Below w0.heap.size w0 wc))
  case first =>
   have H := HC9.out
   clear HC9
   by_cases c10 : x8_1 < a2
   ·rw [if_pos c10] at H
    have c10b0 : decide (x8_1 < a2) = true := decide_eq_true c10
    clear c10
    (first | rw [c10b0] | (simp only [i64_w, i32_w]; rw [c10b0]) | skip)
    have H' := Aside0.mk H
    clear H
    go_wp2
    go_meet
    case rel => exact ⟨_, (decide (a1 > 1)), er_, H', ⟨by have := HK1.out; first | omega | exact Nat.le_refl _⟩, ⟨hd_ HO_262001⟩, ⟨bx_ BK260⟩, ⟨bx_ BK261⟩, ⟨is115_⟩, ⟨kx_ HK⟩, ⟨bw115_⟩⟩
   rw [if_neg c10] at H
   have c10b0 : decide (x8_1 < a2) = false := decide_eq_false c10
   clear c10
   (first | rw [c10b0] | (simp only [i64_w, i32_w]; rw [c10b0]) | skip)
   have H' := Aside0.mk H
   clear H
   go_wp2
   go_meet
   case rel => exact ⟨_, (false), er_, H', ⟨by have := HK1.out; first | omega | exact Nat.le_refl _⟩, ⟨hd_ HO_262001⟩, ⟨bx_ BK260⟩, ⟨bx_ BK261⟩, ⟨is115_⟩, ⟨kx_ HK⟩, ⟨bw115_⟩⟩
  clear HC9
  obtain ⟨kq, x19_8, rfl, HA, HJ8, HO_262001, BK260, BK261, HI0, HK, HB⟩ := hcut
  cases kq with
  | zero => exact absurd HA.out (by simp [spec_l03DrawGraph.j1])
  | succ kj8 =>
   have H := HA.out
   clear HA
   simp only [spec_l03DrawGraph.j1] at H
   by_cases c11 : x19_8 = true
   rotate_left
   ·replace c11 := Bool.eq_false_iff.mpr c11
    subst c11
    rw [if_neg (show ¬ (false = true) by decide)] at H
    simp only [Option.some.injEq, Prod.mk.injEq] at H
    obtain ⟨rfl, rfl, rfl, rfl⟩ := H
    have hnb123 := NB261_260.out
    have hnc123 := NB260_261.out
    have hnb124 := NB261_0.out
    have hnc124 := NB0_261.out
    have hcz125_0 := cz_ BK261 0 (.int .i64 a1)
    have hcz125_1 := cz_ BK261 1 (u262001)
    have hfz125_0 := fz_ BK261 0
    have hfz125_1 := fz_ BK261 1
    have hnb126 := NB260_0.out
    have hnc126 := NB0_260.out
    have hcz127_0 := cz_ BK260 0 (.int .i64 0)
    have hcz127_1 := cz_ BK260 1 (.slice none 0 0)
    have hfz127_0 := fz_ BK260 0
    have hfz127_1 := fz_ BK260 1
    obtain ⟨Ao128, co128, eo128⟩ := Kd.R_slice HO_262001.out
    subst eo128
    go_wp2
    refine bodyPost_ret (results_cell_row rfl _ _ gb260 30 #[.int .i64 a1, .slice Ao128 x262001_1.length co128] (0, 0) _ rfl (by refine bd_ ?_; refine blk_put (cs := #[.int .i64 a1, .slice none 0 0]) ?_ 1 _ rfl; refine bd_ ?_; refine blk_put (cs := #[.int .i64 0, .slice none 0 0]) ?_ 0 _ rfl; refine bd_ ?_; exact BK260.out) Try.underlying30 rfl (by kernel_rfl)) rfl ?_
    exact ⟨_, ew_, by (with_reducible repeat (first | apply Kd.R_alloc | apply Kd.R_drewN | apply Kd.R_drew)); exact Kd.R_mono (Kd.R_far (Kd.R_far (Kd.R_types HO_262001.out BK260.out (by decide)) (fun _ hk => hk.2) _) (fun _ hk => hk.2) _) (fun _ hk => trivial), is115_, bw115_, kx_ HK⟩
   subst c11
   rw [if_pos rfl] at H
   obtain ⟨⟨t262, t263, t264⟩, A12, H⟩ := ob_ H
   obtain ⟨⟨t265, t266, t267⟩, A13, H⟩ := ob_ H
   obtain ⟨⟨t268, t269, t270⟩, A14, H⟩ := ob_ H
   obtain ⟨y271, hy271⟩ : ∃ y_ : List Int, y_ = (([1, 1, 2, 2, 3, 5, wrap64 (1 + t268), 1000] : List Int)) := ⟨_, rfl⟩
   replace H : ((spec_l01PickInt.f s0_0 t269 t270 y271).bind fun bt274 => (if x8_1 < (wrap64 (a1 - 1)) then ((spec_l01Below.f s0_0 bt274.2.1 bt274.2.2 3).bind fun bt278 => (spec_l03DrawGraph.j2 kj8 a1 a2 x8_1 (decide (bt278.1 > 0)) s0_0 bt278.2.1 bt278.2.2 a1 x262001_1 t262 t265 bt274.1)) else (spec_l03DrawGraph.j2 kj8 a1 a2 x8_1 false s0_0 bt274.2.1 bt274.2.2 a1 x262001_1 t262 t265 bt274.1))) = some (r1, r2, r3, r4) := by first | (rw [hy271]; with_reducible exact H) | (have H2_ := (Option.bind_some _ _).symm.trans H; rw [hy271]; with_reducible exact H2_) | (have H2_ := (Option.bind_some _ _).symm.trans H; with_reducible exact H2_) | with_reducible exact H | (rw [hy271]; exact H) | exact H
   have Ny271 := Aside0.mk hy271
   clear hy271
   obtain ⟨⟨t274, t275, t276⟩, A15, H⟩ := ob_ H
   have HC16 := Aside0.mk H
   clear H
   go_upto_region 6 with (first | ((with_reducible refine gate_callee (f := 68) rfl ?_); refine gl_ (some 24) Try.func68 #[.pointer (some ⟨g, 0, none⟩), .int .i64 a1] ?_; (with_reducible refine (spec_l01Below.calls g s0_0 x1001_1 x1002_1 a1 t262 t263 t264 w0 _ ?side1 ?side2 A12.out).mono ?_); (case side1 => exact is115_); (case side2 => exact bw115_); rintro e w17 ⟨rfl, hi, hb, hk⟩; refine ⟨_, rfl, ?_⟩; replace HO_262001 := ak115_ HO_262001 (show IsS115 w0 _ g s0_0 x1001_1 x1002_1 from is115_) hk; replace BK260 := kb_ BK260 NB260_0 hk; replace BK261 := kb_ BK261 NB261_0 hk; replace HK := kt_ HK hk; replace HB := Aside0.mk (hb); replace HI0 := Aside0.mk (hi); clear hb hk hi) | ((with_reducible refine gate_callee (f := 68) rfl ?_); refine gl_ (some 27) Try.func68 #[.pointer (some ⟨g, 0, none⟩), .int .i64 a1] ?_; (with_reducible refine (spec_l01Below.calls g s0_0 t263 t264 a1 t265 t266 t267 w0 _ ?side1 ?side2 A13.out).mono ?_); (case side1 => exact is115_); (case side2 => exact bw115_); rintro e w18 ⟨rfl, hi, hb, hk⟩; refine ⟨_, rfl, ?_⟩; replace HO_262001 := ak115_ HO_262001 (show IsS115 w0 _ g s0_0 t263 t264 from is115_) hk; replace BK260 := kb_ BK260 NB260_0 hk; replace BK261 := kb_ BK261 NB261_0 hk; replace HK := kt_ HK hk; replace HB := Aside0.mk (hb); replace HI0 := Aside0.mk (hi); clear hb hk hi) | ((with_reducible refine gate_callee (f := 68) rfl ?_); refine gl_ (some 30) Try.func68 #[.pointer (some ⟨g, 0, none⟩), .int .i64 9] ?_; (with_reducible refine (spec_l01Below.calls g s0_0 t266 t267 9 t268 t269 t270 w0 _ ?side1 ?side2 A14.out).mono ?_); (case side1 => exact is115_); (case side2 => exact bw115_); rintro e w19 ⟨rfl, hi, hb, hk⟩; refine ⟨_, rfl, ?_⟩; replace HO_262001 := ak115_ HO_262001 (show IsS115 w0 _ g s0_0 t266 t267 from is115_) hk; replace BK260 := kb_ BK260 NB260_0 hk; replace BK261 := kb_ BK261 NB261_0 hk; replace HK := kt_ HK hk; replace HB := Aside0.mk (hb); replace HI0 := Aside0.mk (hi); clear hb hk hi) | ((with_reducible refine gate_dst (N := 32) rfl ?_); refine Kd.R_lit (Kd.int .i64) _ 3 ?hg (N := 32) ?hd (xs := ([1, 1, 2, 2, 3, 5, wrap64 (1 + t268), 1000] : List Int)) (inner := [.int .i64 1, .int .i64 1, .int .i64 2, .int .i64 2, .int .i64 3, .int .i64 5, .int .i64 (wrap64 (1 + t268)), .int .i64 1000]) (ok := fun _ => True) (okp := fun _ => True) ?hr ?hp (fun _ hk => hk) trivial (Below.refl _ _) (Nat.le_refl _) (by simp) ?_; (case hd => rfl); (case hg => rfl); (case hr => first | (go_simp; done) | (go_simp; rfl)); (case hp => exact (Reps.one (show Kd.M (Kd.int .i64) _ _ _ 1 [.int .i64 1] from rfl) (Reps.one (show Kd.M (Kd.int .i64) _ _ _ 1 [.int .i64 1] from rfl) (Reps.one (show Kd.M (Kd.int .i64) _ _ _ 2 [.int .i64 2] from rfl) (Reps.one (show Kd.M (Kd.int .i64) _ _ _ 2 [.int .i64 2] from rfl) (Reps.one (show Kd.M (Kd.int .i64) _ _ _ 3 [.int .i64 3] from rfl) (Reps.one (show Kd.M (Kd.int .i64) _ _ _ 5 [.int .i64 5] from rfl) (Reps.one (show Kd.M (Kd.int .i64) _ _ _ (wrap64 (1 + t268)) [.int .i64 (wrap64 (1 + t268))] from rfl) (Reps.one (show Kd.M (Kd.int .i64) _ _ _ 1000 [.int .i64 1000] from rfl) (Reps.none _ _)))))))))); intro v272 w20 ho21 hb hg_ hnew_; clear hg_ hnew_; (first | rw [← Ny271.out] at ho21 | (simp only [Int.reduceToNat] at ho21; rw [← Ny271.out] at ho21)); have HO273 := Aside0.mk (Kd.R_lower ho21 (keep_size (w := w) (g := g) (row := none) (kx_ HK))); replace HO_262001 := rb_ HO_262001 hb; replace BK260 := ab_ BK260 hb; replace BK261 := ab_ BK261 hb; replace HK := kt_ HK (KeepBut.of_below hb g none); replace HB := bs115_ hb; replace HI0 := Aside0.mk (IsS115.below is115_ hb); clear hb ho21; obtain ⟨Ao22, co22, eo22⟩ := Kd.R_slice HO273.out; subst eo22) | ((with_reducible refine gate_callee (f := 67) rfl ?_); refine gl_ (some 33) Try.func67 #[.pointer (some ⟨g, 0, none⟩), .slice Ao22 y271.length co22] ?_; (with_reducible refine (spec_l01PickInt.calls g s0_0 t269 t270 _ _ y271 t274 t275 t276 w0 _ ?side1 ?side2 ?side3 ?side4 ?side5 A15.out).mono ?_); (case side1 => exact is115_); (case side2 => exact bw115_); (case side3 => exact rc_ HO273); (case side4 => exact (Kd.R_reads' HO273.out).2.1); (case side5 => exact far_slice (IsS115.own_ne HI0.out HO273.out (by decide))); rintro e w23 ⟨rfl, hi, hb, hk⟩; refine ⟨_, rfl, ?_⟩; replace HO_262001 := ak115_ HO_262001 (show IsS115 w0 _ g s0_0 t269 t270 from is115_) hk; replace BK260 := kb_ BK260 NB260_0 hk; replace BK261 := kb_ BK261 NB261_0 hk; replace HO273 := ak115_ HO273 (show IsS115 w0 _ g s0_0 t269 t270 from is115_) hk; replace HK := kt_ HK hk; replace HB := Aside0.mk (hb); replace HI0 := Aside0.mk (hi); clear hb hk hi) | ((with_reducible refine gate_dst (N := 9) rfl ?_); refine be_ 9 #[.int .i64 0, .int .i64 0, .int .i64 0] 76 ?_; intro gb277 hg w24 BK277 hb; have GW277 := gw_ HK hg; have GE277 := gv_ HW0 HK hg; have NB260_277 := nl_ BK260 hg; have NB277_260 := ng_ BK260 hg; have NB261_277 := nl_ BK261 hg; have NB277_261 := ng_ BK261 hg; have NB0_277 := Aside0.mk ((by rw [hg]; exact Nat.ne_of_lt (IsS115.lt (show IsS115 w0 _ g s0_0 t275 t276 from is115_)) : g ≠ gb277)); have NB277_0 := Aside0.mk ((by rw [hg]; exact Nat.ne_of_gt (IsS115.lt (show IsS115 w0 _ g s0_0 t275 t276 from is115_)) : gb277 ≠ g)); replace HO_262001 := Aside0.mk (Kd.R_below (Kd.R_elderB (hd_ HO_262001) gb277 (Nat.le_of_eq hg.symm)) hb); replace HO273 := rb_ HO273 hb; replace HB := bs115_ hb; replace HK := kt_ HK (KeepBut.of_below hb g none); replace BK260 := ab_ BK260 hb; replace BK261 := ab_ BK261 hb; replace HI0 := Aside0.mk (IsS115.below is115_ hb); clear hb hg; have hnb25 := NB277_260.out; have hnc25 := NB260_277.out; have hnb26 := NB277_261.out; have hnc26 := NB261_277.out; have hnb27 := NB277_0.out; have hnc27 := NB0_277.out; have hcz28_0 := cz_ BK277 0 (.int .i64 0); have hcz28_1 := cz_ BK277 1 (.int .i64 0); have hcz28_2 := cz_ BK277 2 (.int .i64 0); have hfz28_0 := fz_ BK277 0; have hfz28_1 := fz_ BK277 1; have hfz28_2 := fz_ BK277 2))
   (try simp only [Act.put, List.setIfInBounds_toArray, List.set_cons_zero, List.set_cons_succ])
   go_cut [43] (fun v43 wc => ∃ (kq : Nat) (x43_15 : Bool) (x1001_15 : Int) (x1002_15 : Int), v43 = .bool x43_15 ∧ Aside0 (spec_l03DrawGraph.j2 kq a1 a2 x8_1 x43_15 s0_0 x1001_15 x1002_15 a1 x262001_1 t262 t265 t274 = some (r1, r2, r3, r4)) ∧ Aside0 (kq ≤ kj8) ∧ Aside0 (Kd.R k76 76 wc w.heap.size (fun k_ => k_ ≠ gb277) u262001 x262001_1) ∧ Aside0 (wc.heap[gb260]? = some (.cells #[.int .i64 0, (.slice none 0 0)] 30 (0, 0))) ∧ Aside0 (wc.heap[gb261]? = some (.cells #[.int .i64 a1, u262001] 30 (0, 0))) ∧ Aside0 (wc.heap[gb277]? = some (.cells #[.int .i64 t262, .int .i64 t265, .int .i64 t274] 76 (0, 0))) ∧ Aside0 (IsS115 w0 wc g s0_0 x1001_15 x1002_15) ∧ Aside0 (KeepBut w wc g none) ∧ Aside0 (Below w0.heap.size w0 wc))
   case first =>
    have H := HC16.out
    clear HC16
    by_cases c29 : x8_1 < (wrap64 (a1 - 1))
    rotate_left
    ·rw [if_neg c29] at H
     have c29b0 : decide (x8_1 < (wrap64 (a1 - 1))) = false := decide_eq_false c29
     clear c29
     (first | rw [c29b0] | (simp only [i64_w, i32_w]; rw [c29b0]) | skip)
     have H' := Aside0.mk H
     clear H
     go_wp2
     go_meet
     case rel => exact ⟨_, (false), (t275), (t276), er_, H', ⟨by have := HK1.out; have := HJ8.out; first | omega | exact Nat.le_refl _⟩, ⟨hq_ (Kd.R_mono (Kd.R_far (Kd.R_far (Kd.R_far (Kd.R_mono HO_262001.out (fun k_ hk => (⟨hk, hk.2⟩ : _ ∧ k_ ≠ gb277))) (fun _ hk => hk.2) _) (fun _ hk => hk.2) _) (fun _ hk => hk.2) _) (fun _ hk => hk.1.2))⟩, ⟨bc_ BK260⟩, ⟨bc_ BK261⟩, ⟨by refine bd_ ?_; refine blk_put (cs := #[.int .i64 t262, .int .i64 t265, .int .i64 0]) ?_ 2 _ rfl; refine bd_ ?_; refine blk_put (cs := #[.int .i64 t262, .int .i64 0, .int .i64 0]) ?_ 1 _ rfl; refine bd_ ?_; refine blk_put (cs := #[.int .i64 0, .int .i64 0, .int .i64 0]) ?_ 0 _ rfl; refine bd_ ?_; exact BK277.out⟩, ⟨is115_⟩, ⟨kx_ HK⟩, ⟨bw115_⟩⟩
    rw [if_pos c29] at H
    have c29b0 : decide (x8_1 < (wrap64 (a1 - 1))) = true := decide_eq_true c29
    clear c29
    (first | rw [c29b0] | (simp only [i64_w, i32_w]; rw [c29b0]) | skip)
    obtain ⟨⟨t278, t279, t280⟩, A30, H⟩ := ob_ H
    have H' := Aside0.mk H
    clear H
    go_wp2_with (go_at_call 68; (with_reducible refine (spec_l01Below.calls g s0_0 t275 t276 3 t278 t279 t280 w0 _ ?side1 ?side2 A30.out).mono ?_); (case side1 => exact is115_); (case side2 => exact bw115_); rintro e w31 ⟨rfl, hi, hb, hk⟩; replace HO_262001 := Aside0.mk (Kd.R_mono (Kd.R_keep (IsS115.apart (show IsS115 w0 _ g s0_0 t275 t276 from is115_) (hq_ ((Kd.R_mono (Kd.R_far (Kd.R_far (Kd.R_far (Kd.R_mono HO_262001.out (fun k_ hk => (⟨hk, hk.2⟩ : _ ∧ k_ ≠ gb277))) (fun _ hk => hk.2) _) (fun _ hk => hk.2) _) (fun _ hk => hk.2) _) (fun _ h_ => h_.1)))) (by decide)) hk (fun _ h => h.2)) (fun _ h => h.1)); replace BK260 := kc_ BK260 NB260_0 hk; replace BK261 := kc_ BK261 NB261_0 hk; replace HO273 := Aside0.mk (Kd.R_mono (Kd.R_keep (IsS115.apart (show IsS115 w0 _ g s0_0 t275 t276 from is115_) (hs_ HO273 BK277) (by decide)) hk (fun _ h => h.2)) (fun _ h => h.1)); replace BK277 := Aside0.mk (KeepBut.blk hk (g' := gb277) (o := .cells #[.int .i64 t262, .int .i64 t265, .int .i64 t274] 76 (0, 0)) (by refine bd_ ?_; refine blk_put (cs := #[.int .i64 t262, .int .i64 t265, .int .i64 0]) ?_ 2 _ rfl; refine bd_ ?_; refine blk_put (cs := #[.int .i64 t262, .int .i64 0, .int .i64 0]) ?_ 1 _ rfl; refine bd_ ?_; refine blk_put (cs := #[.int .i64 0, .int .i64 0, .int .i64 0]) ?_ 0 _ rfl; refine bd_ ?_; exact BK277.out) NB277_0.out (by simp)); replace HK := kt_ HK hk; replace HB := Aside0.mk (hb); replace HI0 := Aside0.mk (hi); clear hb hk hi)
    go_meet
    case rel => exact ⟨_, (decide (t278 > 0)), (t279), (t280), er_, H', ⟨by have := HK1.out; have := HJ8.out; first | omega | exact Nat.le_refl _⟩, ⟨hq_ (Kd.R_mono HO_262001.out (fun _ hk => hk.2))⟩, ⟨bx_ BK260⟩, ⟨bx_ BK261⟩, ⟨bx_ BK277⟩, ⟨is115_⟩, ⟨kx_ HK⟩, ⟨bw115_⟩⟩
   clear HC16 hcz28_0 hcz28_1 hcz28_2 hfz28_0 hfz28_1 hfz28_2
   obtain ⟨kq, x43_15, x1001_15, x1002_15, rfl, HA, HJ15, HO_262001, BK260, BK261, BK277, HI0, HK, HB⟩ := hcut
   cases kq with
   | zero => exact absurd HA.out (by simp [spec_l03DrawGraph.j2])
   | succ kj15 =>
    have H := HA.out
    clear HA
    simp only [spec_l03DrawGraph.j2] at H
    have HC32 := Aside0.mk H
    clear H
    go_upto_if 43 with (fail)
    go_cut [] (fun wc => ∃ (kq : Nat) (x278000_31 : Int) (x278001_31 : Int), Aside0 (spec_l03DrawGraph.j3 kq a1 a2 x8_1 s0_0 x1001_15 x1002_15 a1 x262001_1 x278000_31 x278001_31 t274 = some (r1, r2, r3, r4)) ∧ Aside0 (kq ≤ kj15) ∧ Aside0 (Kd.R k76 76 wc w.heap.size (fun k_ => k_ ≠ gb277) u262001 x262001_1) ∧ Aside0 (wc.heap[gb260]? = some (.cells #[.int .i64 0, (.slice none 0 0)] 30 (0, 0))) ∧ Aside0 (wc.heap[gb261]? = some (.cells #[.int .i64 a1, u262001] 30 (0, 0))) ∧ Aside0 (wc.heap[gb277]? = some (.cells #[.int .i64 x278000_31, .int .i64 x278001_31, .int .i64 t274] 76 (0, 0))) ∧ Aside0 (IsS115 w0 wc g s0_0 x1001_15 x1002_15) ∧ Aside0 (KeepBut w wc g none) ∧ Aside0 (Below w0.heap.size w0 wc))
    case first =>
     have H := HC32.out
     clear HC32
     by_cases c33 : x43_15 = true
     rotate_left
     ·replace c33 := Bool.eq_false_iff.mpr c33
      subst c33
      rw [if_neg (show ¬ (false = true) by decide)] at H
      have H' := Aside0.mk H
      clear H
      go_wp2
      go_meet
      case rel => exact ⟨_, (t262), (t265), H', ⟨by have := HK1.out; have := HJ8.out; have := HJ15.out; first | omega | exact Nat.le_refl _⟩, ⟨hd_ HO_262001⟩, ⟨bx_ BK260⟩, ⟨bx_ BK261⟩, ⟨bx_ BK277⟩, ⟨is115_⟩, ⟨kx_ HK⟩, ⟨bw115_⟩⟩
     subst c33
     rw [if_pos rfl] at H
     have H' := Aside0.mk H
     clear H
     have hnb34 := NB277_260.out
     have hnc34 := NB260_277.out
     have hnb35 := NB277_261.out
     have hnc35 := NB261_277.out
     have hnb36 := NB277_0.out
     have hnc36 := NB0_277.out
     have hcz37_0 := cz_ BK277 0 (.int .i64 t262)
     have hcz37_1 := cz_ BK277 1 (.int .i64 t265)
     have hcz37_2 := cz_ BK277 2 (.int .i64 t274)
     have hfz37_0 := fz_ BK277 0
     have hfz37_1 := fz_ BK277 1
     have hfz37_2 := fz_ BK277 2
     go_wp2
     go_meet
     case rel => exact ⟨_, (x8_1), (wrap64 (x8_1 + 1)), H', ⟨by have := HK1.out; have := HJ8.out; have := HJ15.out; first | omega | exact Nat.le_refl _⟩, ⟨hq_ (Kd.R_mono (Kd.R_far (Kd.R_far (Kd.R_mono HO_262001.out (fun k_ hk => (⟨hk, hk⟩ : _ ∧ k_ ≠ gb277))) (fun _ hk => hk.2) _) (fun _ hk => hk.2) _) (fun _ hk => hk.1))⟩, ⟨bc_ BK260⟩, ⟨bc_ BK261⟩, ⟨by refine bd_ ?_; refine blk_put (cs := #[.int .i64 x8_1, .int .i64 t265, .int .i64 t274]) ?_ 1 _ rfl; refine bd_ ?_; refine blk_put (cs := #[.int .i64 t262, .int .i64 t265, .int .i64 t274]) ?_ 0 _ rfl; refine bd_ ?_; exact BK277.out⟩, ⟨is115_⟩, ⟨kx_ HK⟩, ⟨bw115_⟩⟩
    clear HC32
    obtain ⟨kq, x278000_31, x278001_31, HA, HJ31, HO_262001, BK260, BK261, BK277, HI0, HK, HB⟩ := hcut
    cases kq with
    | zero => exact absurd HA.out (by simp [spec_l03DrawGraph.j3])
    | succ kj31 =>
     have H := HA.out
     clear HA
     simp only [spec_l03DrawGraph.j3] at H
     by_cases c38 : x278000_31 = x278001_31
     ·rw [if_pos c38] at H
      have c38b0 : (x278000_31 == x278001_31) = true := beq_iff_eq.mpr c38
      have c38b1 : (x278000_31 != x278001_31) = false := bne_eq_false_iff_eq.mpr c38
      clear c38
      have H' := Aside0.mk H
      clear H
      have hnb39 := NB277_260.out
      have hnc39 := NB260_277.out
      have hnb40 := NB277_261.out
      have hnc40 := NB261_277.out
      have hnb41 := NB277_0.out
      have hnc41 := NB0_277.out
      have hcz42_0 := cz_ BK277 0 (.int .i64 x278000_31)
      have hcz42_1 := cz_ BK277 1 (.int .i64 x278001_31)
      have hcz42_2 := cz_ BK277 2 (.int .i64 t274)
      have hfz42_0 := fz_ BK277 0
      have hfz42_1 := fz_ BK277 1
      have hfz42_2 := fz_ BK277 2
      go_wp2
      go_roundg kj31
      case measure => have := HK1.out; have := HJ8.out; have := HJ15.out; have := HJ31.out; omega
      case rel => exact ⟨(wrap64 (x8_1 + 1)), (x1001_15), (x1002_15), (x262001_1), (u262001), er_, H', ⟨by have := HK1.out; have := HJ8.out; have := HJ15.out; have := HJ31.out; omega⟩, ⟨hq_ (Kd.R_mono HO_262001.out (fun _ hk => trivial))⟩, ⟨bx_ BK260⟩, ⟨bx_ BK261⟩, ⟨is115_⟩, ⟨kx_ HK⟩, ⟨bw115_⟩⟩
     rw [if_neg c38] at H
     have c38b0 : (x278000_31 == x278001_31) = false := beq_eq_false_iff_ne.mpr c38
     have c38b1 : (x278000_31 != x278001_31) = true := bne_iff_ne.mpr c38
     have Hh_ := Aside0.mk H
     clear H
     have hnb51 := NB277_260.out
     have hnc51 := NB260_277.out
     have hnb52 := NB277_261.out
     have hnc52 := NB261_277.out
     have hnb53 := NB277_0.out
     have hnc53 := NB0_277.out
     have hcz54_0 := cz_ BK277 0 (.int .i64 x278000_31)
     have hcz54_1 := cz_ BK277 1 (.int .i64 x278001_31)
     have hcz54_2 := cz_ BK277 2 (.int .i64 t274)
     have hfz54_0 := fz_ BK277 0
     have hfz54_1 := fz_ BK277 1
     have hfz54_2 := fz_ BK277 2
     have hnb55 := NB261_260.out
     have hnc55 := NB260_261.out
     have hnb56 := NB261_0.out
     have hnc56 := NB0_261.out
     have hcz57_0 := cz_ BK261 0 (.int .i64 a1)
     have hcz57_1 := cz_ BK261 1 (u262001)
     have hfz57_0 := fz_ BK261 0
     have hfz57_1 := fz_ BK261 1
     obtain ⟨Ao58, co58, eo58⟩ := Kd.R_slice HO_262001.out
     subst eo58
     have H := Hh_.out
     clear Hh_
     by_cases c43 : (x262001_1.length : Int) < 59
     rotate_left
     ·rw [if_neg c43] at H
      have c43b0 : decide ((x262001_1.length : Int) < 59) = false := decide_eq_false c43
      have c43b1 : decide (x262001_1.length < 59) = false := decide_eq_false (by omega)
      clear c43
      have H' := Aside0.mk H
      clear H
      go_wp2
      go_roundg kj31
      case measure => have := HK1.out; have := HJ8.out; have := HJ15.out; have := HJ31.out; omega
      case rel => exact ⟨(wrap64 (x8_1 + 1)), (x1001_15), (x1002_15), (x262001_1), (.slice Ao58 x262001_1.length co58), er_, H', ⟨by have := HK1.out; have := HJ8.out; have := HJ15.out; have := HJ31.out; omega⟩, ⟨hq_ (Kd.R_mono HO_262001.out (fun _ hk => trivial))⟩, ⟨bx_ BK260⟩, ⟨bx_ BK261⟩, ⟨is115_⟩, ⟨kx_ HK⟩, ⟨bw115_⟩⟩
     rw [if_pos c43] at H
     have c43b0 : decide ((x262001_1.length : Int) < 59) = true := decide_eq_true c43
     have c43b1 : decide (x262001_1.length < 59) = true := decide_eq_true (by omega)
     clear c43
     obtain ⟨t281, A44, H⟩ := ob_ H
     obtain ⟨⟨t284, t285, t286⟩, A45, H⟩ := ob_ H
     by_cases c46 : t284 > 0
     rotate_left
     ·rw [if_neg c46] at H
      have c46b0 : decide (0 < t284) = false := decide_eq_false c46
      clear c46
      have H' := Aside0.mk H
      clear H
      go_wp2_with (first | ((with_reducible refine gate_callee (f := 98) rfl ?_); refine gl_ (some 61) Try.func98 #[.slice Ao58 x262001_1.length co58, .agg #[.int .i64 x278000_31, .int .i64 x278001_31, .int .i64 t274]] ?_; (with_reducible refine (spec_l03Put.calls kj31 _ _ x262001_1 x278000_31 x278001_31 t274 t281 _ ?side1 ?side2 A44.out).mono ?_); (case side1 => exact rc_ HO_262001); (case side2 => exact (Kd.R_reads' HO_262001.out).2.1); rintro e w111 ⟨v282, rfl, ho0, hb⟩; refine ⟨_, rfl, ?_⟩; have HO283 := Aside0.mk (Kd.R_lower (Kd.R_newB (Kd.R_new' ho0 (Kd.R_lt (hd_ HO_262001))) (g := gb277) (o := .cells #[.int .i64 x278000_31, .int .i64 x278001_31, .int .i64 t274] 76 (0, 0)) (bx_ BK277)) (keep_size (w := w) (g := g) (row := none) (kx_ HK))); replace HO_262001 := Aside0.mk (Kd.R_elder' (hd_ HO_262001) (Kd.R_base ho0) hb); replace BK260 := ab_ BK260 hb; replace BK261 := ab_ BK261 hb; replace BK277 := ab_ BK277 hb; replace HK := kt_ HK (KeepBut.of_below hb g none); replace HB := bs115_ hb; replace HI0 := Aside0.mk (IsS115.below is115_ hb); clear hb ho0; obtain ⟨Ao112, co112, eo112⟩ := Kd.R_slice HO283.out; subst eo112; have hcz113_0 := cz_ BK261 0 (.int .i64 a1); have hcz113_1 := cz_ BK261 1 (.slice Ao58 x262001_1.length co58); have hfz113_0 := fz_ BK261 0; have hfz113_1 := fz_ BK261 1) | ((with_reducible refine gate_callee (f := 68) rfl ?_); refine gl_ (some 64) Try.func68 #[.pointer (some ⟨g, 0, none⟩), .int .i64 4] ?_; (with_reducible refine (spec_l01Below.calls g s0_0 x1001_15 x1002_15 4 t284 t285 t286 w0 _ ?side1 ?side2 A45.out).mono ?_); (case side1 => exact is115_); (case side2 => exact bw115_); rintro e w114 ⟨rfl, hi, hb, hk⟩; refine ⟨_, rfl, ?_⟩; replace HO_262001 := Aside0.mk (Kd.R_mono (Kd.R_keep (IsS115.apart (show IsS115 w0 _ g s0_0 x1001_15 x1002_15 from is115_) (hs_ HO_262001 BK261) (by decide)) hk (fun _ h => h.2)) (fun _ h => h.1)); replace BK260 := kc_ BK260 NB260_0 hk; replace BK277 := kc_ BK277 NB277_0 hk; replace HO283 := Aside0.mk (Kd.R_mono (Kd.R_keep (IsS115.apart (show IsS115 w0 _ g s0_0 x1001_15 x1002_15 from is115_) (hs_ HO283 BK261) (by decide)) hk (fun _ h => h.2)) (fun _ h => h.1)); replace BK261 := Aside0.mk (KeepBut.blk hk (g' := gb261) (o := .cells #[.int .i64 a1, .slice Ao112 t281.length co112] 30 (0, 0)) (by refine bd_ ?_; refine blk_put (cs := #[.int .i64 a1, .slice Ao58 x262001_1.length co58]) ?_ 1 _ rfl; refine bd_ ?_; exact BK261.out) NB261_0.out (by simp)); replace HK := kt_ HK hk; replace HB := Aside0.mk (hb); replace HI0 := Aside0.mk (hi); clear hb hk hi))
      go_roundg kj31
      case measure => have := HK1.out; have := HJ8.out; have := HJ15.out; have := HJ31.out; omega
      case rel => exact ⟨(wrap64 (x8_1 + 1)), (t285), (t286), (t281), (.slice Ao112 t281.length co112), er_, H', ⟨by have := HK1.out; have := HJ8.out; have := HJ15.out; have := HJ31.out; omega⟩, ⟨hq_ (Kd.R_mono HO283.out (fun _ hk => trivial))⟩, ⟨bx_ BK260⟩, ⟨bx_ BK261⟩, ⟨is115_⟩, ⟨kx_ HK⟩, ⟨bw115_⟩⟩
     rw [if_pos c46] at H
     have c46b0 : decide (0 < t284) = true := decide_eq_true c46
     clear c46
     obtain ⟨⟨t288, t289, t290⟩, A47, H⟩ := ob_ H
     by_cases c48 : t288 = true
     rotate_left
     ·replace c48 := Bool.eq_false_iff.mpr c48
      subst c48
      rw [if_neg (show ¬ (false = true) by decide)] at H
      obtain ⟨t297, A77, H⟩ := ob_ H
      have H' := Aside0.mk H
      clear H
      go_wp2_with (first | ((with_reducible refine gate_callee (f := 98) rfl ?_); refine gl_ (some 61) Try.func98 #[.slice Ao58 x262001_1.length co58, .agg #[.int .i64 x278000_31, .int .i64 x278001_31, .int .i64 t274]] ?_; (with_reducible refine (spec_l03Put.calls kj31 _ _ x262001_1 x278000_31 x278001_31 t274 t281 _ ?side1 ?side2 A44.out).mono ?_); (case side1 => exact rc_ HO_262001); (case side2 => exact (Kd.R_reads' HO_262001.out).2.1); rintro e w86 ⟨v282, rfl, ho0, hb⟩; refine ⟨_, rfl, ?_⟩; have HO283 := Aside0.mk (Kd.R_lower (Kd.R_newB (Kd.R_new' ho0 (Kd.R_lt (hd_ HO_262001))) (g := gb277) (o := .cells #[.int .i64 x278000_31, .int .i64 x278001_31, .int .i64 t274] 76 (0, 0)) (bx_ BK277)) (keep_size (w := w) (g := g) (row := none) (kx_ HK))); replace HO_262001 := Aside0.mk (Kd.R_elder' (hd_ HO_262001) (Kd.R_base ho0) hb); replace BK260 := ab_ BK260 hb; replace BK261 := ab_ BK261 hb; replace BK277 := ab_ BK277 hb; replace HK := kt_ HK (KeepBut.of_below hb g none); replace HB := bs115_ hb; replace HI0 := Aside0.mk (IsS115.below is115_ hb); clear hb ho0; obtain ⟨Ao87, co87, eo87⟩ := Kd.R_slice HO283.out; subst eo87; have hcz88_0 := cz_ BK261 0 (.int .i64 a1); have hcz88_1 := cz_ BK261 1 (.slice Ao58 x262001_1.length co58); have hfz88_0 := fz_ BK261 0; have hfz88_1 := fz_ BK261 1) | ((with_reducible refine gate_callee (f := 68) rfl ?_); refine gl_ (some 64) Try.func68 #[.pointer (some ⟨g, 0, none⟩), .int .i64 4] ?_; (with_reducible refine (spec_l01Below.calls g s0_0 x1001_15 x1002_15 4 t284 t285 t286 w0 _ ?side1 ?side2 A45.out).mono ?_); (case side1 => exact is115_); (case side2 => exact bw115_); rintro e w89 ⟨rfl, hi, hb, hk⟩; refine ⟨_, rfl, ?_⟩; replace HO_262001 := Aside0.mk (Kd.R_mono (Kd.R_keep (IsS115.apart (show IsS115 w0 _ g s0_0 x1001_15 x1002_15 from is115_) (hs_ HO_262001 BK261) (by decide)) hk (fun _ h => h.2)) (fun _ h => h.1)); replace BK260 := kc_ BK260 NB260_0 hk; replace BK277 := kc_ BK277 NB277_0 hk; replace HO283 := Aside0.mk (Kd.R_mono (Kd.R_keep (IsS115.apart (show IsS115 w0 _ g s0_0 x1001_15 x1002_15 from is115_) (hs_ HO283 BK261) (by decide)) hk (fun _ h => h.2)) (fun _ h => h.1)); replace BK261 := Aside0.mk (KeepBut.blk hk (g' := gb261) (o := .cells #[.int .i64 a1, .slice Ao87 t281.length co87] 30 (0, 0)) (by refine bd_ ?_; refine blk_put (cs := #[.int .i64 a1, .slice Ao58 x262001_1.length co58]) ?_ 1 _ rfl; refine bd_ ?_; exact BK261.out) NB261_0.out (by simp)); replace HK := kt_ HK hk; replace HB := Aside0.mk (hb); replace HI0 := Aside0.mk (hi); clear hb hk hi; have hcz90_0 := cz_ BK277 0 (.int .i64 x278000_31); have hcz90_1 := cz_ BK277 1 (.int .i64 x278001_31); have hcz90_2 := cz_ BK277 2 (.int .i64 t274); have hfz90_0 := fz_ BK277 0; have hfz90_1 := fz_ BK277 1; have hfz90_2 := fz_ BK277 2) | ((with_reducible refine gate_dst (N := 10) rfl ?_); refine be_ 10 #[.int .i64 0, .int .i64 0, .int .i64 0] 76 ?_; intro gb287 hg w91 BK287 hb; have GW287 := gw_ HK hg; have GE287 := gv_ HW0 HK hg; have NB260_287 := nl_ BK260 hg; have NB287_260 := ng_ BK260 hg; have NB261_287 := nl_ BK261 hg; have NB287_261 := ng_ BK261 hg; have NB277_287 := nl_ BK277 hg; have NB287_277 := ng_ BK277 hg; have NB0_287 := Aside0.mk ((by rw [hg]; exact Nat.ne_of_lt (IsS115.lt (show IsS115 w0 _ g s0_0 t285 t286 from is115_)) : g ≠ gb287)); have NB287_0 := Aside0.mk ((by rw [hg]; exact Nat.ne_of_gt (IsS115.lt (show IsS115 w0 _ g s0_0 t285 t286 from is115_)) : gb287 ≠ g)); replace HO_262001 := Aside0.mk (Kd.R_below (Kd.R_elderB (hd_ HO_262001) gb287 (Nat.le_of_eq hg.symm)) hb); replace HO283 := Aside0.mk (Kd.R_below (Kd.R_elderB (hd_ HO283) gb287 (Nat.le_of_eq hg.symm)) hb); replace HB := bs115_ hb; replace HK := kt_ HK (KeepBut.of_below hb g none); replace BK260 := ab_ BK260 hb; replace BK261 := ab_ BK261 hb; replace BK277 := ab_ BK277 hb; replace HI0 := Aside0.mk (IsS115.below is115_ hb); clear hb hg; have hnb92 := NB287_260.out; have hnc92 := NB260_287.out; have hnb93 := NB287_261.out; have hnc93 := NB261_287.out; have hnb94 := NB287_277.out; have hnc94 := NB277_287.out; have hnb95 := NB287_0.out; have hnc95 := NB0_287.out; have hcz96_0 := cz_ BK287 0 (.int .i64 0); have hcz96_1 := cz_ BK287 1 (.int .i64 0); have hcz96_2 := cz_ BK287 2 (.int .i64 0); have hfz96_0 := fz_ BK287 0; have hfz96_1 := fz_ BK287 1; have hfz96_2 := fz_ BK287 2) | ((with_reducible refine gate_callee (f := 84) rfl ?_); refine gl_ (some 74) Try.func84 #[.pointer (some ⟨g, 0, none⟩), .int .i64 4] ?_; (with_reducible refine (spec_l01Once.calls g s0_0 t285 t286 4 false t289 t290 w0 _ ?side1 ?side2 A47.out).mono ?_); (case side1 => exact is115_); (case side2 => exact bw115_); rintro e w97 ⟨rfl, hi, hb, hk⟩; refine ⟨_, rfl, ?_⟩; replace HO_262001 := Aside0.mk (Kd.R_mono (Kd.R_keep (IsS115.apart (show IsS115 w0 _ g s0_0 t285 t286 from is115_) (hq_ ((Kd.R_mono (Kd.R_far (Kd.R_far (Kd.R_far (Kd.R_mono HO_262001.out (fun k_ hk => (⟨hk, hk.2⟩ : _ ∧ k_ ≠ gb287))) (fun _ hk => hk.2) _) (fun _ hk => hk.2) _) (fun _ hk => hk.2) _) (fun _ h_ => h_.1)))) (by decide)) hk (fun _ h => h.2)) (fun _ h => h.1)); replace BK260 := kc_ BK260 NB260_0 hk; replace BK261 := kc_ BK261 NB261_0 hk; replace BK277 := kc_ BK277 NB277_0 hk; replace HO283 := Aside0.mk (Kd.R_mono (Kd.R_keep (IsS115.apart (show IsS115 w0 _ g s0_0 t285 t286 from is115_) (hq_ ((Kd.R_mono (Kd.R_far (Kd.R_far (Kd.R_far (Kd.R_mono HO283.out (fun k_ hk => (⟨hk, hk.2⟩ : _ ∧ k_ ≠ gb287))) (fun _ hk => hk.2) _) (fun _ hk => hk.2) _) (fun _ hk => hk.2) _) (fun _ h_ => h_.1)))) (by decide)) hk (fun _ h => h.2)) (fun _ h => h.1)); replace BK287 := Aside0.mk (KeepBut.blk hk (g' := gb287) (o := .cells #[.int .i64 x278001_31, .int .i64 x278000_31, .int .i64 t274] 76 (0, 0)) (by refine bd_ ?_; refine blk_put (cs := #[.int .i64 x278001_31, .int .i64 x278000_31, .int .i64 0]) ?_ 2 _ rfl; refine bd_ ?_; refine blk_put (cs := #[.int .i64 x278001_31, .int .i64 0, .int .i64 0]) ?_ 1 _ rfl; refine bd_ ?_; refine blk_put (cs := #[.int .i64 0, .int .i64 0, .int .i64 0]) ?_ 0 _ rfl; refine bd_ ?_; exact BK287.out) NB287_0.out (by simp)); replace HK := kt_ HK hk; replace HB := Aside0.mk (hb); replace HI0 := Aside0.mk (hi); clear hb hk hi; have hcz98_0 := cz_ BK261 0 (.int .i64 a1); have hcz98_1 := cz_ BK261 1 (.slice Ao87 t281.length co87); have hfz98_0 := fz_ BK261 0; have hfz98_1 := fz_ BK261 1; have hcz99_0 := cz_ BK287 0 (.int .i64 x278001_31); have hcz99_1 := cz_ BK287 1 (.int .i64 x278000_31); have hcz99_2 := cz_ BK287 2 (.int .i64 t274); have hfz99_0 := fz_ BK287 0; have hfz99_1 := fz_ BK287 1; have hfz99_2 := fz_ BK287 2) | ((with_reducible refine gate_callee (f := 98) rfl ?_); refine gl_ (some 82) Try.func98 #[.slice Ao87 t281.length co87, .agg #[.int .i64 x278001_31, .int .i64 x278000_31, .int .i64 t274]] ?_; (with_reducible refine (spec_l03Put.calls kj31 _ _ t281 x278001_31 x278000_31 t274 t297 _ ?side1 ?side2 A77.out).mono ?_); (case side1 => exact rc_ HO283); (case side2 => exact (Kd.R_reads' HO283.out).2.1); rintro e w100 ⟨v298, rfl, ho0, hb⟩; refine ⟨_, rfl, ?_⟩; have HO299 := Aside0.mk (Kd.R_lower (Kd.R_newB (Kd.R_newB (Kd.R_new' (Kd.R_new' ho0 (Kd.R_lt (hd_ HO_262001))) (Kd.R_lt (hd_ HO283))) (g := gb277) (o := .cells #[.int .i64 x278000_31, .int .i64 x278001_31, .int .i64 t274] 76 (0, 0)) (bx_ BK277)) (g := gb287) (o := .cells #[.int .i64 x278001_31, .int .i64 x278000_31, .int .i64 t274] 76 (0, 0)) (bx_ BK287)) (keep_size (w := w) (g := g) (row := none) (kx_ HK))); replace HO_262001 := Aside0.mk (Kd.R_elder' (hd_ HO_262001) (Kd.R_base ho0) hb); replace HO283 := Aside0.mk (Kd.R_elder' (hd_ HO283) (Kd.R_base ho0) hb); replace BK260 := ab_ BK260 hb; replace BK261 := ab_ BK261 hb; replace BK277 := ab_ BK277 hb; replace BK287 := ab_ BK287 hb; replace HK := kt_ HK (KeepBut.of_below hb g none); replace HB := bs115_ hb; replace HI0 := Aside0.mk (IsS115.below is115_ hb); clear hb ho0; obtain ⟨Ao101, co101, eo101⟩ := Kd.R_slice HO299.out; subst eo101; have hcz102_0 := cz_ BK261 0 (.int .i64 a1); have hcz102_1 := cz_ BK261 1 (.slice Ao87 t281.length co87); have hfz102_0 := fz_ BK261 0; have hfz102_1 := fz_ BK261 1))
      go_roundg kj31
      case measure => have := HK1.out; have := HJ8.out; have := HJ15.out; have := HJ31.out; omega
      case rel => exact ⟨(wrap64 (x8_1 + 1)), (t289), (t290), (t297), (.slice Ao101 t297.length co101), er_, H', ⟨by have := HK1.out; have := HJ8.out; have := HJ15.out; have := HJ31.out; omega⟩, ⟨hq_ (Kd.R_mono (Kd.R_far (Kd.R_types HO299.out BK261.out (by decide)) (fun _ hk => hk.2) _) (fun _ hk => trivial))⟩, ⟨bc_ BK260⟩, ⟨by refine bd_ ?_; refine blk_put (cs := #[.int .i64 a1, .slice Ao87 t281.length co87]) ?_ 1 _ rfl; refine bd_ ?_; exact BK261.out⟩, ⟨is115_⟩, ⟨kx_ HK⟩, ⟨bw115_⟩⟩
     subst c48
     rw [if_pos rfl] at H
     obtain ⟨⟨t291, t292, t293⟩, A49, H⟩ := ob_ H
     obtain ⟨t294, A50, H⟩ := ob_ H
     have H' := Aside0.mk H
     clear H
     go_wp2_with (first | ((with_reducible refine gate_callee (f := 98) rfl ?_); refine gl_ (some 61) Try.func98 #[.slice Ao58 x262001_1.length co58, .agg #[.int .i64 x278000_31, .int .i64 x278001_31, .int .i64 t274]] ?_; (with_reducible refine (spec_l03Put.calls kj31 _ _ x262001_1 x278000_31 x278001_31 t274 t281 _ ?side1 ?side2 A44.out).mono ?_); (case side1 => exact rc_ HO_262001); (case side2 => exact (Kd.R_reads' HO_262001.out).2.1); rintro e w59 ⟨v282, rfl, ho0, hb⟩; refine ⟨_, rfl, ?_⟩; have HO283 := Aside0.mk (Kd.R_lower (Kd.R_newB (Kd.R_new' ho0 (Kd.R_lt (hd_ HO_262001))) (g := gb277) (o := .cells #[.int .i64 x278000_31, .int .i64 x278001_31, .int .i64 t274] 76 (0, 0)) (bx_ BK277)) (keep_size (w := w) (g := g) (row := none) (kx_ HK))); replace HO_262001 := Aside0.mk (Kd.R_elder' (hd_ HO_262001) (Kd.R_base ho0) hb); replace BK260 := ab_ BK260 hb; replace BK261 := ab_ BK261 hb; replace BK277 := ab_ BK277 hb; replace HK := kt_ HK (KeepBut.of_below hb g none); replace HB := bs115_ hb; replace HI0 := Aside0.mk (IsS115.below is115_ hb); clear hb ho0; obtain ⟨Ao60, co60, eo60⟩ := Kd.R_slice HO283.out; subst eo60; have hcz61_0 := cz_ BK261 0 (.int .i64 a1); have hcz61_1 := cz_ BK261 1 (.slice Ao58 x262001_1.length co58); have hfz61_0 := fz_ BK261 0; have hfz61_1 := fz_ BK261 1) | ((with_reducible refine gate_callee (f := 68) rfl ?_); refine gl_ (some 64) Try.func68 #[.pointer (some ⟨g, 0, none⟩), .int .i64 4] ?_; (with_reducible refine (spec_l01Below.calls g s0_0 x1001_15 x1002_15 4 t284 t285 t286 w0 _ ?side1 ?side2 A45.out).mono ?_); (case side1 => exact is115_); (case side2 => exact bw115_); rintro e w62 ⟨rfl, hi, hb, hk⟩; refine ⟨_, rfl, ?_⟩; replace HO_262001 := Aside0.mk (Kd.R_mono (Kd.R_keep (IsS115.apart (show IsS115 w0 _ g s0_0 x1001_15 x1002_15 from is115_) (hs_ HO_262001 BK261) (by decide)) hk (fun _ h => h.2)) (fun _ h => h.1)); replace BK260 := kc_ BK260 NB260_0 hk; replace BK277 := kc_ BK277 NB277_0 hk; replace HO283 := Aside0.mk (Kd.R_mono (Kd.R_keep (IsS115.apart (show IsS115 w0 _ g s0_0 x1001_15 x1002_15 from is115_) (hs_ HO283 BK261) (by decide)) hk (fun _ h => h.2)) (fun _ h => h.1)); replace BK261 := Aside0.mk (KeepBut.blk hk (g' := gb261) (o := .cells #[.int .i64 a1, .slice Ao60 t281.length co60] 30 (0, 0)) (by refine bd_ ?_; refine blk_put (cs := #[.int .i64 a1, .slice Ao58 x262001_1.length co58]) ?_ 1 _ rfl; refine bd_ ?_; exact BK261.out) NB261_0.out (by simp)); replace HK := kt_ HK hk; replace HB := Aside0.mk (hb); replace HI0 := Aside0.mk (hi); clear hb hk hi; have hcz63_0 := cz_ BK277 0 (.int .i64 x278000_31); have hcz63_1 := cz_ BK277 1 (.int .i64 x278001_31); have hcz63_2 := cz_ BK277 2 (.int .i64 t274); have hfz63_0 := fz_ BK277 0; have hfz63_1 := fz_ BK277 1; have hfz63_2 := fz_ BK277 2) | ((with_reducible refine gate_dst (N := 10) rfl ?_); refine be_ 10 #[.int .i64 0, .int .i64 0, .int .i64 0] 76 ?_; intro gb287 hg w64 BK287 hb; have GW287 := gw_ HK hg; have GE287 := gv_ HW0 HK hg; have NB260_287 := nl_ BK260 hg; have NB287_260 := ng_ BK260 hg; have NB261_287 := nl_ BK261 hg; have NB287_261 := ng_ BK261 hg; have NB277_287 := nl_ BK277 hg; have NB287_277 := ng_ BK277 hg; have NB0_287 := Aside0.mk ((by rw [hg]; exact Nat.ne_of_lt (IsS115.lt (show IsS115 w0 _ g s0_0 t285 t286 from is115_)) : g ≠ gb287)); have NB287_0 := Aside0.mk ((by rw [hg]; exact Nat.ne_of_gt (IsS115.lt (show IsS115 w0 _ g s0_0 t285 t286 from is115_)) : gb287 ≠ g)); replace HO_262001 := Aside0.mk (Kd.R_below (Kd.R_elderB (hd_ HO_262001) gb287 (Nat.le_of_eq hg.symm)) hb); replace HO283 := Aside0.mk (Kd.R_below (Kd.R_elderB (hd_ HO283) gb287 (Nat.le_of_eq hg.symm)) hb); replace HB := bs115_ hb; replace HK := kt_ HK (KeepBut.of_below hb g none); replace BK260 := ab_ BK260 hb; replace BK261 := ab_ BK261 hb; replace BK277 := ab_ BK277 hb; replace HI0 := Aside0.mk (IsS115.below is115_ hb); clear hb hg; have hnb65 := NB287_260.out; have hnc65 := NB260_287.out; have hnb66 := NB287_261.out; have hnc66 := NB261_287.out; have hnb67 := NB287_277.out; have hnc67 := NB277_287.out; have hnb68 := NB287_0.out; have hnc68 := NB0_287.out; have hcz69_0 := cz_ BK287 0 (.int .i64 0); have hcz69_1 := cz_ BK287 1 (.int .i64 0); have hcz69_2 := cz_ BK287 2 (.int .i64 0); have hfz69_0 := fz_ BK287 0; have hfz69_1 := fz_ BK287 1; have hfz69_2 := fz_ BK287 2) | ((with_reducible refine gate_callee (f := 84) rfl ?_); refine gl_ (some 74) Try.func84 #[.pointer (some ⟨g, 0, none⟩), .int .i64 4] ?_; (with_reducible refine (spec_l01Once.calls g s0_0 t285 t286 4 true t289 t290 w0 _ ?side1 ?side2 A47.out).mono ?_); (case side1 => exact is115_); (case side2 => exact bw115_); rintro e w70 ⟨rfl, hi, hb, hk⟩; refine ⟨_, rfl, ?_⟩; replace HO_262001 := Aside0.mk (Kd.R_mono (Kd.R_keep (IsS115.apart (show IsS115 w0 _ g s0_0 t285 t286 from is115_) (hq_ ((Kd.R_mono (Kd.R_far (Kd.R_far (Kd.R_far (Kd.R_mono HO_262001.out (fun k_ hk => (⟨hk, hk.2⟩ : _ ∧ k_ ≠ gb287))) (fun _ hk => hk.2) _) (fun _ hk => hk.2) _) (fun _ hk => hk.2) _) (fun _ h_ => h_.1)))) (by decide)) hk (fun _ h => h.2)) (fun _ h => h.1)); replace BK260 := kc_ BK260 NB260_0 hk; replace BK261 := kc_ BK261 NB261_0 hk; replace BK277 := kc_ BK277 NB277_0 hk; replace HO283 := Aside0.mk (Kd.R_mono (Kd.R_keep (IsS115.apart (show IsS115 w0 _ g s0_0 t285 t286 from is115_) (hq_ ((Kd.R_mono (Kd.R_far (Kd.R_far (Kd.R_far (Kd.R_mono HO283.out (fun k_ hk => (⟨hk, hk.2⟩ : _ ∧ k_ ≠ gb287))) (fun _ hk => hk.2) _) (fun _ hk => hk.2) _) (fun _ hk => hk.2) _) (fun _ h_ => h_.1)))) (by decide)) hk (fun _ h => h.2)) (fun _ h => h.1)); replace BK287 := Aside0.mk (KeepBut.blk hk (g' := gb287) (o := .cells #[.int .i64 x278001_31, .int .i64 x278000_31, .int .i64 t274] 76 (0, 0)) (by refine bd_ ?_; refine blk_put (cs := #[.int .i64 x278001_31, .int .i64 x278000_31, .int .i64 0]) ?_ 2 _ rfl; refine bd_ ?_; refine blk_put (cs := #[.int .i64 x278001_31, .int .i64 0, .int .i64 0]) ?_ 1 _ rfl; refine bd_ ?_; refine blk_put (cs := #[.int .i64 0, .int .i64 0, .int .i64 0]) ?_ 0 _ rfl; refine bd_ ?_; exact BK287.out) NB287_0.out (by simp)); replace HK := kt_ HK hk; replace HB := Aside0.mk (hb); replace HI0 := Aside0.mk (hi); clear hb hk hi) | ((with_reducible refine gate_callee (f := 68) rfl ?_); refine gl_ (some 76) Try.func68 #[.pointer (some ⟨g, 0, none⟩), .int .i64 6] ?_; (with_reducible refine (spec_l01Below.calls g s0_0 t289 t290 6 t291 t292 t293 w0 _ ?side1 ?side2 A49.out).mono ?_); (case side1 => exact is115_); (case side2 => exact bw115_); rintro e w71 ⟨rfl, hi, hb, hk⟩; refine ⟨_, rfl, ?_⟩; replace HO_262001 := ak115_ HO_262001 (show IsS115 w0 _ g s0_0 t289 t290 from is115_) hk; replace BK260 := kb_ BK260 NB260_0 hk; replace BK261 := kb_ BK261 NB261_0 hk; replace BK277 := kb_ BK277 NB277_0 hk; replace HO283 := ak115_ HO283 (show IsS115 w0 _ g s0_0 t289 t290 from is115_) hk; replace BK287 := kb_ BK287 NB287_0 hk; replace HK := kt_ HK hk; replace HB := Aside0.mk (hb); replace HI0 := Aside0.mk (hi); clear hb hk hi; have hcz72_0 := cz_ BK287 0 (.int .i64 x278001_31); have hcz72_1 := cz_ BK287 1 (.int .i64 x278000_31); have hcz72_2 := cz_ BK287 2 (.int .i64 t274); have hfz72_0 := fz_ BK287 0; have hfz72_1 := fz_ BK287 1; have hfz72_2 := fz_ BK287 2; have hcz73_0 := cz_ BK261 0 (.int .i64 a1); have hcz73_1 := cz_ BK261 1 (.slice Ao60 t281.length co60); have hfz73_0 := fz_ BK261 0; have hfz73_1 := fz_ BK261 1) | ((with_reducible refine gate_callee (f := 98) rfl ?_); refine gl_ (some 82) Try.func98 #[.slice Ao60 t281.length co60, .agg #[.int .i64 x278001_31, .int .i64 x278000_31, .int .i64 (wrap64 (1 + t291))]] ?_; (with_reducible refine (spec_l03Put.calls kj31 _ _ t281 x278001_31 x278000_31 (wrap64 (1 + t291)) t294 _ ?side1 ?side2 A50.out).mono ?_); (case side1 => refine (Kd.R_reads' (e := 76) (base := w.heap.size) (ok := fun k_ => (((True ∧ some k_ ≠ (.slice Ao58 x262001_1.length co58 : Value).ownBlock) ∧ k_ ≠ gb277) ∧ k_ ≠ gb287)) (n := t281.length) (c := co60) ?_).2.2; exact (hq_ ((Kd.R_mono (Kd.R_far (Kd.R_mono HO283.out (fun k_ hk => (⟨hk, hk.2⟩ : _ ∧ k_ ≠ gb287))) (fun _ hk => hk.2) _) (fun _ h_ => h_.1))))); (case side2 => exact (Kd.R_reads' HO283.out).2.1); rintro e w74 ⟨v295, rfl, ho0, hb⟩; refine ⟨_, rfl, ?_⟩; have HO296 := Aside0.mk (Kd.R_lower (Kd.R_newB (Kd.R_newB (Kd.R_new' (Kd.R_new' ho0 (Kd.R_lt (hq_ ((Kd.R_mono (Kd.R_far (Kd.R_mono HO_262001.out (fun k_ hk => (⟨hk, hk.2⟩ : _ ∧ k_ ≠ gb287))) (fun _ hk => hk.2) _) (fun _ h_ => h_.1)))))) (Kd.R_lt (hq_ ((Kd.R_mono (Kd.R_far (Kd.R_mono HO283.out (fun k_ hk => (⟨hk, hk.2⟩ : _ ∧ k_ ≠ gb287))) (fun _ hk => hk.2) _) (fun _ h_ => h_.1)))))) (g := gb277) (o := .cells #[.int .i64 x278000_31, .int .i64 x278001_31, .int .i64 t274] 76 (0, 0)) (bc_ BK277)) (g := gb287) (o := .cells #[.int .i64 x278001_31, .int .i64 x278000_31, .int .i64 (wrap64 (1 + t291))] 76 (0, 0)) (by refine bd_ ?_; refine blk_put (cs := #[.int .i64 x278001_31, .int .i64 x278000_31, .int .i64 t274]) ?_ 2 _ rfl; refine bd_ ?_; exact BK287.out)) (keep_size (w := w) (g := g) (row := none) (kx_ HK))); replace HO_262001 := Aside0.mk (Kd.R_elder' (hq_ ((Kd.R_mono (Kd.R_far (Kd.R_mono HO_262001.out (fun k_ hk => (⟨hk, hk.2⟩ : _ ∧ k_ ≠ gb287))) (fun _ hk => hk.2) _) (fun _ h_ => h_.1)))) (Kd.R_base ho0) hb); replace HO283 := Aside0.mk (Kd.R_elder' (hq_ ((Kd.R_mono (Kd.R_far (Kd.R_mono HO283.out (fun k_ hk => (⟨hk, hk.2⟩ : _ ∧ k_ ≠ gb287))) (fun _ hk => hk.2) _) (fun _ h_ => h_.1)))) (Kd.R_base ho0) hb); replace BK260 := bf_ BK260 NB260_287 hb; replace BK261 := bf_ BK261 NB261_287 hb; replace BK277 := bf_ BK277 NB277_287 hb; replace BK287 := Aside0.mk (blk_below (g := gb287) (o := .cells #[.int .i64 x278001_31, .int .i64 x278000_31, .int .i64 (wrap64 (1 + t291))] 76 (0, 0)) (by refine bd_ ?_; refine blk_put (cs := #[.int .i64 x278001_31, .int .i64 x278000_31, .int .i64 t274]) ?_ 2 _ rfl; refine bd_ ?_; exact BK287.out) hb); replace HK := kt_ HK (KeepBut.of_below hb g none); replace HB := bs115_ hb; replace HI0 := Aside0.mk (IsS115.below (show IsS115 w0 (w71.setCell ⟨gb287, 2, none⟩ (.int .i64 (wrap64 (1 + t291)))) g s0_0 t292 t293 from is115_) hb); clear hb ho0; obtain ⟨Ao75, co75, eo75⟩ := Kd.R_slice HO296.out; subst eo75; have hcz76_0 := cz_ BK261 0 (.int .i64 a1); have hcz76_1 := cz_ BK261 1 (.slice Ao60 t281.length co60); have hfz76_0 := fz_ BK261 0; have hfz76_1 := fz_ BK261 1))
     go_roundg kj31
     case measure => have := HK1.out; have := HJ8.out; have := HJ15.out; have := HJ31.out; omega
     case rel => exact ⟨(wrap64 (x8_1 + 1)), (t292), (t293), (t294), (.slice Ao75 t294.length co75), er_, H', ⟨by have := HK1.out; have := HJ8.out; have := HJ15.out; have := HJ31.out; omega⟩, ⟨hq_ (Kd.R_mono (Kd.R_far (Kd.R_types HO296.out BK261.out (by decide)) (fun _ hk => hk.2) _) (fun _ hk => trivial))⟩, ⟨bc_ BK260⟩, ⟨by refine bd_ ?_; refine blk_put (cs := #[.int .i64 a1, .slice Ao60 t281.length co60]) ?_ 1 _ rfl; refine bd_ ?_; exact BK261.out⟩, ⟨is115_⟩, ⟨kx_ HK⟩, ⟨bw115_⟩⟩
end Go.Proofs.Ythmahcohcphljaa.QFnCheapest
