/- Contracts of functions that the law reaches: what each call returns and what it leaves in memory. Made by this session over the print of the kit. -/
import Derived.Test.YthmahcohcphljaaQFnSharesx0
import Derived.Test.YthmahcohcphljaaQFnSharesx12
import Derived.Test.YthmahcohcphljaaQFnSharesx13
namespace Go.Proofs.Ythmahcohcphljaa.QFnShares
open Go.RowKit Go.Proofs.YthmahcohcphljaaS.PrintWords Go.Proofs.YthmahcohcphljaaS.PrintLast Go.Proofs.YthmahcohcphljaaS.PrintMore
attribute [local go_sem] max2_int min2_int max_two min_two max_three min_three max_four min_four   -- for this text's walks alone
set_option linter.unusedVariables false
set_option linter.unusedSimpArgs false

/-! ### spec_l03DrawGraph: function 83 -/
mutual
def spec_l03DrawGraph.l0 : Nat → Int → Int → Int → List Int → Int → Int → Int → List (S76) → Option (Int × (List (S76)) × Int × Int)
 | 0, _, _, _, _, _, _, _, _ => none
 | k + 1, x1, x2, x8, x1000, x1001, x1002, x353000, x353001 => if x8 < x2 then (spec_l03DrawGraph.j1 k x1 x2 x8 (decide (x1 > 1)) x1000 x1001 x1002 x353000 x353001) else (spec_l03DrawGraph.j1 k x1 x2 x8 false x1000 x1001 x1002 x353000 x353001)
def spec_l03DrawGraph.j1 : Nat → Int → Int → Int → Bool → List Int → Int → Int → Int → List (S76) → Option (Int × (List (S76)) × Int × Int)
 | 0, _, _, _, _, _, _, _, _, _ => none
 | k + 1, x1, x2, x8, x19, x1000, x1001, x1002, x353000, x353001 => if x19 = true then ((spec_l01Below.f x1000 x1001 x1002 x1).bind fun bt353 => ((spec_l01Below.f x1000 bt353.2.1 bt353.2.2 x1).bind fun bt356 => ((spec_l01Below.f x1000 bt356.2.1 bt356.2.2 9).bind fun bt359 => ((spec_l01PickInt.f x1000 bt359.2.1 bt359.2.2 (([1, 1, 2, 2, 3, 5, wrap64 (1 + bt359.1), 1000] : List Int))).bind fun bt365 => (if x8 < (wrap64 (x1 - 1)) then ((spec_l01Below.f x1000 bt365.2.1 bt365.2.2 3).bind fun bt369 => (spec_l03DrawGraph.j2 k x1 x2 x8 (decide (bt369.1 > 0)) x1000 bt369.2.1 bt369.2.2 x353000 x353001 bt353.1 bt356.1 bt365.1)) else (spec_l03DrawGraph.j2 k x1 x2 x8 false x1000 bt365.2.1 bt365.2.2 x353000 x353001 bt353.1 bt356.1 bt365.1)))))) else (some (x353000, x353001, x1001, x1002))
def spec_l03DrawGraph.j2 : Nat → Int → Int → Int → Bool → List Int → Int → Int → Int → List (S76) → Int → Int → Int → Option (Int × (List (S76)) × Int × Int)
 | 0, _, _, _, _, _, _, _, _, _, _, _, _ => none
 | k + 1, x1, x2, x8, x43, x1000, x1001, x1002, x353000, x353001, x369000, x369001, x369002 => if x43 = true then (spec_l03DrawGraph.j3 k x1 x2 x8 x1000 x1001 x1002 x353000 x353001 x8 (wrap64 (x8 + 1)) x369002) else (spec_l03DrawGraph.j3 k x1 x2 x8 x1000 x1001 x1002 x353000 x353001 x369000 x369001 x369002)
def spec_l03DrawGraph.j3 : Nat → Int → Int → Int → List Int → Int → Int → Int → List (S76) → Int → Int → Int → Option (Int × (List (S76)) × Int × Int)
 | 0, _, _, _, _, _, _, _, _, _, _, _ => none
 | k + 1, x1, x2, x8, x1000, x1001, x1002, x353000, x353001, x369000, x369001, x369002 => if x369000 = x369001 then (spec_l03DrawGraph.l0 k x1 x2 (wrap64 (x8 + 1)) x1000 x1001 x1002 x353000 x353001) else (if (x353001.length : Int) < 59 then ((spec_l03Put.f k x353001 x369000 x369001 x369002).bind fun t372 => ((spec_l01Below.f x1000 x1001 x1002 4).bind fun bt375 => (if bt375.1 > 0 then ((spec_l01Once.f x1000 bt375.2.1 bt375.2.2 4).bind fun bt379 => (if bt379.1 = true then ((spec_l01Below.f x1000 bt379.2.1 bt379.2.2 6).bind fun bt382 => ((spec_l03Put.f k t372 x369001 x369000 (wrap64 (1 + bt382.1))).bind fun t385 => (spec_l03DrawGraph.l0 k x1 x2 (wrap64 (x8 + 1)) x1000 bt382.2.1 bt382.2.2 x353000 t385))) else ((spec_l03Put.f k t372 x369001 x369000 x369002).bind fun t388 => (spec_l03DrawGraph.l0 k x1 x2 (wrap64 (x8 + 1)) x1000 bt379.2.1 bt379.2.2 x353000 t388)))) else (spec_l03DrawGraph.l0 k x1 x2 (wrap64 (x8 + 1)) x1000 bt375.2.1 bt375.2.2 x353000 t372)))) else (spec_l03DrawGraph.l0 k x1 x2 (wrap64 (x8 + 1)) x1000 x1001 x1002 x353000 x353001))
end
def spec_l03DrawGraph.f (k : Nat) (s0_0 : List Int) (s0_1 : Int) (s0_2 : Int) (a1 : Int) (a2 : Int) : Option (Int × (List (S76)) × Int × Int) := spec_l03DrawGraph.l0 k a1 a2 0 s0_0 s0_1 s0_2 a1 ([] : List (S76))
theorem spec_l03DrawGraph.mono_l : ∀ k, (∀ y0 y1 y2 y3 y4 y5 y6 y7, LeO (spec_l03DrawGraph.l0 k y0 y1 y2 y3 y4 y5 y6 y7) (spec_l03DrawGraph.l0 (k + 1) y0 y1 y2 y3 y4 y5 y6 y7)) ∧ (∀ y0 y1 y2 y3 y4 y5 y6 y7 y8, LeO (spec_l03DrawGraph.j1 k y0 y1 y2 y3 y4 y5 y6 y7 y8) (spec_l03DrawGraph.j1 (k + 1) y0 y1 y2 y3 y4 y5 y6 y7 y8)) ∧ (∀ y0 y1 y2 y3 y4 y5 y6 y7 y8 y9 y10 y11, LeO (spec_l03DrawGraph.j2 k y0 y1 y2 y3 y4 y5 y6 y7 y8 y9 y10 y11) (spec_l03DrawGraph.j2 (k + 1) y0 y1 y2 y3 y4 y5 y6 y7 y8 y9 y10 y11)) ∧ (∀ y0 y1 y2 y3 y4 y5 y6 y7 y8 y9 y10, LeO (spec_l03DrawGraph.j3 k y0 y1 y2 y3 y4 y5 y6 y7 y8 y9 y10) (spec_l03DrawGraph.j3 (k + 1) y0 y1 y2 y3 y4 y5 y6 y7 y8 y9 y10))
 | 0 => ⟨fun _ _ _ _ _ _ _ _ r h => by simp [spec_l03DrawGraph.l0] at h, fun _ _ _ _ _ _ _ _ _ r h => by simp [spec_l03DrawGraph.j1] at h, fun _ _ _ _ _ _ _ _ _ _ _ _ r h => by simp [spec_l03DrawGraph.j2] at h, fun _ _ _ _ _ _ _ _ _ _ _ r h => by simp [spec_l03DrawGraph.j3] at h⟩
 | k + 1 => by
  obtain ⟨ih0, ih1, ih2, ih3⟩ := spec_l03DrawGraph.mono_l k
  refine ⟨?_, ?_, ?_, ?_⟩
  ·intro y0 y1 y2 y3 y4 y5 y6 y7
   unfold spec_l03DrawGraph.l0
   repeat' first | (with_reducible first | exact ih0 _ _ _ _ _ _ _ _ | exact ih1 _ _ _ _ _ _ _ _ _ | exact ih2 _ _ _ _ _ _ _ _ _ _ _ _ | exact ih3 _ _ _ _ _ _ _ _ _ _ _ | exact spec_l03Put.mono _ _ _ _ _ | exact LeO.refl _ | exact LeO.none _ | refine LeO.ite ?_ ?_ | refine LeO.bind ?_ (fun _ => ?_)) | exact ih0 _ _ _ _ _ _ _ _ | exact ih1 _ _ _ _ _ _ _ _ _ | exact ih2 _ _ _ _ _ _ _ _ _ _ _ _ | exact ih3 _ _ _ _ _ _ _ _ _ _ _ | exact spec_l03Put.mono _ _ _ _ _ | exact LeO.none _ | refine LeO.ite ?_ ?_ | refine LeO.bind ?_ (fun _ => ?_)
  ·intro y0 y1 y2 y3 y4 y5 y6 y7 y8
   unfold spec_l03DrawGraph.j1
   repeat' first | (with_reducible first | exact ih0 _ _ _ _ _ _ _ _ | exact ih1 _ _ _ _ _ _ _ _ _ | exact ih2 _ _ _ _ _ _ _ _ _ _ _ _ | exact ih3 _ _ _ _ _ _ _ _ _ _ _ | exact spec_l03Put.mono _ _ _ _ _ | exact LeO.refl _ | exact LeO.none _ | refine LeO.ite ?_ ?_ | refine LeO.bind ?_ (fun _ => ?_)) | exact ih0 _ _ _ _ _ _ _ _ | exact ih1 _ _ _ _ _ _ _ _ _ | exact ih2 _ _ _ _ _ _ _ _ _ _ _ _ | exact ih3 _ _ _ _ _ _ _ _ _ _ _ | exact spec_l03Put.mono _ _ _ _ _ | exact LeO.none _ | refine LeO.ite ?_ ?_ | refine LeO.bind ?_ (fun _ => ?_)
  ·intro y0 y1 y2 y3 y4 y5 y6 y7 y8 y9 y10 y11
   unfold spec_l03DrawGraph.j2
   repeat' first | (with_reducible first | exact ih0 _ _ _ _ _ _ _ _ | exact ih1 _ _ _ _ _ _ _ _ _ | exact ih2 _ _ _ _ _ _ _ _ _ _ _ _ | exact ih3 _ _ _ _ _ _ _ _ _ _ _ | exact spec_l03Put.mono _ _ _ _ _ | exact LeO.refl _ | exact LeO.none _ | refine LeO.ite ?_ ?_ | refine LeO.bind ?_ (fun _ => ?_)) | exact ih0 _ _ _ _ _ _ _ _ | exact ih1 _ _ _ _ _ _ _ _ _ | exact ih2 _ _ _ _ _ _ _ _ _ _ _ _ | exact ih3 _ _ _ _ _ _ _ _ _ _ _ | exact spec_l03Put.mono _ _ _ _ _ | exact LeO.none _ | refine LeO.ite ?_ ?_ | refine LeO.bind ?_ (fun _ => ?_)
  ·intro y0 y1 y2 y3 y4 y5 y6 y7 y8 y9 y10
   unfold spec_l03DrawGraph.j3
   repeat' first | (with_reducible first | exact ih0 _ _ _ _ _ _ _ _ | exact ih1 _ _ _ _ _ _ _ _ _ | exact ih2 _ _ _ _ _ _ _ _ _ _ _ _ | exact ih3 _ _ _ _ _ _ _ _ _ _ _ | exact spec_l03Put.mono _ _ _ _ _ | exact LeO.refl _ | exact LeO.none _ | refine LeO.ite ?_ ?_ | refine LeO.bind ?_ (fun _ => ?_)) | exact ih0 _ _ _ _ _ _ _ _ | exact ih1 _ _ _ _ _ _ _ _ _ | exact ih2 _ _ _ _ _ _ _ _ _ _ _ _ | exact ih3 _ _ _ _ _ _ _ _ _ _ _ | exact spec_l03Put.mono _ _ _ _ _ | exact LeO.none _ | refine LeO.ite ?_ ?_ | refine LeO.bind ?_ (fun _ => ?_)
theorem spec_l03DrawGraph.mono : ∀ a0 a1 a2 a3 a4 k, LeO (spec_l03DrawGraph.f k a0 a1 a2 a3 a4) (spec_l03DrawGraph.f (k + 1) a0 a1 a2 a3 a4) := by
 intro a0 a1 a2 a3 a4 k
 obtain ⟨ih0, ih1, ih2, ih3⟩ := spec_l03DrawGraph.mono_l k
 unfold spec_l03DrawGraph.f
 repeat' first | (with_reducible first | exact ih0 _ _ _ _ _ _ _ _ | exact ih1 _ _ _ _ _ _ _ _ _ | exact ih2 _ _ _ _ _ _ _ _ _ _ _ _ | exact ih3 _ _ _ _ _ _ _ _ _ _ _ | exact spec_l03Put.mono _ _ _ _ _ | exact LeO.refl _ | exact LeO.none _ | refine LeO.ite ?_ ?_ | refine LeO.bind ?_ (fun _ => ?_)) | exact ih0 _ _ _ _ _ _ _ _ | exact ih1 _ _ _ _ _ _ _ _ _ | exact ih2 _ _ _ _ _ _ _ _ _ _ _ _ | exact ih3 _ _ _ _ _ _ _ _ _ _ _ | exact spec_l03Put.mono _ _ _ _ _ | exact LeO.none _ | refine LeO.ite ?_ ?_ | refine LeO.bind ?_ (fun _ => ?_)
set_option maxHeartbeats 8000000 in
set_option maxRecDepth 100000 in
theorem spec_l03DrawGraph.calls (k : Nat) (g : Nat) (s0_0 : List Int) (s0_1 : Int) (s0_2 : Int) (a1 : Int) (a2 : Int) (r1 : Int) (r2 : List (S76)) (r3 : Int) (r4 : Int) (w0 w : World) (hI : IsS115 w0 w g s0_0 s0_1 s0_2) (hB : Below w0.heap.size w0 w) (h : spec_l03DrawGraph.f k s0_0 s0_1 s0_2 a1 a2 = some (r1, r2, r3, r4)) :
  Calls Try.prog 83 #[.pointer (some ⟨g, 0, none⟩), .int .i64 a1, .int .i64 a2] w fun e w' => ∃ v1_ : Value, e = .returned (.agg #[.int .i64 r1, v1_]) ∧ Kd.R k76 76 w' w.heap.size (fun _ => True) v1_ r2 ∧ IsS115 w0 w' g s0_0 r3 r4 ∧ Below w0.heap.size w0 w' ∧ KeepBut w w' g none := by
 have hu30 := Try.underlying30
 have hu76 := Try.underlying76
 have HI0 := Aside0.mk hI
 have HK := Aside0.mk (KeepBut.refl w g none)
 have HL := Aside0.mk hB.size
 clear hI
 have HW0 := Aside0.mk hB.size
 have HB := Aside0.mk hB
 clear hB
 have H : (spec_l03DrawGraph.l0 k a1 a2 0 s0_0 s0_1 s0_2 a1 ([] : List (S76))) = some (r1, r2, r3, r4) := h
 clear h
 have H' := Aside0.mk H
 clear H
 go_enter Try.func83, Try.ntmps83
 go_wp2_with (first | ((with_reducible refine gate_dst (N := 6) rfl ?_); refine box_event ?hg (N := 6) ?hd (cs := #[.int .i64 0, .slice none 0 0]) (t := 30) ?hr ?_; (case hd => rfl); (case hg => rfl); (case hr => first | (go_simp; done) | (go_simp; rfl)); intro gb351 hg w4 hbox hb; have BK351 := Aside0.mk hbox; have GW351 := gw_ HK hg; have GE351 := gv_ HW0 HK hg; have NB0_351 := Aside0.mk ((by rw [hg]; exact Nat.ne_of_lt (IsS115.lt (show IsS115 w0 _ g s0_0 s0_1 s0_2 from is115_)) : g ≠ gb351)); have NB351_0 := Aside0.mk ((by rw [hg]; exact Nat.ne_of_gt (IsS115.lt (show IsS115 w0 _ g s0_0 s0_1 s0_2 from is115_)) : gb351 ≠ g)); replace HB := bs115_ hb; replace HK := kt_ HK (KeepBut.of_below hb g none); replace HI0 := Aside0.mk (IsS115.below is115_ hb); clear hb hbox hg) | ((with_reducible refine gate_dst (N := 7) rfl ?_); refine box_event ?hg (N := 7) ?hd (cs := #[.int .i64 0, .slice none 0 0]) (t := 30) ?hr ?_; (case hd => rfl); (case hg => rfl); (case hr => first | (go_simp; done) | (go_simp; rfl)); intro gb352 hg w5 hbox hb; have BK352 := Aside0.mk hbox; have GW352 := gw_ HK hg; have GE352 := gv_ HW0 HK hg; have NB351_352 := nl_ BK351 hg; have NB352_351 := ng_ BK351 hg; have NB0_352 := Aside0.mk ((by rw [hg]; exact Nat.ne_of_lt (IsS115.lt (show IsS115 w0 _ g s0_0 s0_1 s0_2 from is115_)) : g ≠ gb352)); have NB352_0 := Aside0.mk ((by rw [hg]; exact Nat.ne_of_gt (IsS115.lt (show IsS115 w0 _ g s0_0 s0_1 s0_2 from is115_)) : gb352 ≠ g)); replace HB := bs115_ hb; replace HK := kt_ HK (KeepBut.of_below hb g none); replace BK351 := ab_ BK351 hb; replace HI0 := Aside0.mk (IsS115.below is115_ hb); clear hb hbox hg; have hnb6 := NB352_351.out; have hnc6 := NB351_352.out; have hnb7 := NB352_0.out; have hnc7 := NB0_352.out; have hcz8_0 := cz_ BK352 0 (.int .i64 0); have hcz8_1 := cz_ BK352 1 (.slice none 0 0); have hfz8_0 := fz_ BK352 0; have hfz8_1 := fz_ BK352 1))
 go_loopg [8] k (fun kq v8 w' => ∃ (x8_1 : Int) (x1001_1 : Int) (x1002_1 : Int) (x353001_1 : List (S76)) (u353001 : Value), v8 = .int .i64 x8_1 ∧ Aside0 (spec_l03DrawGraph.l0 kq a1 a2 x8_1 s0_0 x1001_1 x1002_1 a1 x353001_1 = some (r1, r2, r3, r4)) ∧ Aside0 (kq ≤ k) ∧ Aside0 (Kd.R k76 76 w' w.heap.size (fun _ => True) u353001 x353001_1) ∧ Aside0 (w'.heap[gb351]? = some (.cells #[.int .i64 0, (.slice none 0 0)] 30 (0, 0))) ∧ Aside0 (w'.heap[gb352]? = some (.cells #[.int .i64 a1, u353001] 30 (0, 0))) ∧ Aside0 (IsS115 w0 w' g s0_0 x1001_1 x1002_1) ∧ Aside0 (KeepBut w w' g none) ∧ Aside0 (Below w0.heap.size w0 w'))
 case atStart => exact ⟨(0), (s0_1), (s0_2), (([] : List (S76))), (.slice none 0 0), er_, H', ⟨Nat.le_refl _⟩, ⟨by first | exact Kd.R_nil _ _ _ _ _ | exact Kd.N_nil _ _ _ _ _ | exact Kd.V_nil _ _ _ _ _ | exact Kd.Q_nil _ _ _ _ _ | exact Kd.S_nil _ _ _ _ _⟩, ⟨bc_ BK351⟩, ⟨by refine bd_ ?_; refine blk_put (cs := #[.int .i64 a1, .slice none 0 0]) ?_ 1 _ rfl; refine bd_ ?_; refine blk_put (cs := #[.int .i64 0, .slice none 0 0]) ?_ 0 _ rfl; refine bd_ ?_; exact BK352.out⟩, ⟨is115_⟩, ⟨kx_ HK⟩, ⟨bw115_⟩⟩
 case round =>
  clear H'
  try clear p2
  try clear c6
  try clear c7
  try clear c8
  try clear hcz8_0
  try clear hcz8_1
  try clear hfz8_0
  try clear hfz8_1
  obtain ⟨x8_1, x1001_1, x1002_1, x353001_1, u353001, rfl, HA, HK1, HO_353001, BK351, BK352, HI0, HK, HB⟩ := hrel
  cases gk with
  | zero => exact absurd HA.out (by simp [spec_l03DrawGraph.l0])
  | succ k1 =>
   have H := HA.out
   clear HA
   simp only [spec_l03DrawGraph.l0] at H
   have HC9 := Aside0.mk H
   clear H
   go_upto_region 3 with (fail)
   go_cut [19] (fun v19 wc => ∃ (kq : Nat) (x19_8 : Bool), v19 = .bool x19_8 ∧ Aside0 (spec_l03DrawGraph.j1 kq a1 a2 x8_1 x19_8 s0_0 x1001_1 x1002_1 a1 x353001_1 = some (r1, r2, r3, r4)) ∧ Aside0 (kq ≤ k1) ∧ Aside0 (Kd.R k76 76 wc w.heap.size (fun _ => True) u353001 x353001_1) ∧ Aside0 (wc.heap[gb351]? = some (.cells #[.int .i64 0, (.slice none 0 0)] 30 (0, 0))) ∧ Aside0 (wc.heap[gb352]? = some (.cells #[.int .i64 a1, u353001] 30 (0, 0))) ∧ Aside0 (IsS115 w0 wc g s0_0 x1001_1 x1002_1) ∧ Aside0 (KeepBut w wc g none) ∧ Aside0 (Below w0.heap.size w0 wc))
   case first =>
    have H := HC9.out
    clear HC9
    by_cases c10 : x8_1 < a2
    ·rw [if_pos c10] at H
     have c10b0 : decide (x8_1 < a2) = true := decide_eq_true c10
     clear c10
     (first | rw [c10b0] | (simp only [i64_w, i32_w]; rw [c10b0]) | skip)
     have H' := Aside0.mk H
     clear H
     go_wp2
     go_meet
     case rel => exact ⟨_, (decide (a1 > 1)), er_, H', ⟨by have := HK1.out; first | omega | exact Nat.le_refl _⟩, ⟨hd_ HO_353001⟩, ⟨bx_ BK351⟩, ⟨bx_ BK352⟩, ⟨is115_⟩, ⟨kx_ HK⟩, ⟨bw115_⟩⟩
    rw [if_neg c10] at H
    have c10b0 : decide (x8_1 < a2) = false := decide_eq_false c10
    clear c10
    (first | rw [c10b0] | (simp only [i64_w, i32_w]; rw [c10b0]) | skip)
    have H' := Aside0.mk H
    clear H
    go_wp2
    go_meet
    case rel => exact ⟨_, (false), er_, H', ⟨by have := HK1.out; first | omega | exact Nat.le_refl _⟩, ⟨hd_ HO_353001⟩, ⟨bx_ BK351⟩, ⟨bx_ BK352⟩, ⟨is115_⟩, ⟨kx_ HK⟩, ⟨bw115_⟩⟩
   case rest =>
    clear HC9
    try clear c1
    try clear p2
    try clear c6
    try clear c7
    try clear c8
    try clear c10
    try clear c10b0
    try clear hcz8_0
    try clear hcz8_1
    try clear hfz8_0
    try clear hfz8_1
    try clear p2
    obtain ⟨kq, x19_8, rfl, HA, HJ8, HO_353001, BK351, BK352, HI0, HK, HB⟩ := hcut
    cases kq with
    | zero => exact absurd HA.out (by simp [spec_l03DrawGraph.j1])
    | succ kj8 =>
     have H := HA.out
     clear HA
     simp only [spec_l03DrawGraph.j1] at H
     by_cases c11 : x19_8 = true
     rotate_left
     ·replace c11 := Bool.eq_false_iff.mpr c11
      subst c11
      rw [if_neg (show ¬ (false = true) by decide)] at H
      simp only [Option.some.injEq, Prod.mk.injEq] at H
      obtain ⟨rfl, rfl, rfl, rfl⟩ := H
      have hnb123 := NB352_351.out
      have hnc123 := NB351_352.out
      have hnb124 := NB352_0.out
      have hnc124 := NB0_352.out
      have hcz125_0 := cz_ BK352 0 (.int .i64 a1)
      have hcz125_1 := cz_ BK352 1 (u353001)
      have hfz125_0 := fz_ BK352 0
      have hfz125_1 := fz_ BK352 1
      have hnb126 := NB351_0.out
      have hnc126 := NB0_351.out
      have hcz127_0 := cz_ BK351 0 (.int .i64 0)
      have hcz127_1 := cz_ BK351 1 (.slice none 0 0)
      have hfz127_0 := fz_ BK351 0
      have hfz127_1 := fz_ BK351 1
      obtain ⟨Ao128, co128, eo128⟩ := Kd.R_slice HO_353001.out
      subst eo128
      go_wp2
      refine bodyPost_ret (results_cell_row rfl _ _ gb351 30 #[.int .i64 a1, .slice Ao128 x353001_1.length co128] (0, 0) _ rfl (by refine bd_ ?_; refine blk_put (cs := #[.int .i64 a1, .slice none 0 0]) ?_ 1 _ rfl; refine bd_ ?_; refine blk_put (cs := #[.int .i64 0, .slice none 0 0]) ?_ 0 _ rfl; refine bd_ ?_; exact BK351.out) Try.underlying30 rfl (by kernel_rfl)) rfl ?_
      exact ⟨_, by first | rfl | (simp [errW_none, errW_some] <;> rfl) | (simp [*, errW_none, errW_some] <;> rfl), by (with_reducible repeat (first | apply Kd.R_alloc | apply Kd.R_drewN | apply Kd.R_drew)); exact Kd.R_mono (Kd.R_far (p := ⟨gb351, 1, none⟩) (Kd.R_far (p := ⟨gb351, 0, none⟩) (Kd.R_types HO_353001.out BK351.out (by decide)) (fun _ hk => hk.2) (.int .i64 a1)) (fun _ hk => hk.2) (.slice Ao128 x353001_1.length co128)) (fun _ hk => trivial), is115_, bw115_, kx_ HK⟩
     subst c11
     rw [if_pos rfl] at H
     replace H := Option.bind_eq_some_iff.mp H
     obtain ⟨⟨t353, t354, t355⟩, A120, H⟩ := H
     have A12 := Aside0.mk A120
     clear A120
     replace H := Option.bind_eq_some_iff.mp H
     obtain ⟨⟨t356, t357, t358⟩, A130, H⟩ := H
     have A13 := Aside0.mk A130
     clear A130
     replace H := Option.bind_eq_some_iff.mp H
     obtain ⟨⟨t359, t360, t361⟩, A140, H⟩ := H
     have A14 := Aside0.mk A140
     clear A140
     obtain ⟨y362, hy362⟩ : ∃ y_ : List Int, y_ = (([1, 1, 2, 2, 3, 5, wrap64 (1 + t359), 1000] : List Int)) := ⟨_, rfl⟩
     replace H : ((spec_l01PickInt.f s0_0 t360 t361 y362).bind fun bt365 => (if x8_1 < (wrap64 (a1 - 1)) then ((spec_l01Below.f s0_0 bt365.2.1 bt365.2.2 3).bind fun bt369 => (spec_l03DrawGraph.j2 kj8 a1 a2 x8_1 (decide (bt369.1 > 0)) s0_0 bt369.2.1 bt369.2.2 a1 x353001_1 t353 t356 bt365.1)) else (spec_l03DrawGraph.j2 kj8 a1 a2 x8_1 false s0_0 bt365.2.1 bt365.2.2 a1 x353001_1 t353 t356 bt365.1))) = some (r1, r2, r3, r4) := by first | (rw [hy362]; with_reducible exact H) | (have H2_ := (Option.bind_some _ _).symm.trans H; rw [hy362]; with_reducible exact H2_) | (have H2_ := (Option.bind_some _ _).symm.trans H; with_reducible exact H2_) | with_reducible exact H | (rw [hy362]; exact H) | exact H
     have Ny362 := Aside0.mk hy362
     clear hy362
     replace H := Option.bind_eq_some_iff.mp H
     obtain ⟨⟨t365, t366, t367⟩, A150, H⟩ := H
     have A15 := Aside0.mk A150
     clear A150
     have HC16 := Aside0.mk H
     clear H
     go_upto_region 6 with (first | ((with_reducible refine gate_callee (f := 68) rfl ?_); refine gl_ (some 24) Try.func68 #[.pointer (some ⟨g, 0, none⟩), .int .i64 a1] ?_; (with_reducible refine (spec_l01Below.calls g s0_0 x1001_1 x1002_1 a1 t353 t354 t355 w0 _ ?side1 ?side2 A12.out).mono ?_); (case side1 => exact is115_); (case side2 => exact bw115_); rintro e w17 ⟨rfl, hi, hb, hk⟩; refine ⟨_, rfl, ?_⟩; replace HO_353001 := ak115_ HO_353001 (show IsS115 w0 _ g s0_0 x1001_1 x1002_1 from is115_) hk; replace BK351 := kb_ BK351 NB351_0 hk; replace BK352 := kb_ BK352 NB352_0 hk; replace HK := kt_ HK hk; replace HB := Aside0.mk (hb); replace HI0 := Aside0.mk (hi); (try clear hb); (try clear hb2); (try clear hk); (try clear hi)) | ((with_reducible refine gate_callee (f := 68) rfl ?_); refine gl_ (some 27) Try.func68 #[.pointer (some ⟨g, 0, none⟩), .int .i64 a1] ?_; (with_reducible refine (spec_l01Below.calls g s0_0 t354 t355 a1 t356 t357 t358 w0 _ ?side1 ?side2 A13.out).mono ?_); (case side1 => exact is115_); (case side2 => exact bw115_); rintro e w18 ⟨rfl, hi, hb, hk⟩; refine ⟨_, rfl, ?_⟩; replace HO_353001 := ak115_ HO_353001 (show IsS115 w0 _ g s0_0 t354 t355 from is115_) hk; replace BK351 := kb_ BK351 NB351_0 hk; replace BK352 := kb_ BK352 NB352_0 hk; replace HK := kt_ HK hk; replace HB := Aside0.mk (hb); replace HI0 := Aside0.mk (hi); (try clear hb); (try clear hb2); (try clear hk); (try clear hi)) | ((with_reducible refine gate_callee (f := 68) rfl ?_); refine gl_ (some 30) Try.func68 #[.pointer (some ⟨g, 0, none⟩), .int .i64 9] ?_; (with_reducible refine (spec_l01Below.calls g s0_0 t357 t358 9 t359 t360 t361 w0 _ ?side1 ?side2 A14.out).mono ?_); (case side1 => exact is115_); (case side2 => exact bw115_); rintro e w19 ⟨rfl, hi, hb, hk⟩; refine ⟨_, rfl, ?_⟩; replace HO_353001 := ak115_ HO_353001 (show IsS115 w0 _ g s0_0 t357 t358 from is115_) hk; replace BK351 := kb_ BK351 NB351_0 hk; replace BK352 := kb_ BK352 NB352_0 hk; replace HK := kt_ HK hk; replace HB := Aside0.mk (hb); replace HI0 := Aside0.mk (hi); (try clear hb); (try clear hb2); (try clear hk); (try clear hi)) | ((with_reducible refine gate_dst (N := 32) rfl ?_); refine Kd.R_lit (Kd.int .i64) _ 3 ?hg (N := 32) ?hd (xs := ([1, 1, 2, 2, 3, 5, wrap64 (1 + t359), 1000] : List Int)) (inner := [.int .i64 1, .int .i64 1, .int .i64 2, .int .i64 2, .int .i64 3, .int .i64 5, .int .i64 (wrap64 (1 + t359)), .int .i64 1000]) (ok := fun _ => True) (okp := fun _ => True) ?hr ?hp (fun _ hk => hk) trivial (Below.refl _ _) (Nat.le_refl _) (by simp) ?_; (case hd => rfl); (case hg => rfl); (case hr => first | (go_simp; done) | (go_simp; rfl)); (case hp => exact (Reps.one (show Kd.M (Kd.int .i64) _ _ _ 1 [.int .i64 1] from rfl) (Reps.one (show Kd.M (Kd.int .i64) _ _ _ 1 [.int .i64 1] from rfl) (Reps.one (show Kd.M (Kd.int .i64) _ _ _ 2 [.int .i64 2] from rfl) (Reps.one (show Kd.M (Kd.int .i64) _ _ _ 2 [.int .i64 2] from rfl) (Reps.one (show Kd.M (Kd.int .i64) _ _ _ 3 [.int .i64 3] from rfl) (Reps.one (show Kd.M (Kd.int .i64) _ _ _ 5 [.int .i64 5] from rfl) (Reps.one (show Kd.M (Kd.int .i64) _ _ _ (wrap64 (1 + t359)) [.int .i64 (wrap64 (1 + t359))] from rfl) (Reps.one (show Kd.M (Kd.int .i64) _ _ _ 1000 [.int .i64 1000] from rfl) (Reps.none _ _)))))))))); intro v363 w20 ho21 hb hg_ hnew_; clear hg_ hnew_; (first | rw [← Ny362.out] at ho21 | (simp only [Int.reduceToNat] at ho21; rw [← Ny362.out] at ho21)); have HO364 := Aside0.mk (Kd.R_lower ho21 (keep_size (w := w) (g := g) (row := none) (kx_ HK))); replace HO_353001 := rb_ HO_353001 hb; replace BK351 := ab_ BK351 hb; replace BK352 := ab_ BK352 hb; replace HK := kt_ HK (KeepBut.of_below hb g none); replace HB := bs115_ hb; replace HI0 := Aside0.mk (IsS115.below is115_ hb); clear hb ho21; obtain ⟨Ao22, co22, eo22⟩ := Kd.R_slice HO364.out; subst eo22) | ((with_reducible refine gate_callee (f := 67) rfl ?_); refine gl_ (some 33) Try.func67 #[.pointer (some ⟨g, 0, none⟩), .slice Ao22 y362.length co22] ?_; (with_reducible refine (spec_l01PickInt.calls g s0_0 t360 t361 _ _ y362 t365 t366 t367 w0 _ ?side1 ?side2 ?side3 ?side4 ?side5 A15.out).mono ?_); (case side1 => exact is115_); (case side2 => exact bw115_); (case side3 => exact rc_ HO364); (case side4 => exact (Kd.R_reads' HO364.out).2.1); (case side5 => exact far_slice (IsS115.own_ne HI0.out HO364.out (by decide))); rintro e w23 ⟨rfl, hi, hb, hk⟩; refine ⟨_, rfl, ?_⟩; replace HO_353001 := ak115_ HO_353001 (show IsS115 w0 _ g s0_0 t360 t361 from is115_) hk; replace BK351 := kb_ BK351 NB351_0 hk; replace BK352 := kb_ BK352 NB352_0 hk; replace HO364 := ak115_ HO364 (show IsS115 w0 _ g s0_0 t360 t361 from is115_) hk; replace HK := kt_ HK hk; replace HB := Aside0.mk (hb); replace HI0 := Aside0.mk (hi); (try clear hb); (try clear hb2); (try clear hk); (try clear hi)) | ((with_reducible refine gate_dst (N := 9) rfl ?_); refine box_event ?hg (N := 9) ?hd (cs := #[.int .i64 0, .int .i64 0, .int .i64 0]) (t := 76) ?hr ?_; (case hd => rfl); (case hg => rfl); (case hr => first | (go_simp; done) | (go_simp; rfl)); intro gb368 hg w24 hbox hb; have BK368 := Aside0.mk hbox; have GW368 := gw_ HK hg; have GE368 := gv_ HW0 HK hg; have NB351_368 := nl_ BK351 hg; have NB368_351 := ng_ BK351 hg; have NB352_368 := nl_ BK352 hg; have NB368_352 := ng_ BK352 hg; have NB0_368 := Aside0.mk ((by rw [hg]; exact Nat.ne_of_lt (IsS115.lt (show IsS115 w0 _ g s0_0 t366 t367 from is115_)) : g ≠ gb368)); have NB368_0 := Aside0.mk ((by rw [hg]; exact Nat.ne_of_gt (IsS115.lt (show IsS115 w0 _ g s0_0 t366 t367 from is115_)) : gb368 ≠ g)); replace HO_353001 := Aside0.mk (Kd.R_below (Kd.R_elderB (hd_ HO_353001) gb368 (Nat.le_of_eq hg.symm)) hb); replace HO364 := rb_ HO364 hb; replace HB := bs115_ hb; replace HK := kt_ HK (KeepBut.of_below hb g none); replace BK351 := ab_ BK351 hb; replace BK352 := ab_ BK352 hb; replace HI0 := Aside0.mk (IsS115.below is115_ hb); clear hb hbox hg; have hnb25 := NB368_351.out; have hnc25 := NB351_368.out; have hnb26 := NB368_352.out; have hnc26 := NB352_368.out; have hnb27 := NB368_0.out; have hnc27 := NB0_368.out; have hcz28_0 := cz_ BK368 0 (.int .i64 0); have hcz28_1 := cz_ BK368 1 (.int .i64 0); have hcz28_2 := cz_ BK368 2 (.int .i64 0); have hfz28_0 := fz_ BK368 0; have hfz28_1 := fz_ BK368 1; have hfz28_2 := fz_ BK368 2))
     (try simp only [Act.put, List.setIfInBounds_toArray, List.set_cons_zero, List.set_cons_succ])
     go_cut [43] (fun v43 wc => ∃ (kq : Nat) (x43_15 : Bool) (x1001_15 : Int) (x1002_15 : Int), v43 = .bool x43_15 ∧ Aside0 (spec_l03DrawGraph.j2 kq a1 a2 x8_1 x43_15 s0_0 x1001_15 x1002_15 a1 x353001_1 t353 t356 t365 = some (r1, r2, r3, r4)) ∧ Aside0 (kq ≤ kj8) ∧ Aside0 (Kd.R k76 76 wc w.heap.size (fun k_ => k_ ≠ gb368) u353001 x353001_1) ∧ Aside0 (wc.heap[gb351]? = some (.cells #[.int .i64 0, (.slice none 0 0)] 30 (0, 0))) ∧ Aside0 (wc.heap[gb352]? = some (.cells #[.int .i64 a1, u353001] 30 (0, 0))) ∧ Aside0 (wc.heap[gb368]? = some (.cells #[.int .i64 t353, .int .i64 t356, .int .i64 t365] 76 (0, 0))) ∧ Aside0 (IsS115 w0 wc g s0_0 x1001_15 x1002_15) ∧ Aside0 (KeepBut w wc g none) ∧ Aside0 (Below w0.heap.size w0 wc))
     case first =>
      have H := HC16.out
      clear HC16
      by_cases c29 : x8_1 < (wrap64 (a1 - 1))
      rotate_left
      ·rw [if_neg c29] at H
       have c29b0 : decide (x8_1 < (wrap64 (a1 - 1))) = false := decide_eq_false c29
       clear c29
       (first | rw [c29b0] | (simp only [i64_w, i32_w]; rw [c29b0]) | skip)
       have H' := Aside0.mk H
       clear H
       go_wp2
       go_meet
       case rel => exact ⟨_, (false), (t366), (t367), er_, H', ⟨by have := HK1.out; have := HJ8.out; first | omega | exact Nat.le_refl _⟩, ⟨by (with_reducible repeat (first | apply Kd.R_alloc | apply Kd.R_drewN | apply Kd.R_drew)); exact Kd.R_mono (Kd.R_far (p := ⟨gb368, 2, none⟩) (Kd.R_far (p := ⟨gb368, 1, none⟩) (Kd.R_far (p := ⟨gb368, 0, none⟩) (Kd.R_mono HO_353001.out (fun k_ hk => (⟨hk, hk.2⟩ : _ ∧ k_ ≠ gb368))) (fun _ hk => hk.2) (.int .i64 t353)) (fun _ hk => hk.2) (.int .i64 t356)) (fun _ hk => hk.2) (.int .i64 t365)) (fun _ hk => hk.1.2)⟩, ⟨bc_ BK351⟩, ⟨bc_ BK352⟩, ⟨by refine bd_ ?_; refine blk_put (cs := #[.int .i64 t353, .int .i64 t356, .int .i64 0]) ?_ 2 _ rfl; refine bd_ ?_; refine blk_put (cs := #[.int .i64 t353, .int .i64 0, .int .i64 0]) ?_ 1 _ rfl; refine bd_ ?_; refine blk_put (cs := #[.int .i64 0, .int .i64 0, .int .i64 0]) ?_ 0 _ rfl; refine bd_ ?_; exact BK368.out⟩, ⟨is115_⟩, ⟨kx_ HK⟩, ⟨bw115_⟩⟩
      rw [if_pos c29] at H
      have c29b0 : decide (x8_1 < (wrap64 (a1 - 1))) = true := decide_eq_true c29
      clear c29
      (first | rw [c29b0] | (simp only [i64_w, i32_w]; rw [c29b0]) | skip)
      replace H := Option.bind_eq_some_iff.mp H
      obtain ⟨⟨t369, t370, t371⟩, A300, H⟩ := H
      have A30 := Aside0.mk A300
      clear A300
      have H' := Aside0.mk H
      clear H
      go_wp2_with (go_at_call 68; (with_reducible refine (spec_l01Below.calls g s0_0 t366 t367 3 t369 t370 t371 w0 _ ?side1 ?side2 A30.out).mono ?_); (case side1 => exact is115_); (case side2 => exact bw115_); rintro e w31 ⟨rfl, hi, hb, hk⟩; replace HO_353001 := Aside0.mk (Kd.R_mono (Kd.R_keep (IsS115.apart (show IsS115 w0 _ g s0_0 t366 t367 from is115_) (by (with_reducible repeat (first | apply Kd.R_alloc | apply Kd.R_drewN | apply Kd.R_drew)); exact (Kd.R_mono (Kd.R_far (p := ⟨gb368, 2, none⟩) (Kd.R_far (p := ⟨gb368, 1, none⟩) (Kd.R_far (p := ⟨gb368, 0, none⟩) (Kd.R_mono HO_353001.out (fun k_ hk => (⟨hk, hk.2⟩ : _ ∧ k_ ≠ gb368))) (fun _ hk => hk.2) (.int .i64 t353)) (fun _ hk => hk.2) (.int .i64 t356)) (fun _ hk => hk.2) (.int .i64 t365)) (fun _ h_ => h_.1))) (by decide)) hk (fun _ h => h.2)) (fun _ h => h.1)); replace BK351 := kc_ BK351 NB351_0 hk; replace BK352 := kc_ BK352 NB352_0 hk; replace HO364 := Aside0.mk (Kd.R_mono (Kd.R_keep (IsS115.apart (show IsS115 w0 _ g s0_0 t366 t367 from is115_) (hs_ HO364 BK368) (by decide)) hk (fun _ h => h.2)) (fun _ h => h.1)); replace BK368 := Aside0.mk (KeepBut.blk hk (g' := gb368) (o := .cells #[.int .i64 t353, .int .i64 t356, .int .i64 t365] 76 (0, 0)) (by refine bd_ ?_; refine blk_put (cs := #[.int .i64 t353, .int .i64 t356, .int .i64 0]) ?_ 2 _ rfl; refine bd_ ?_; refine blk_put (cs := #[.int .i64 t353, .int .i64 0, .int .i64 0]) ?_ 1 _ rfl; refine bd_ ?_; refine blk_put (cs := #[.int .i64 0, .int .i64 0, .int .i64 0]) ?_ 0 _ rfl; refine bd_ ?_; exact BK368.out) NB368_0.out (by simp)); replace HK := kt_ HK hk; replace HB := Aside0.mk (hb); replace HI0 := Aside0.mk (hi); (try clear hb); (try clear hb2); (try clear hk); (try clear hi))
      go_meet
      case rel => exact ⟨_, (decide (t369 > 0)), (t370), (t371), er_, H', ⟨by have := HK1.out; have := HJ8.out; first | omega | exact Nat.le_refl _⟩, ⟨by (with_reducible repeat (first | apply Kd.R_alloc | apply Kd.R_drewN | apply Kd.R_drew)); exact Kd.R_mono HO_353001.out (fun _ hk => hk.2)⟩, ⟨bx_ BK351⟩, ⟨bx_ BK352⟩, ⟨bx_ BK368⟩, ⟨is115_⟩, ⟨kx_ HK⟩, ⟨bw115_⟩⟩
     case rest =>
      clear HC16
      try clear c1
      try clear c2
      try clear p2
      try clear c6
      try clear p6
      try clear c7
      try clear c8
      try clear c10
      try clear c10b0
      try clear c11
      try clear c25
      try clear c26
      try clear c27
      try clear c29
      try clear c29b0
      try clear hcz28_0
      try clear hcz28_1
      try clear hcz28_2
      try clear hcz8_0
      try clear hcz8_1
      try clear hfz28_0
      try clear hfz28_1
      try clear hfz28_2
      try clear hfz8_0
      try clear hfz8_1
      try clear p2
      obtain ⟨kq, x43_15, x1001_15, x1002_15, rfl, HA, HJ15, HO_353001, BK351, BK352, BK368, HI0, HK, HB⟩ := hcut
      cases kq with
      | zero => exact absurd HA.out (by simp [spec_l03DrawGraph.j2])
      | succ kj15 =>
       have H := HA.out
       clear HA
       simp only [spec_l03DrawGraph.j2] at H
       have HC32 := Aside0.mk H
       clear H
       go_upto_if 43 with (fail)
       go_cut [] (fun wc => ∃ (kq : Nat) (x369000_31 : Int) (x369001_31 : Int), Aside0 (spec_l03DrawGraph.j3 kq a1 a2 x8_1 s0_0 x1001_15 x1002_15 a1 x353001_1 x369000_31 x369001_31 t365 = some (r1, r2, r3, r4)) ∧ Aside0 (kq ≤ kj15) ∧ Aside0 (Kd.R k76 76 wc w.heap.size (fun k_ => k_ ≠ gb368) u353001 x353001_1) ∧ Aside0 (wc.heap[gb351]? = some (.cells #[.int .i64 0, (.slice none 0 0)] 30 (0, 0))) ∧ Aside0 (wc.heap[gb352]? = some (.cells #[.int .i64 a1, u353001] 30 (0, 0))) ∧ Aside0 (wc.heap[gb368]? = some (.cells #[.int .i64 x369000_31, .int .i64 x369001_31, .int .i64 t365] 76 (0, 0))) ∧ Aside0 (IsS115 w0 wc g s0_0 x1001_15 x1002_15) ∧ Aside0 (KeepBut w wc g none) ∧ Aside0 (Below w0.heap.size w0 wc))
       case first =>
        have H := HC32.out
        clear HC32
        by_cases c33 : x43_15 = true
        rotate_left
        ·replace c33 := Bool.eq_false_iff.mpr c33
         subst c33
         rw [if_neg (show ¬ (false = true) by decide)] at H
         have H' := Aside0.mk H
         clear H
         go_wp2
         go_meet
         case rel => exact ⟨_, (t353), (t356), H', ⟨by have := HK1.out; have := HJ8.out; have := HJ15.out; first | omega | exact Nat.le_refl _⟩, ⟨hd_ HO_353001⟩, ⟨bx_ BK351⟩, ⟨bx_ BK352⟩, ⟨bx_ BK368⟩, ⟨is115_⟩, ⟨kx_ HK⟩, ⟨bw115_⟩⟩
        subst c33
        rw [if_pos rfl] at H
        have H' := Aside0.mk H
        clear H
        have hnb34 := NB368_351.out
        have hnc34 := NB351_368.out
        have hnb35 := NB368_352.out
        have hnc35 := NB352_368.out
        have hnb36 := NB368_0.out
        have hnc36 := NB0_368.out
        have hcz37_0 := cz_ BK368 0 (.int .i64 t353)
        have hcz37_1 := cz_ BK368 1 (.int .i64 t356)
        have hcz37_2 := cz_ BK368 2 (.int .i64 t365)
        have hfz37_0 := fz_ BK368 0
        have hfz37_1 := fz_ BK368 1
        have hfz37_2 := fz_ BK368 2
        go_wp2
        go_meet
        case rel => exact ⟨_, (x8_1), (wrap64 (x8_1 + 1)), H', ⟨by have := HK1.out; have := HJ8.out; have := HJ15.out; first | omega | exact Nat.le_refl _⟩, ⟨by (with_reducible repeat (first | apply Kd.R_alloc | apply Kd.R_drewN | apply Kd.R_drew)); exact Kd.R_mono (Kd.R_far (p := ⟨gb368, 1, none⟩) (Kd.R_far (p := ⟨gb368, 0, none⟩) (Kd.R_mono HO_353001.out (fun k_ hk => (⟨hk, hk⟩ : _ ∧ k_ ≠ gb368))) (fun _ hk => hk.2) (.int .i64 x8_1)) (fun _ hk => hk.2) (.int .i64 (wrap64 (x8_1 + 1)))) (fun _ hk => hk.1)⟩, ⟨bc_ BK351⟩, ⟨bc_ BK352⟩, ⟨by refine bd_ ?_; refine blk_put (cs := #[.int .i64 x8_1, .int .i64 t356, .int .i64 t365]) ?_ 1 _ rfl; refine bd_ ?_; refine blk_put (cs := #[.int .i64 t353, .int .i64 t356, .int .i64 t365]) ?_ 0 _ rfl; refine bd_ ?_; exact BK368.out⟩, ⟨is115_⟩, ⟨kx_ HK⟩, ⟨bw115_⟩⟩
       case rest =>
        clear HC32
        try clear c1
        try clear c2
        try clear p2
        try clear c3
        try clear c6
        try clear p6
        try clear c7
        try clear c8
        try clear c10
        try clear c10b0
        try clear c11
        try clear c25
        try clear c26
        try clear c27
        try clear c29
        try clear c29b0
        try clear c33
        try clear c34
        try clear c35
        try clear c36
        try clear hcz28_0
        try clear hcz28_1
        try clear hcz28_2
        try clear hcz37_0
        try clear hcz37_1
        try clear hcz37_2
        try clear hcz8_0
        try clear hcz8_1
        try clear hfz28_0
        try clear hfz28_1
        try clear hfz28_2
        try clear hfz37_0
        try clear hfz37_1
        try clear hfz37_2
        try clear hfz8_0
        try clear hfz8_1
        try clear p2
        try clear p6
        obtain ⟨kq, x369000_31, x369001_31, HA, HJ31, HO_353001, BK351, BK352, BK368, HI0, HK, HB⟩ := hcut
        cases kq with
        | zero => exact absurd HA.out (by simp [spec_l03DrawGraph.j3])
        | succ kj31 =>
         have H := HA.out
         clear HA
         simp only [spec_l03DrawGraph.j3] at H
         by_cases c38 : x369000_31 = x369001_31
         ·rw [if_pos c38] at H
          have c38b0 : (x369000_31 == x369001_31) = true := beq_iff_eq.mpr c38
          have c38b1 : (x369000_31 != x369001_31) = false := bne_eq_false_iff_eq.mpr c38
          clear c38
          have H' := Aside0.mk H
          clear H
          have hnb39 := NB368_351.out
          have hnc39 := NB351_368.out
          have hnb40 := NB368_352.out
          have hnc40 := NB352_368.out
          have hnb41 := NB368_0.out
          have hnc41 := NB0_368.out
          have hcz42_0 := cz_ BK368 0 (.int .i64 x369000_31)
          have hcz42_1 := cz_ BK368 1 (.int .i64 x369001_31)
          have hcz42_2 := cz_ BK368 2 (.int .i64 t365)
          have hfz42_0 := fz_ BK368 0
          have hfz42_1 := fz_ BK368 1
          have hfz42_2 := fz_ BK368 2
          go_wp2
          go_roundg kj31
          case measure => have := HK1.out; have := HJ8.out; have := HJ15.out; have := HJ31.out; omega
          case rel => exact ⟨(wrap64 (x8_1 + 1)), (x1001_15), (x1002_15), (x353001_1), (u353001), er_, H', ⟨by have := HK1.out; have := HJ8.out; have := HJ15.out; have := HJ31.out; omega⟩, ⟨by (with_reducible repeat (first | apply Kd.R_alloc | apply Kd.R_drewN | apply Kd.R_drew)); exact Kd.R_mono HO_353001.out (fun _ hk => trivial)⟩, ⟨bx_ BK351⟩, ⟨bx_ BK352⟩, ⟨is115_⟩, ⟨kx_ HK⟩, ⟨bw115_⟩⟩
         rw [if_neg c38] at H
         have c38b0 : (x369000_31 == x369001_31) = false := beq_eq_false_iff_ne.mpr c38
         have c38b1 : (x369000_31 != x369001_31) = true := bne_iff_ne.mpr c38
         have Hh_ := Aside0.mk H
         clear H
         have hnb51 := NB368_351.out
         have hnc51 := NB351_368.out
         have hnb52 := NB368_352.out
         have hnc52 := NB352_368.out
         have hnb53 := NB368_0.out
         have hnc53 := NB0_368.out
         have hcz54_0 := cz_ BK368 0 (.int .i64 x369000_31)
         have hcz54_1 := cz_ BK368 1 (.int .i64 x369001_31)
         have hcz54_2 := cz_ BK368 2 (.int .i64 t365)
         have hfz54_0 := fz_ BK368 0
         have hfz54_1 := fz_ BK368 1
         have hfz54_2 := fz_ BK368 2
         have hnb55 := NB352_351.out
         have hnc55 := NB351_352.out
         have hnb56 := NB352_0.out
         have hnc56 := NB0_352.out
         have hcz57_0 := cz_ BK352 0 (.int .i64 a1)
         have hcz57_1 := cz_ BK352 1 (u353001)
         have hfz57_0 := fz_ BK352 0
         have hfz57_1 := fz_ BK352 1
         obtain ⟨Ao58, co58, eo58⟩ := Kd.R_slice HO_353001.out
         subst eo58
         have H := Hh_.out
         clear Hh_
         by_cases c43 : (x353001_1.length : Int) < 59
         rotate_left
         ·rw [if_neg c43] at H
          have c43b0 : decide ((x353001_1.length : Int) < 59) = false := decide_eq_false c43
          have c43b1 : decide (x353001_1.length < 59) = false := decide_eq_false (by omega)
          clear c43
          have H' := Aside0.mk H
          clear H
          go_wp2
          go_roundg kj31
          case measure => have := HK1.out; have := HJ8.out; have := HJ15.out; have := HJ31.out; omega
          case rel => exact ⟨(wrap64 (x8_1 + 1)), (x1001_15), (x1002_15), (x353001_1), (.slice Ao58 x353001_1.length co58), er_, H', ⟨by have := HK1.out; have := HJ8.out; have := HJ15.out; have := HJ31.out; omega⟩, ⟨by (with_reducible repeat (first | apply Kd.R_alloc | apply Kd.R_drewN | apply Kd.R_drew)); exact Kd.R_mono HO_353001.out (fun _ hk => trivial)⟩, ⟨bx_ BK351⟩, ⟨bx_ BK352⟩, ⟨is115_⟩, ⟨kx_ HK⟩, ⟨bw115_⟩⟩
         rw [if_pos c43] at H
         have c43b0 : decide ((x353001_1.length : Int) < 59) = true := decide_eq_true c43
         have c43b1 : decide (x353001_1.length < 59) = true := decide_eq_true (by omega)
         clear c43
         replace H := Option.bind_eq_some_iff.mp H
         obtain ⟨t372, A440, H⟩ := H
         have A44 := Aside0.mk A440
         clear A440
         replace H := Option.bind_eq_some_iff.mp H
         obtain ⟨⟨t375, t376, t377⟩, A450, H⟩ := H
         have A45 := Aside0.mk A450
         clear A450
         by_cases c46 : t375 > 0
         rotate_left
         ·rw [if_neg c46] at H
          have c46b0 : decide (0 < t375) = false := decide_eq_false c46
          clear c46
          have H' := Aside0.mk H
          clear H
          go_wp2_with (first | ((with_reducible refine gate_callee (f := 98) rfl ?_); refine gl_ (some 61) Try.func98 #[.slice Ao58 x353001_1.length co58, .agg #[.int .i64 x369000_31, .int .i64 x369001_31, .int .i64 t365]] ?_; (with_reducible refine (spec_l03Put.calls kj31 _ _ x353001_1 x369000_31 x369001_31 t365 t372 _ ?side1 ?side2 A44.out).mono ?_); (case side1 => exact rc_ HO_353001); (case side2 => exact (Kd.R_reads' HO_353001.out).2.1); rintro e w111 ⟨v373, rfl, ho0, hb⟩; refine ⟨_, rfl, ?_⟩; have HO374 := Aside0.mk (Kd.R_lower (Kd.R_newB (Kd.R_new' ho0 (Kd.R_lt (hd_ HO_353001))) (g := gb368) (o := .cells #[.int .i64 x369000_31, .int .i64 x369001_31, .int .i64 t365] 76 (0, 0)) (bx_ BK368)) (keep_size (w := w) (g := g) (row := none) (kx_ HK))); replace HO_353001 := Aside0.mk (Kd.R_elder' (hd_ HO_353001) (Kd.R_base ho0) hb); replace BK351 := ab_ BK351 hb; replace BK352 := ab_ BK352 hb; replace BK368 := ab_ BK368 hb; replace HK := kt_ HK (KeepBut.of_below hb g none); replace HB := bs115_ hb; replace HI0 := Aside0.mk (IsS115.below is115_ hb); (try clear hb); (try clear hb2); (try clear hk); (try clear hi); (try clear ho0); obtain ⟨Ao112, co112, eo112⟩ := Kd.R_slice HO374.out; subst eo112; have hcz113_0 := cz_ BK352 0 (.int .i64 a1); have hcz113_1 := cz_ BK352 1 (.slice Ao58 x353001_1.length co58); have hfz113_0 := fz_ BK352 0; have hfz113_1 := fz_ BK352 1) | ((with_reducible refine gate_callee (f := 68) rfl ?_); refine gl_ (some 64) Try.func68 #[.pointer (some ⟨g, 0, none⟩), .int .i64 4] ?_; (with_reducible refine (spec_l01Below.calls g s0_0 x1001_15 x1002_15 4 t375 t376 t377 w0 _ ?side1 ?side2 A45.out).mono ?_); (case side1 => exact is115_); (case side2 => exact bw115_); rintro e w114 ⟨rfl, hi, hb, hk⟩; refine ⟨_, rfl, ?_⟩; replace HO_353001 := Aside0.mk (Kd.R_mono (Kd.R_keep (IsS115.apart (show IsS115 w0 _ g s0_0 x1001_15 x1002_15 from is115_) (hs_ HO_353001 BK352) (by decide)) hk (fun _ h => h.2)) (fun _ h => h.1)); replace BK351 := kc_ BK351 NB351_0 hk; replace BK368 := kc_ BK368 NB368_0 hk; replace HO374 := Aside0.mk (Kd.R_mono (Kd.R_keep (IsS115.apart (show IsS115 w0 _ g s0_0 x1001_15 x1002_15 from is115_) (hs_ HO374 BK352) (by decide)) hk (fun _ h => h.2)) (fun _ h => h.1)); replace BK352 := Aside0.mk (KeepBut.blk hk (g' := gb352) (o := .cells #[.int .i64 a1, .slice Ao112 t372.length co112] 30 (0, 0)) (by refine bd_ ?_; refine blk_put (cs := #[.int .i64 a1, .slice Ao58 x353001_1.length co58]) ?_ 1 _ rfl; refine bd_ ?_; exact BK352.out) NB352_0.out (by simp)); replace HK := kt_ HK hk; replace HB := Aside0.mk (hb); replace HI0 := Aside0.mk (hi); (try clear hb); (try clear hb2); (try clear hk); (try clear hi)))
          go_roundg kj31
          case measure => have := HK1.out; have := HJ8.out; have := HJ15.out; have := HJ31.out; omega
          case rel => exact ⟨(wrap64 (x8_1 + 1)), (t376), (t377), (t372), (.slice Ao112 t372.length co112), er_, H', ⟨by have := HK1.out; have := HJ8.out; have := HJ15.out; have := HJ31.out; omega⟩, ⟨by (with_reducible repeat (first | apply Kd.R_alloc | apply Kd.R_drewN | apply Kd.R_drew)); exact Kd.R_mono HO374.out (fun _ hk => trivial)⟩, ⟨bx_ BK351⟩, ⟨bx_ BK352⟩, ⟨is115_⟩, ⟨kx_ HK⟩, ⟨bw115_⟩⟩
         rw [if_pos c46] at H
         have c46b0 : decide (0 < t375) = true := decide_eq_true c46
         clear c46
         replace H := Option.bind_eq_some_iff.mp H
         obtain ⟨⟨t379, t380, t381⟩, A470, H⟩ := H
         have A47 := Aside0.mk A470
         clear A470
         by_cases c48 : t379 = true
         rotate_left
         ·replace c48 := Bool.eq_false_iff.mpr c48
          subst c48
          rw [if_neg (show ¬ (false = true) by decide)] at H
          replace H := Option.bind_eq_some_iff.mp H
          obtain ⟨t388, A770, H⟩ := H
          have A77 := Aside0.mk A770
          clear A770
          have H' := Aside0.mk H
          clear H
          go_wp2_with (first | ((with_reducible refine gate_callee (f := 98) rfl ?_); refine gl_ (some 61) Try.func98 #[.slice Ao58 x353001_1.length co58, .agg #[.int .i64 x369000_31, .int .i64 x369001_31, .int .i64 t365]] ?_; (with_reducible refine (spec_l03Put.calls kj31 _ _ x353001_1 x369000_31 x369001_31 t365 t372 _ ?side1 ?side2 A44.out).mono ?_); (case side1 => exact rc_ HO_353001); (case side2 => exact (Kd.R_reads' HO_353001.out).2.1); rintro e w86 ⟨v373, rfl, ho0, hb⟩; refine ⟨_, rfl, ?_⟩; have HO374 := Aside0.mk (Kd.R_lower (Kd.R_newB (Kd.R_new' ho0 (Kd.R_lt (hd_ HO_353001))) (g := gb368) (o := .cells #[.int .i64 x369000_31, .int .i64 x369001_31, .int .i64 t365] 76 (0, 0)) (bx_ BK368)) (keep_size (w := w) (g := g) (row := none) (kx_ HK))); replace HO_353001 := Aside0.mk (Kd.R_elder' (hd_ HO_353001) (Kd.R_base ho0) hb); replace BK351 := ab_ BK351 hb; replace BK352 := ab_ BK352 hb; replace BK368 := ab_ BK368 hb; replace HK := kt_ HK (KeepBut.of_below hb g none); replace HB := bs115_ hb; replace HI0 := Aside0.mk (IsS115.below is115_ hb); (try clear hb); (try clear hb2); (try clear hk); (try clear hi); (try clear ho0); obtain ⟨Ao87, co87, eo87⟩ := Kd.R_slice HO374.out; subst eo87; have hcz88_0 := cz_ BK352 0 (.int .i64 a1); have hcz88_1 := cz_ BK352 1 (.slice Ao58 x353001_1.length co58); have hfz88_0 := fz_ BK352 0; have hfz88_1 := fz_ BK352 1) | ((with_reducible refine gate_callee (f := 68) rfl ?_); refine gl_ (some 64) Try.func68 #[.pointer (some ⟨g, 0, none⟩), .int .i64 4] ?_; (with_reducible refine (spec_l01Below.calls g s0_0 x1001_15 x1002_15 4 t375 t376 t377 w0 _ ?side1 ?side2 A45.out).mono ?_); (case side1 => exact is115_); (case side2 => exact bw115_); rintro e w89 ⟨rfl, hi, hb, hk⟩; refine ⟨_, rfl, ?_⟩; replace HO_353001 := Aside0.mk (Kd.R_mono (Kd.R_keep (IsS115.apart (show IsS115 w0 _ g s0_0 x1001_15 x1002_15 from is115_) (hs_ HO_353001 BK352) (by decide)) hk (fun _ h => h.2)) (fun _ h => h.1)); replace BK351 := kc_ BK351 NB351_0 hk; replace BK368 := kc_ BK368 NB368_0 hk; replace HO374 := Aside0.mk (Kd.R_mono (Kd.R_keep (IsS115.apart (show IsS115 w0 _ g s0_0 x1001_15 x1002_15 from is115_) (hs_ HO374 BK352) (by decide)) hk (fun _ h => h.2)) (fun _ h => h.1)); replace BK352 := Aside0.mk (KeepBut.blk hk (g' := gb352) (o := .cells #[.int .i64 a1, .slice Ao87 t372.length co87] 30 (0, 0)) (by refine bd_ ?_; refine blk_put (cs := #[.int .i64 a1, .slice Ao58 x353001_1.length co58]) ?_ 1 _ rfl; refine bd_ ?_; exact BK352.out) NB352_0.out (by simp)); replace HK := kt_ HK hk; replace HB := Aside0.mk (hb); replace HI0 := Aside0.mk (hi); (try clear hb); (try clear hb2); (try clear hk); (try clear hi); have hcz90_0 := cz_ BK368 0 (.int .i64 x369000_31); have hcz90_1 := cz_ BK368 1 (.int .i64 x369001_31); have hcz90_2 := cz_ BK368 2 (.int .i64 t365); have hfz90_0 := fz_ BK368 0; have hfz90_1 := fz_ BK368 1; have hfz90_2 := fz_ BK368 2) | ((with_reducible refine gate_dst (N := 10) rfl ?_); refine box_event ?hg (N := 10) ?hd (cs := #[.int .i64 0, .int .i64 0, .int .i64 0]) (t := 76) ?hr ?_; (case hd => rfl); (case hg => rfl); (case hr => first | (go_simp; done) | (go_simp; rfl)); intro gb378 hg w91 hbox hb; have BK378 := Aside0.mk hbox; have GW378 := gw_ HK hg; have GE378 := gv_ HW0 HK hg; have NB351_378 := nl_ BK351 hg; have NB378_351 := ng_ BK351 hg; have NB352_378 := nl_ BK352 hg; have NB378_352 := ng_ BK352 hg; have NB368_378 := nl_ BK368 hg; have NB378_368 := ng_ BK368 hg; have NB0_378 := Aside0.mk ((by rw [hg]; exact Nat.ne_of_lt (IsS115.lt (show IsS115 w0 _ g s0_0 t376 t377 from is115_)) : g ≠ gb378)); have NB378_0 := Aside0.mk ((by rw [hg]; exact Nat.ne_of_gt (IsS115.lt (show IsS115 w0 _ g s0_0 t376 t377 from is115_)) : gb378 ≠ g)); replace HO_353001 := Aside0.mk (Kd.R_below (Kd.R_elderB (hd_ HO_353001) gb378 (Nat.le_of_eq hg.symm)) hb); replace HO374 := Aside0.mk (Kd.R_below (Kd.R_elderB (hd_ HO374) gb378 (Nat.le_of_eq hg.symm)) hb); replace HB := bs115_ hb; replace HK := kt_ HK (KeepBut.of_below hb g none); replace BK351 := ab_ BK351 hb; replace BK352 := ab_ BK352 hb; replace BK368 := ab_ BK368 hb; replace HI0 := Aside0.mk (IsS115.below is115_ hb); clear hb hbox hg; have hnb92 := NB378_351.out; have hnc92 := NB351_378.out; have hnb93 := NB378_352.out; have hnc93 := NB352_378.out; have hnb94 := NB378_368.out; have hnc94 := NB368_378.out; have hnb95 := NB378_0.out; have hnc95 := NB0_378.out; have hcz96_0 := cz_ BK378 0 (.int .i64 0); have hcz96_1 := cz_ BK378 1 (.int .i64 0); have hcz96_2 := cz_ BK378 2 (.int .i64 0); have hfz96_0 := fz_ BK378 0; have hfz96_1 := fz_ BK378 1; have hfz96_2 := fz_ BK378 2) | ((with_reducible refine gate_callee (f := 84) rfl ?_); refine gl_ (some 74) Try.func84 #[.pointer (some ⟨g, 0, none⟩), .int .i64 4] ?_; (with_reducible refine (spec_l01Once.calls g s0_0 t376 t377 4 false t380 t381 w0 _ ?side1 ?side2 A47.out).mono ?_); (case side1 => exact is115_); (case side2 => exact bw115_); rintro e w97 ⟨rfl, hi, hb, hk⟩; refine ⟨_, rfl, ?_⟩; replace HO_353001 := Aside0.mk (Kd.R_mono (Kd.R_keep (IsS115.apart (show IsS115 w0 _ g s0_0 t376 t377 from is115_) (by (with_reducible repeat (first | apply Kd.R_alloc | apply Kd.R_drewN | apply Kd.R_drew)); exact (Kd.R_mono (Kd.R_far (p := ⟨gb378, 2, none⟩) (Kd.R_far (p := ⟨gb378, 1, none⟩) (Kd.R_far (p := ⟨gb378, 0, none⟩) (Kd.R_mono HO_353001.out (fun k_ hk => (⟨hk, hk.2⟩ : _ ∧ k_ ≠ gb378))) (fun _ hk => hk.2) (.int .i64 x369001_31)) (fun _ hk => hk.2) (.int .i64 x369000_31)) (fun _ hk => hk.2) (.int .i64 t365)) (fun _ h_ => h_.1))) (by decide)) hk (fun _ h => h.2)) (fun _ h => h.1)); replace BK351 := kc_ BK351 NB351_0 hk; replace BK352 := kc_ BK352 NB352_0 hk; replace BK368 := kc_ BK368 NB368_0 hk; replace HO374 := Aside0.mk (Kd.R_mono (Kd.R_keep (IsS115.apart (show IsS115 w0 _ g s0_0 t376 t377 from is115_) (by (with_reducible repeat (first | apply Kd.R_alloc | apply Kd.R_drewN | apply Kd.R_drew)); exact (Kd.R_mono (Kd.R_far (p := ⟨gb378, 2, none⟩) (Kd.R_far (p := ⟨gb378, 1, none⟩) (Kd.R_far (p := ⟨gb378, 0, none⟩) (Kd.R_mono HO374.out (fun k_ hk => (⟨hk, hk.2⟩ : _ ∧ k_ ≠ gb378))) (fun _ hk => hk.2) (.int .i64 x369001_31)) (fun _ hk => hk.2) (.int .i64 x369000_31)) (fun _ hk => hk.2) (.int .i64 t365)) (fun _ h_ => h_.1))) (by decide)) hk (fun _ h => h.2)) (fun _ h => h.1)); replace BK378 := Aside0.mk (KeepBut.blk hk (g' := gb378) (o := .cells #[.int .i64 x369001_31, .int .i64 x369000_31, .int .i64 t365] 76 (0, 0)) (by refine bd_ ?_; refine blk_put (cs := #[.int .i64 x369001_31, .int .i64 x369000_31, .int .i64 0]) ?_ 2 _ rfl; refine bd_ ?_; refine blk_put (cs := #[.int .i64 x369001_31, .int .i64 0, .int .i64 0]) ?_ 1 _ rfl; refine bd_ ?_; refine blk_put (cs := #[.int .i64 0, .int .i64 0, .int .i64 0]) ?_ 0 _ rfl; refine bd_ ?_; exact BK378.out) NB378_0.out (by simp)); replace HK := kt_ HK hk; replace HB := Aside0.mk (hb); replace HI0 := Aside0.mk (hi); (try clear hb); (try clear hb2); (try clear hk); (try clear hi); have hcz98_0 := cz_ BK352 0 (.int .i64 a1); have hcz98_1 := cz_ BK352 1 (.slice Ao87 t372.length co87); have hfz98_0 := fz_ BK352 0; have hfz98_1 := fz_ BK352 1; have hcz99_0 := cz_ BK378 0 (.int .i64 x369001_31); have hcz99_1 := cz_ BK378 1 (.int .i64 x369000_31); have hcz99_2 := cz_ BK378 2 (.int .i64 t365); have hfz99_0 := fz_ BK378 0; have hfz99_1 := fz_ BK378 1; have hfz99_2 := fz_ BK378 2) | ((with_reducible refine gate_callee (f := 98) rfl ?_); refine gl_ (some 82) Try.func98 #[.slice Ao87 t372.length co87, .agg #[.int .i64 x369001_31, .int .i64 x369000_31, .int .i64 t365]] ?_; (with_reducible refine (spec_l03Put.calls kj31 _ _ t372 x369001_31 x369000_31 t365 t388 _ ?side1 ?side2 A77.out).mono ?_); (case side1 => exact rc_ HO374); (case side2 => exact (Kd.R_reads' HO374.out).2.1); rintro e w100 ⟨v389, rfl, ho0, hb⟩; refine ⟨_, rfl, ?_⟩; have HO390 := Aside0.mk (Kd.R_lower (Kd.R_newB (Kd.R_newB (Kd.R_new' (Kd.R_new' ho0 (Kd.R_lt (hd_ HO_353001))) (Kd.R_lt (hd_ HO374))) (g := gb368) (o := .cells #[.int .i64 x369000_31, .int .i64 x369001_31, .int .i64 t365] 76 (0, 0)) (bx_ BK368)) (g := gb378) (o := .cells #[.int .i64 x369001_31, .int .i64 x369000_31, .int .i64 t365] 76 (0, 0)) (bx_ BK378)) (keep_size (w := w) (g := g) (row := none) (kx_ HK))); replace HO_353001 := Aside0.mk (Kd.R_elder' (hd_ HO_353001) (Kd.R_base ho0) hb); replace HO374 := Aside0.mk (Kd.R_elder' (hd_ HO374) (Kd.R_base ho0) hb); replace BK351 := ab_ BK351 hb; replace BK352 := ab_ BK352 hb; replace BK368 := ab_ BK368 hb; replace BK378 := ab_ BK378 hb; replace HK := kt_ HK (KeepBut.of_below hb g none); replace HB := bs115_ hb; replace HI0 := Aside0.mk (IsS115.below is115_ hb); (try clear hb); (try clear hb2); (try clear hk); (try clear hi); (try clear ho0); obtain ⟨Ao101, co101, eo101⟩ := Kd.R_slice HO390.out; subst eo101; have hcz102_0 := cz_ BK352 0 (.int .i64 a1); have hcz102_1 := cz_ BK352 1 (.slice Ao87 t372.length co87); have hfz102_0 := fz_ BK352 0; have hfz102_1 := fz_ BK352 1))
          go_roundg kj31
          case measure => have := HK1.out; have := HJ8.out; have := HJ15.out; have := HJ31.out; omega
          case rel => exact ⟨(wrap64 (x8_1 + 1)), (t380), (t381), (t388), (.slice Ao101 t388.length co101), er_, H', ⟨by have := HK1.out; have := HJ8.out; have := HJ15.out; have := HJ31.out; omega⟩, ⟨by (with_reducible repeat (first | apply Kd.R_alloc | apply Kd.R_drewN | apply Kd.R_drew)); exact Kd.R_mono (Kd.R_far (p := ⟨gb352, 1, none⟩) (Kd.R_types HO390.out BK352.out (by decide)) (fun _ hk => hk.2) (.slice Ao101 t388.length co101)) (fun _ hk => trivial)⟩, ⟨bc_ BK351⟩, ⟨by refine bd_ ?_; refine blk_put (cs := #[.int .i64 a1, .slice Ao87 t372.length co87]) ?_ 1 _ rfl; refine bd_ ?_; exact BK352.out⟩, ⟨is115_⟩, ⟨kx_ HK⟩, ⟨bw115_⟩⟩
         subst c48
         rw [if_pos rfl] at H
         replace H := Option.bind_eq_some_iff.mp H
         obtain ⟨⟨t382, t383, t384⟩, A490, H⟩ := H
         have A49 := Aside0.mk A490
         clear A490
         replace H := Option.bind_eq_some_iff.mp H
         obtain ⟨t385, A500, H⟩ := H
         have A50 := Aside0.mk A500
         clear A500
         have H' := Aside0.mk H
         clear H
         go_wp2_with (first | ((with_reducible refine gate_callee (f := 98) rfl ?_); refine gl_ (some 61) Try.func98 #[.slice Ao58 x353001_1.length co58, .agg #[.int .i64 x369000_31, .int .i64 x369001_31, .int .i64 t365]] ?_; (with_reducible refine (spec_l03Put.calls kj31 _ _ x353001_1 x369000_31 x369001_31 t365 t372 _ ?side1 ?side2 A44.out).mono ?_); (case side1 => exact rc_ HO_353001); (case side2 => exact (Kd.R_reads' HO_353001.out).2.1); rintro e w59 ⟨v373, rfl, ho0, hb⟩; refine ⟨_, rfl, ?_⟩; have HO374 := Aside0.mk (Kd.R_lower (Kd.R_newB (Kd.R_new' ho0 (Kd.R_lt (hd_ HO_353001))) (g := gb368) (o := .cells #[.int .i64 x369000_31, .int .i64 x369001_31, .int .i64 t365] 76 (0, 0)) (bx_ BK368)) (keep_size (w := w) (g := g) (row := none) (kx_ HK))); replace HO_353001 := Aside0.mk (Kd.R_elder' (hd_ HO_353001) (Kd.R_base ho0) hb); replace BK351 := ab_ BK351 hb; replace BK352 := ab_ BK352 hb; replace BK368 := ab_ BK368 hb; replace HK := kt_ HK (KeepBut.of_below hb g none); replace HB := bs115_ hb; replace HI0 := Aside0.mk (IsS115.below is115_ hb); (try clear hb); (try clear hb2); (try clear hk); (try clear hi); (try clear ho0); obtain ⟨Ao60, co60, eo60⟩ := Kd.R_slice HO374.out; subst eo60; have hcz61_0 := cz_ BK352 0 (.int .i64 a1); have hcz61_1 := cz_ BK352 1 (.slice Ao58 x353001_1.length co58); have hfz61_0 := fz_ BK352 0; have hfz61_1 := fz_ BK352 1) | ((with_reducible refine gate_callee (f := 68) rfl ?_); refine gl_ (some 64) Try.func68 #[.pointer (some ⟨g, 0, none⟩), .int .i64 4] ?_; (with_reducible refine (spec_l01Below.calls g s0_0 x1001_15 x1002_15 4 t375 t376 t377 w0 _ ?side1 ?side2 A45.out).mono ?_); (case side1 => exact is115_); (case side2 => exact bw115_); rintro e w62 ⟨rfl, hi, hb, hk⟩; refine ⟨_, rfl, ?_⟩; replace HO_353001 := Aside0.mk (Kd.R_mono (Kd.R_keep (IsS115.apart (show IsS115 w0 _ g s0_0 x1001_15 x1002_15 from is115_) (hs_ HO_353001 BK352) (by decide)) hk (fun _ h => h.2)) (fun _ h => h.1)); replace BK351 := kc_ BK351 NB351_0 hk; replace BK368 := kc_ BK368 NB368_0 hk; replace HO374 := Aside0.mk (Kd.R_mono (Kd.R_keep (IsS115.apart (show IsS115 w0 _ g s0_0 x1001_15 x1002_15 from is115_) (hs_ HO374 BK352) (by decide)) hk (fun _ h => h.2)) (fun _ h => h.1)); replace BK352 := Aside0.mk (KeepBut.blk hk (g' := gb352) (o := .cells #[.int .i64 a1, .slice Ao60 t372.length co60] 30 (0, 0)) (by refine bd_ ?_; refine blk_put (cs := #[.int .i64 a1, .slice Ao58 x353001_1.length co58]) ?_ 1 _ rfl; refine bd_ ?_; exact BK352.out) NB352_0.out (by simp)); replace HK := kt_ HK hk; replace HB := Aside0.mk (hb); replace HI0 := Aside0.mk (hi); (try clear hb); (try clear hb2); (try clear hk); (try clear hi); have hcz63_0 := cz_ BK368 0 (.int .i64 x369000_31); have hcz63_1 := cz_ BK368 1 (.int .i64 x369001_31); have hcz63_2 := cz_ BK368 2 (.int .i64 t365); have hfz63_0 := fz_ BK368 0; have hfz63_1 := fz_ BK368 1; have hfz63_2 := fz_ BK368 2) | ((with_reducible refine gate_dst (N := 10) rfl ?_); refine box_event ?hg (N := 10) ?hd (cs := #[.int .i64 0, .int .i64 0, .int .i64 0]) (t := 76) ?hr ?_; (case hd => rfl); (case hg => rfl); (case hr => first | (go_simp; done) | (go_simp; rfl)); intro gb378 hg w64 hbox hb; have BK378 := Aside0.mk hbox; have GW378 := gw_ HK hg; have GE378 := gv_ HW0 HK hg; have NB351_378 := nl_ BK351 hg; have NB378_351 := ng_ BK351 hg; have NB352_378 := nl_ BK352 hg; have NB378_352 := ng_ BK352 hg; have NB368_378 := nl_ BK368 hg; have NB378_368 := ng_ BK368 hg; have NB0_378 := Aside0.mk ((by rw [hg]; exact Nat.ne_of_lt (IsS115.lt (show IsS115 w0 _ g s0_0 t376 t377 from is115_)) : g ≠ gb378)); have NB378_0 := Aside0.mk ((by rw [hg]; exact Nat.ne_of_gt (IsS115.lt (show IsS115 w0 _ g s0_0 t376 t377 from is115_)) : gb378 ≠ g)); replace HO_353001 := Aside0.mk (Kd.R_below (Kd.R_elderB (hd_ HO_353001) gb378 (Nat.le_of_eq hg.symm)) hb); replace HO374 := Aside0.mk (Kd.R_below (Kd.R_elderB (hd_ HO374) gb378 (Nat.le_of_eq hg.symm)) hb); replace HB := bs115_ hb; replace HK := kt_ HK (KeepBut.of_below hb g none); replace BK351 := ab_ BK351 hb; replace BK352 := ab_ BK352 hb; replace BK368 := ab_ BK368 hb; replace HI0 := Aside0.mk (IsS115.below is115_ hb); clear hb hbox hg; have hnb65 := NB378_351.out; have hnc65 := NB351_378.out; have hnb66 := NB378_352.out; have hnc66 := NB352_378.out; have hnb67 := NB378_368.out; have hnc67 := NB368_378.out; have hnb68 := NB378_0.out; have hnc68 := NB0_378.out; have hcz69_0 := cz_ BK378 0 (.int .i64 0); have hcz69_1 := cz_ BK378 1 (.int .i64 0); have hcz69_2 := cz_ BK378 2 (.int .i64 0); have hfz69_0 := fz_ BK378 0; have hfz69_1 := fz_ BK378 1; have hfz69_2 := fz_ BK378 2) | ((with_reducible refine gate_callee (f := 84) rfl ?_); refine gl_ (some 74) Try.func84 #[.pointer (some ⟨g, 0, none⟩), .int .i64 4] ?_; (with_reducible refine (spec_l01Once.calls g s0_0 t376 t377 4 true t380 t381 w0 _ ?side1 ?side2 A47.out).mono ?_); (case side1 => exact is115_); (case side2 => exact bw115_); rintro e w70 ⟨rfl, hi, hb, hk⟩; refine ⟨_, rfl, ?_⟩; replace HO_353001 := Aside0.mk (Kd.R_mono (Kd.R_keep (IsS115.apart (show IsS115 w0 _ g s0_0 t376 t377 from is115_) (by (with_reducible repeat (first | apply Kd.R_alloc | apply Kd.R_drewN | apply Kd.R_drew)); exact (Kd.R_mono (Kd.R_far (p := ⟨gb378, 2, none⟩) (Kd.R_far (p := ⟨gb378, 1, none⟩) (Kd.R_far (p := ⟨gb378, 0, none⟩) (Kd.R_mono HO_353001.out (fun k_ hk => (⟨hk, hk.2⟩ : _ ∧ k_ ≠ gb378))) (fun _ hk => hk.2) (.int .i64 x369001_31)) (fun _ hk => hk.2) (.int .i64 x369000_31)) (fun _ hk => hk.2) (.int .i64 t365)) (fun _ h_ => h_.1))) (by decide)) hk (fun _ h => h.2)) (fun _ h => h.1)); replace BK351 := kc_ BK351 NB351_0 hk; replace BK352 := kc_ BK352 NB352_0 hk; replace BK368 := kc_ BK368 NB368_0 hk; replace HO374 := Aside0.mk (Kd.R_mono (Kd.R_keep (IsS115.apart (show IsS115 w0 _ g s0_0 t376 t377 from is115_) (by (with_reducible repeat (first | apply Kd.R_alloc | apply Kd.R_drewN | apply Kd.R_drew)); exact (Kd.R_mono (Kd.R_far (p := ⟨gb378, 2, none⟩) (Kd.R_far (p := ⟨gb378, 1, none⟩) (Kd.R_far (p := ⟨gb378, 0, none⟩) (Kd.R_mono HO374.out (fun k_ hk => (⟨hk, hk.2⟩ : _ ∧ k_ ≠ gb378))) (fun _ hk => hk.2) (.int .i64 x369001_31)) (fun _ hk => hk.2) (.int .i64 x369000_31)) (fun _ hk => hk.2) (.int .i64 t365)) (fun _ h_ => h_.1))) (by decide)) hk (fun _ h => h.2)) (fun _ h => h.1)); replace BK378 := Aside0.mk (KeepBut.blk hk (g' := gb378) (o := .cells #[.int .i64 x369001_31, .int .i64 x369000_31, .int .i64 t365] 76 (0, 0)) (by refine bd_ ?_; refine blk_put (cs := #[.int .i64 x369001_31, .int .i64 x369000_31, .int .i64 0]) ?_ 2 _ rfl; refine bd_ ?_; refine blk_put (cs := #[.int .i64 x369001_31, .int .i64 0, .int .i64 0]) ?_ 1 _ rfl; refine bd_ ?_; refine blk_put (cs := #[.int .i64 0, .int .i64 0, .int .i64 0]) ?_ 0 _ rfl; refine bd_ ?_; exact BK378.out) NB378_0.out (by simp)); replace HK := kt_ HK hk; replace HB := Aside0.mk (hb); replace HI0 := Aside0.mk (hi); (try clear hb); (try clear hb2); (try clear hk); (try clear hi)) | ((with_reducible refine gate_callee (f := 68) rfl ?_); refine gl_ (some 76) Try.func68 #[.pointer (some ⟨g, 0, none⟩), .int .i64 6] ?_; (with_reducible refine (spec_l01Below.calls g s0_0 t380 t381 6 t382 t383 t384 w0 _ ?side1 ?side2 A49.out).mono ?_); (case side1 => exact is115_); (case side2 => exact bw115_); rintro e w71 ⟨rfl, hi, hb, hk⟩; refine ⟨_, rfl, ?_⟩; replace HO_353001 := ak115_ HO_353001 (show IsS115 w0 _ g s0_0 t380 t381 from is115_) hk; replace BK351 := kb_ BK351 NB351_0 hk; replace BK352 := kb_ BK352 NB352_0 hk; replace BK368 := kb_ BK368 NB368_0 hk; replace HO374 := ak115_ HO374 (show IsS115 w0 _ g s0_0 t380 t381 from is115_) hk; replace BK378 := kb_ BK378 NB378_0 hk; replace HK := kt_ HK hk; replace HB := Aside0.mk (hb); replace HI0 := Aside0.mk (hi); (try clear hb); (try clear hb2); (try clear hk); (try clear hi); have hcz72_0 := cz_ BK378 0 (.int .i64 x369001_31); have hcz72_1 := cz_ BK378 1 (.int .i64 x369000_31); have hcz72_2 := cz_ BK378 2 (.int .i64 t365); have hfz72_0 := fz_ BK378 0; have hfz72_1 := fz_ BK378 1; have hfz72_2 := fz_ BK378 2; have hcz73_0 := cz_ BK352 0 (.int .i64 a1); have hcz73_1 := cz_ BK352 1 (.slice Ao60 t372.length co60); have hfz73_0 := fz_ BK352 0; have hfz73_1 := fz_ BK352 1) | ((with_reducible refine gate_callee (f := 98) rfl ?_); refine gl_ (some 82) Try.func98 #[.slice Ao60 t372.length co60, .agg #[.int .i64 x369001_31, .int .i64 x369000_31, .int .i64 (wrap64 (1 + t382))]] ?_; (with_reducible refine (spec_l03Put.calls kj31 _ _ t372 x369001_31 x369000_31 (wrap64 (1 + t382)) t385 _ ?side1 ?side2 A50.out).mono ?_); (case side1 => refine (Kd.R_reads' (e := 76) (base := w.heap.size) (ok := fun k_ => (((True ∧ some k_ ≠ (.slice Ao58 x353001_1.length co58 : Value).ownBlock) ∧ k_ ≠ gb368) ∧ k_ ≠ gb378)) (n := t372.length) (c := co60) ?_).2.2; exact (by (with_reducible repeat (first | apply Kd.R_alloc | apply Kd.R_drewN | apply Kd.R_drew)); exact (Kd.R_mono (Kd.R_far (p := ⟨gb378, 2, none⟩) (Kd.R_mono HO374.out (fun k_ hk => (⟨hk, hk.2⟩ : _ ∧ k_ ≠ gb378))) (fun _ hk => hk.2) (.int .i64 (wrap64 (1 + t382)))) (fun _ h_ => h_.1)))); (case side2 => exact (Kd.R_reads' HO374.out).2.1); rintro e w74 ⟨v386, rfl, ho0, hb⟩; refine ⟨_, rfl, ?_⟩; have HO387 := Aside0.mk (Kd.R_lower (Kd.R_newB (Kd.R_newB (Kd.R_new' (Kd.R_new' ho0 (Kd.R_lt (by (with_reducible repeat (first | apply Kd.R_alloc | apply Kd.R_drewN | apply Kd.R_drew)); exact (Kd.R_mono (Kd.R_far (p := ⟨gb378, 2, none⟩) (Kd.R_mono HO_353001.out (fun k_ hk => (⟨hk, hk.2⟩ : _ ∧ k_ ≠ gb378))) (fun _ hk => hk.2) (.int .i64 (wrap64 (1 + t382)))) (fun _ h_ => h_.1))))) (Kd.R_lt (by (with_reducible repeat (first | apply Kd.R_alloc | apply Kd.R_drewN | apply Kd.R_drew)); exact (Kd.R_mono (Kd.R_far (p := ⟨gb378, 2, none⟩) (Kd.R_mono HO374.out (fun k_ hk => (⟨hk, hk.2⟩ : _ ∧ k_ ≠ gb378))) (fun _ hk => hk.2) (.int .i64 (wrap64 (1 + t382)))) (fun _ h_ => h_.1))))) (g := gb368) (o := .cells #[.int .i64 x369000_31, .int .i64 x369001_31, .int .i64 t365] 76 (0, 0)) (bc_ BK368)) (g := gb378) (o := .cells #[.int .i64 x369001_31, .int .i64 x369000_31, .int .i64 (wrap64 (1 + t382))] 76 (0, 0)) (by refine bd_ ?_; refine blk_put (cs := #[.int .i64 x369001_31, .int .i64 x369000_31, .int .i64 t365]) ?_ 2 _ rfl; refine bd_ ?_; exact BK378.out)) (keep_size (w := w) (g := g) (row := none) (kx_ HK))); replace HO_353001 := Aside0.mk (Kd.R_elder' (by (with_reducible repeat (first | apply Kd.R_alloc | apply Kd.R_drewN | apply Kd.R_drew)); exact (Kd.R_mono (Kd.R_far (p := ⟨gb378, 2, none⟩) (Kd.R_mono HO_353001.out (fun k_ hk => (⟨hk, hk.2⟩ : _ ∧ k_ ≠ gb378))) (fun _ hk => hk.2) (.int .i64 (wrap64 (1 + t382)))) (fun _ h_ => h_.1))) (Kd.R_base ho0) hb); replace HO374 := Aside0.mk (Kd.R_elder' (by (with_reducible repeat (first | apply Kd.R_alloc | apply Kd.R_drewN | apply Kd.R_drew)); exact (Kd.R_mono (Kd.R_far (p := ⟨gb378, 2, none⟩) (Kd.R_mono HO374.out (fun k_ hk => (⟨hk, hk.2⟩ : _ ∧ k_ ≠ gb378))) (fun _ hk => hk.2) (.int .i64 (wrap64 (1 + t382)))) (fun _ h_ => h_.1))) (Kd.R_base ho0) hb); replace BK351 := bf_ BK351 NB351_378 hb; replace BK352 := bf_ BK352 NB352_378 hb; replace BK368 := bf_ BK368 NB368_378 hb; replace BK378 := Aside0.mk (blk_below (g := gb378) (o := .cells #[.int .i64 x369001_31, .int .i64 x369000_31, .int .i64 (wrap64 (1 + t382))] 76 (0, 0)) (by refine bd_ ?_; refine blk_put (cs := #[.int .i64 x369001_31, .int .i64 x369000_31, .int .i64 t365]) ?_ 2 _ rfl; refine bd_ ?_; exact BK378.out) hb); replace HK := kt_ HK (KeepBut.of_below hb g none); replace HB := bs115_ hb; replace HI0 := Aside0.mk (IsS115.below (show IsS115 w0 (w71.setCell ⟨gb378, 2, none⟩ (.int .i64 (wrap64 (1 + t382)))) g s0_0 t383 t384 from is115_) hb); (try clear hb); (try clear hb2); (try clear hk); (try clear hi); (try clear ho0); obtain ⟨Ao75, co75, eo75⟩ := Kd.R_slice HO387.out; subst eo75; have hcz76_0 := cz_ BK352 0 (.int .i64 a1); have hcz76_1 := cz_ BK352 1 (.slice Ao60 t372.length co60); have hfz76_0 := fz_ BK352 0; have hfz76_1 := fz_ BK352 1))
         go_roundg kj31
         case measure => have := HK1.out; have := HJ8.out; have := HJ15.out; have := HJ31.out; omega
         case rel => exact ⟨(wrap64 (x8_1 + 1)), (t383), (t384), (t385), (.slice Ao75 t385.length co75), er_, H', ⟨by have := HK1.out; have := HJ8.out; have := HJ15.out; have := HJ31.out; omega⟩, ⟨by (with_reducible repeat (first | apply Kd.R_alloc | apply Kd.R_drewN | apply Kd.R_drew)); exact Kd.R_mono (Kd.R_far (p := ⟨gb352, 1, none⟩) (Kd.R_types HO387.out BK352.out (by decide)) (fun _ hk => hk.2) (.slice Ao75 t385.length co75)) (fun _ hk => trivial)⟩, ⟨bc_ BK351⟩, ⟨by refine bd_ ?_; refine blk_put (cs := #[.int .i64 a1, .slice Ao60 t372.length co60]) ?_ 1 _ rfl; refine bd_ ?_; exact BK352.out⟩, ⟨is115_⟩, ⟨kx_ HK⟩, ⟨bw115_⟩⟩

end Go.Proofs.Ythmahcohcphljaa.QFnShares
