/- Contracts of functions that the law reaches: what each call returns and what it leaves in memory. Made by this session over the print of the kit. -/
import Derived.Test.YtjepmdngbafonaaQFnSqueezedx0
import Derived.Test.YtjepmdngbafonaaQFnSqueezedx3
import Derived.Test.YtjepmdngbafonaaQFnSqueezedx5
import Derived.Test.YtjepmdngbafonaaQFnSqueezedx6
import Derived.Test.YtjepmdngbafonaaQFnSqueezedx18
import Derived.Test.YtjepmdngbafonaaQFnSqueezedx19
import Derived.Test.YtjepmdngbafonaaQFnSqueezedx21
namespace Go.Proofs.Ytjepmdngbafonaa.QFnSqueezed
open Go.RowKit Go.Proofs.YtjepmdngbafonaaZ.PrintWords Go.Proofs.YtjepmdngbafonaaZ.PrintLast Go.Proofs.YtjepmdngbafonaaZ.PrintMore
attribute [local go_sem] max2_int min2_int max_two min_two max_three min_three max_four min_four   -- for this text's walks alone
set_option linter.unusedVariables false
set_option linter.unusedSimpArgs false
def ba22_0 := bs_ 9 0
def ba22_1 := bs_ 9 1
def ba22_2 := bs_ 9 3
def ba22_3 := bs_ 9 7
def ba22_4 := bs_ 9 23
def ba22_5 := bs_ 9 31
def ba22_6 := bs_ 9 63
def ba22_7 := bs_ 9 127
def ba22_8 := bs_ 9 255
def ba22_9 := bs_ 9 511

/-! ### slices_stableCmpFunc_impl_Route: function 111 -/
mutual
def slices_stableCmpFunc_impl_Route.l0 : Nat → List (S30) → Int → Int → Int → Int → Option ((List (S30)))
 | 0, _, _, _, _, _ => none
 | k + 1, x0, x1, x6, x7, x8 => if x8 ≤ x1 then ((slices_insertionSortCmpFunc_impl_Route.f k x0 x7 x8).bind fun t491 => (slices_stableCmpFunc_impl_Route.l0 k t491 x1 x6 x8 (wrap64 (x8 + x6)))) else ((slices_insertionSortCmpFunc_impl_Route.f k x0 x7 x1).bind fun t492 => (slices_stableCmpFunc_impl_Route.l1 k t492 x1 x6))
def slices_stableCmpFunc_impl_Route.l1 : Nat → List (S30) → Int → Int → Option ((List (S30)))
 | 0, _, _, _ => none
 | k + 1, x0, x1, x6 => if x6 < x1 then (slices_stableCmpFunc_impl_Route.l2 k x0 x1 x6 0 (wrap64 (2 * x6))) else (some x0)
def slices_stableCmpFunc_impl_Route.l2 : Nat → List (S30) → Int → Int → Int → Int → Option ((List (S30)))
 | 0, _, _, _, _, _ => none
 | k + 1, x0, x1, x6, x7, x8 => if x8 ≤ x1 then ((slices_symMergeCmpFunc_impl_Route.f k x0 x7 (wrap64 (x7 + x6)) x8).bind fun t493 => (slices_stableCmpFunc_impl_Route.l2 k t493 x1 x6 x8 (wrap64 (x8 + (wrap64 (2 * x6)))))) else (if (wrap64 (x7 + x6)) < x1 then ((slices_symMergeCmpFunc_impl_Route.f k x0 x7 (wrap64 (x7 + x6)) x1).bind fun t494 => (slices_stableCmpFunc_impl_Route.l1 k t494 x1 (wrap64 (x6 * 2)))) else (slices_stableCmpFunc_impl_Route.l1 k x0 x1 (wrap64 (x6 * 2))))
end
def slices_stableCmpFunc_impl_Route.f (k : Nat) (l0 : List (S30)) (a1 : Int)  : Option ((List (S30))) := slices_stableCmpFunc_impl_Route.l0 k l0 a1 20 0 20
set_option maxHeartbeats 8000000 in
set_option maxRecDepth 100000 in
theorem slices_stableCmpFunc_impl_Route.calls (k : Nat) (P0_ : Nat → Prop) (u9000_ : Value) (l0 : List (S30)) (a1 : Int)  (r : List (S30)) (w0 w : World) (hB : Below w0.heap.size w0 w) (ho0 : Kd.R k30 30 w w0.heap.size P0_ u9000_ l0) (h : slices_stableCmpFunc_impl_Route.f k l0 a1 = some r) :
  Calls Try.prog 111 #[u9000_, .int .i64 a1, .func (.func 101) #[] #[]] w fun e w' => e = .returned (.tuple #[]) ∧ Kd.R k30 30 w' w0.heap.size (fun k_ => (P0_ k_ ∨ w.heap.size ≤ k_)) u9000_ r ∧ Below w0.heap.size w0 w' ∧ Kept w w' (fun k_ => P0_ k_) := by
 have HO0 := Aside0.mk (show Kd.R k30 30 w w0.heap.size (fun k_ => (P0_ k_ ∨ w.heap.size ≤ k_)) u9000_ l0 from Kd.R_mono ho0 (fun k_ hk => (.inl hk)))
 have HK := Aside0.mk (Kept.refl w (fun k_ => P0_ k_))
 have HW0 := Aside0.mk hB.size
 have HB := Aside0.mk hB
 clear hB
 have H : (slices_stableCmpFunc_impl_Route.l0 k l0 a1 20 0 20) = some r := h
 clear h
 have H' := Aside0.mk H
 clear H
 go_enter Try.func111, Try.ntmps111
 go_wp2
 go_loopg [7, 8] k (fun kq v7 v8 w' => ∃ (x0_1 : List (S30)) (x7_1 : Int) (x8_1 : Int), v7 = .int .i64 x7_1 ∧ v8 = .int .i64 x8_1 ∧ Aside0 (slices_stableCmpFunc_impl_Route.l0 kq x0_1 a1 20 x7_1 x8_1 = some r) ∧ Aside0 (kq ≤ k) ∧ Aside0 (Kd.R k30 30 w' w0.heap.size (fun k_ => (P0_ k_ ∨ w.heap.size ≤ k_)) u9000_ x0_1) ∧ Aside0 (Kept w w' (fun k_ => P0_ k_)) ∧ Aside0 (Below w0.heap.size w0 w'))
 case atStart => exact ⟨(l0), (0), (20), er_, er_, H', ⟨Nat.le_refl _⟩, ⟨hd_ HO0⟩, ⟨ky_ HK⟩, ⟨bw112_⟩⟩
 case round =>
  clear H'
  obtain ⟨x0_1, x7_1, x8_1, rfl, rfl, HA, HK1, HO_0, HK, HB⟩ := hrel
  cases gk with
  | zero => exact absurd HA.out (by simp [slices_stableCmpFunc_impl_Route.l0])
  | succ k1 =>
   have H := HA.out
   clear HA
   simp only [slices_stableCmpFunc_impl_Route.l0] at H
   by_cases c4 : x8_1 ≤ a1
   ·rw [if_pos c4] at H
    have c4b0 : decide (x8_1 ≤ a1) = true := decide_eq_true c4
    clear c4
    obtain ⟨t491, A5, H⟩ := ob_ H
    have H' := Aside0.mk H
    clear H
    obtain ⟨Ao6, co6, eo6⟩ := Kd.R_slice HO_0.out
    subst eo6
    go_wp2_with ((with_reducible refine gate_callee (f := 125) rfl ?_); refine gl_ (some 18) Try.func125 #[.slice Ao6 x0_1.length co6, .int .i64 x7_1, .int .i64 x8_1, .func (.func 101) #[] #[]] ?_; (with_reducible refine (slices_insertionSortCmpFunc_impl_Route.calls k1 (fun k_ => some k_ = (.slice Ao6 x0_1.length co6 : Value).ownBlock) (.slice Ao6 x0_1.length co6) x0_1 x7_1 x8_1  t491 w0 _ ?side1 ?side2 A5.out).mono ?_); (case side1 => exact by_ HB); (case side2 => exact Kd.R_tight rfl HO_0.out); rintro e w7 ⟨rfl, hy0, hb, hkp⟩; refine ⟨_, rfl, ?_⟩; replace HK := Aside0.mk (Kept.then_ (S := (fun k_ => P0_ k_)) (ky_ HK) hkp (fun k_ hs_ => (fun e_ => (HO_0.out.1 k_ e_.symm)) hs_)); replace HO_0 := Aside0.mk (Kd.R_reok rfl hy0 (fun k_ e_ => HO_0.out.1 k_ e_)); replace HB := Aside0.mk (hb); clear hb hkp hy0)
    go_roundg k1
    case measure => have := HK1.out; omega
    case rel => exact ⟨(t491), (x8_1), (wrap64 (x8_1 + 20)), er_, er_, H', ⟨by have := HK1.out; omega⟩, ⟨hd_ HO_0⟩, ⟨ky_ HK⟩, ⟨bw112_⟩⟩
   rw [if_neg c4] at H
   have c4b0 : decide (x8_1 ≤ a1) = false := decide_eq_false c4
   clear c4
   obtain ⟨t492, A8, H⟩ := ob_ H
   have H' := Aside0.mk H
   clear H
   obtain ⟨Ao9, co9, eo9⟩ := Kd.R_slice HO_0.out
   subst eo9
   go_wp2_with ((with_reducible refine gate_callee (f := 125) rfl ?_); refine gl_ (some 27) Try.func125 #[.slice Ao9 x0_1.length co9, .int .i64 x7_1, .int .i64 a1, .func (.func 101) #[] #[]] ?_; (with_reducible refine (slices_insertionSortCmpFunc_impl_Route.calls k1 (fun k_ => some k_ = (.slice Ao9 x0_1.length co9 : Value).ownBlock) (.slice Ao9 x0_1.length co9) x0_1 x7_1 a1  t492 w0 _ ?side1 ?side2 A8.out).mono ?_); (case side1 => exact by_ HB); (case side2 => exact Kd.R_tight rfl HO_0.out); rintro e w10 ⟨rfl, hy0, hb, hkp⟩; refine ⟨_, rfl, ?_⟩; replace HK := Aside0.mk (Kept.then_ (S := (fun k_ => P0_ k_)) (ky_ HK) hkp (fun k_ hs_ => (fun e_ => (HO_0.out.1 k_ e_.symm)) hs_)); replace HO_0 := Aside0.mk (Kd.R_reok rfl hy0 (fun k_ e_ => HO_0.out.1 k_ e_)); replace HB := Aside0.mk (hb); clear hb hkp hy0)
   (try simp only [Act.put, List.setIfInBounds_toArray, List.set_cons_zero, List.set_cons_succ])
   go_loopg [6] k1 (fun kq v6 w' => ∃ (x0_2 : List (S30)) (x6_2 : Int), v6 = .int .i64 x6_2 ∧ Aside0 (slices_stableCmpFunc_impl_Route.l1 kq x0_2 a1 x6_2 = some r) ∧ Aside0 (kq ≤ k1) ∧ Aside0 (Kd.R k30 30 w' w0.heap.size (fun k_ => (P0_ k_ ∨ w.heap.size ≤ k_)) (.slice Ao9 x0_1.length co9) x0_2) ∧ Aside0 (Kept w w' (fun k_ => P0_ k_)) ∧ Aside0 (Below w0.heap.size w0 w'))
   case atStart => exact ⟨(t492), (20), er_, H', ⟨Nat.le_refl _⟩, ⟨hd_ HO_0⟩, ⟨ky_ HK⟩, ⟨bw112_⟩⟩
   case round =>
    clear H' c4b0
    obtain ⟨x0_2, x6_2, rfl, HA, HK2, HO_0, HK, HB⟩ := hrel
    have hl0_2 := (Kd.R_reads' HO_0.out).1
    rw [hl0_2] at HO_0
    (try simp only [hl0_2])
    cases gk with
    | zero => exact absurd HA.out (by simp [slices_stableCmpFunc_impl_Route.l1])
    | succ k2 =>
     have H := HA.out
     clear HA
     simp only [slices_stableCmpFunc_impl_Route.l1] at H
     by_cases c11 : x6_2 < a1
     rotate_left
     ·rw [if_neg c11] at H
      have c11b0 : decide (x6_2 < a1) = false := decide_eq_false c11
      clear c11
      obtain rfl := Option.some.inj H
      go_wp2
      first | go_end0 | ((try simp only [Exit.inBlock, Exit.then]); refine bodyPost_ret (results_none rfl _ _ _) rfl ?_)
      exact ⟨by first | rfl | (simp [errW_none, errW_some] <;> rfl) | (simp [*, errW_none, errW_some] <;> rfl), (by first | exact (hd_ HO_0) | (simp only [hl0_2]; exact (hd_ HO_0))), bw112_, ky_ HK⟩
     rw [if_pos c11] at H
     have c11b0 : decide (x6_2 < a1) = true := decide_eq_true c11
     clear c11
     have H' := Aside0.mk H
     clear H
     go_wp2
     go_loopg [7, 8] k2 (fun kq v7 v8 w' => ∃ (x0_3 : List (S30)) (x7_3 : Int) (x8_3 : Int), v7 = .int .i64 x7_3 ∧ v8 = .int .i64 x8_3 ∧ Aside0 (slices_stableCmpFunc_impl_Route.l2 kq x0_3 a1 x6_2 x7_3 x8_3 = some r) ∧ Aside0 (kq ≤ k2) ∧ Aside0 (Kd.R k30 30 w' w0.heap.size (fun k_ => (P0_ k_ ∨ w.heap.size ≤ k_)) (.slice Ao9 x0_2.length co9) x0_3) ∧ Aside0 (Kept w w' (fun k_ => P0_ k_)) ∧ Aside0 (Below w0.heap.size w0 w'))
     case atStart => exact ⟨(x0_2), (0), (wrap64 (2 * x6_2)), er_, er_, H', ⟨Nat.le_refl _⟩, ⟨by (try simp only [hl0_2]); (with_reducible repeat (first | apply Kd.R_alloc | apply Kd.R_drewN | apply Kd.R_drew)); exact HO_0.out⟩, ⟨ky_ HK⟩, ⟨bw112_⟩⟩
     case round =>
      clear H' c11b0
      obtain ⟨x0_3, x7_3, x8_3, rfl, rfl, HA, HK3, HO_0, HK, HB⟩ := hrel
      have hl0_3 := (Kd.R_reads' HO_0.out).1
      rw [hl0_3] at HO_0
      (try simp only [hl0_3])
      cases gk with
      | zero => exact absurd HA.out (by simp [slices_stableCmpFunc_impl_Route.l2])
      | succ k3 =>
       have H := HA.out
       clear HA
       simp only [slices_stableCmpFunc_impl_Route.l2] at H
       by_cases c12 : x8_3 ≤ a1
       ·rw [if_pos c12] at H
        have c12b0 : decide (x8_3 ≤ a1) = true := decide_eq_true c12
        clear c12
        obtain ⟨t493, A13, H⟩ := ob_ H
        have H' := Aside0.mk H
        clear H
        go_wp2_with ((with_reducible refine gate_callee (f := 126) rfl ?_); refine gl_ (some 43) Try.func126 #[.slice Ao9 x0_3.length co9, .int .i64 x7_3, .int .i64 (wrap64 (x7_3 + x6_2)), .int .i64 x8_3, .func (.func 101) #[] #[]] ?_; (with_reducible refine (slices_symMergeCmpFunc_impl_Route.calls k3 (fun k_ => some k_ = (.slice Ao9 x0_3.length co9 : Value).ownBlock) (.slice Ao9 x0_3.length co9) x0_3 x7_3 (wrap64 (x7_3 + x6_2)) x8_3  t493 w0 _ ?side1 ?side2 A13.out).mono ?_); (case side1 => exact by_ HB); (case side2 => exact Kd.R_tight rfl HO_0.out); rintro e w14 ⟨rfl, hy0, hb, hkp⟩; refine ⟨_, rfl, ?_⟩; replace HK := Aside0.mk (Kept.then_ (S := (fun k_ => P0_ k_)) (ky_ HK) hkp (fun k_ hs_ => (fun e_ => (HO_0.out.1 k_ e_.symm)) hs_)); replace HO_0 := Aside0.mk (Kd.R_reok rfl hy0 (fun k_ e_ => HO_0.out.1 k_ e_)); replace HB := Aside0.mk (hb); clear hb hkp hy0)
        (try simp only [← hl0_3])
        go_roundg k3
        case measure => have := HK1.out; have := HK2.out; have := HK3.out; omega
        case rel => exact ⟨(t493), (x8_3), (wrap64 (x8_3 + (wrap64 (2 * x6_2)))), er_, er_, H', ⟨by have := HK1.out; have := HK2.out; have := HK3.out; omega⟩, ⟨by (try simp only [hl0_2]); (try simp only [hl0_3]); (with_reducible repeat (first | apply Kd.R_alloc | apply Kd.R_drewN | apply Kd.R_drew)); exact HO_0.out⟩, ⟨ky_ HK⟩, ⟨bw112_⟩⟩
       rw [if_neg c12] at H
       have c12b0 : decide (x8_3 ≤ a1) = false := decide_eq_false c12
       clear c12
       by_cases c15 : (wrap64 (x7_3 + x6_2)) < a1
       rotate_left
       ·rw [if_neg c15] at H
        have c15b0 : decide ((wrap64 (x7_3 + x6_2)) < a1) = false := decide_eq_false c15
        clear c15
        have H' := Aside0.mk H
        clear H
        go_wp2
        (try simp only [← hl0_2, ← hl0_3])
        go_roundg k3
        case measure => have := HK1.out; have := HK2.out; have := HK3.out; omega
        case rel => exact ⟨(x0_3), (wrap64 (x6_2 * 2)), er_, H', ⟨by have := HK1.out; have := HK2.out; have := HK3.out; omega⟩, ⟨by (try simp only [hl0_2]); (try simp only [hl0_3]); (with_reducible repeat (first | apply Kd.R_alloc | apply Kd.R_drewN | apply Kd.R_drew)); exact HO_0.out⟩, ⟨ky_ HK⟩, ⟨bw112_⟩⟩
       rw [if_pos c15] at H
       have c15b0 : decide ((wrap64 (x7_3 + x6_2)) < a1) = true := decide_eq_true c15
       clear c15
       obtain ⟨t494, A16, H⟩ := ob_ H
       have H' := Aside0.mk H
       clear H
       go_wp2_with ((with_reducible refine gate_callee (f := 126) rfl ?_); refine gl_ (some 60) Try.func126 #[.slice Ao9 x0_3.length co9, .int .i64 x7_3, .int .i64 (wrap64 (x7_3 + x6_2)), .int .i64 a1, .func (.func 101) #[] #[]] ?_; (with_reducible refine (slices_symMergeCmpFunc_impl_Route.calls k3 (fun k_ => some k_ = (.slice Ao9 x0_3.length co9 : Value).ownBlock) (.slice Ao9 x0_3.length co9) x0_3 x7_3 (wrap64 (x7_3 + x6_2)) a1  t494 w0 _ ?side1 ?side2 A16.out).mono ?_); (case side1 => exact by_ HB); (case side2 => exact Kd.R_tight rfl HO_0.out); rintro e w17 ⟨rfl, hy0, hb, hkp⟩; refine ⟨_, rfl, ?_⟩; replace HK := Aside0.mk (Kept.then_ (S := (fun k_ => P0_ k_)) (ky_ HK) hkp (fun k_ hs_ => (fun e_ => (HO_0.out.1 k_ e_.symm)) hs_)); replace HO_0 := Aside0.mk (Kd.R_reok rfl hy0 (fun k_ e_ => HO_0.out.1 k_ e_)); replace HB := Aside0.mk (hb); clear hb hkp hy0)
       (try simp only [← hl0_2, ← hl0_3])
       go_roundg k3
       case measure => have := HK1.out; have := HK2.out; have := HK3.out; omega
       case rel => exact ⟨(t494), (wrap64 (x6_2 * 2)), er_, H', ⟨by have := HK1.out; have := HK2.out; have := HK3.out; omega⟩, ⟨by (try simp only [hl0_2]); (try simp only [hl0_3]); (with_reducible repeat (first | apply Kd.R_alloc | apply Kd.R_drewN | apply Kd.R_drew)); exact HO_0.out⟩, ⟨ky_ HK⟩, ⟨bw112_⟩⟩

/-! ### slices_SortStableFunc_impl_Route_impl_Route: function 100 -/
def slices_SortStableFunc_impl_Route_impl_Route.f (k : Nat) (l0 : List (S30))  : Option ((List (S30))) := (slices_stableCmpFunc_impl_Route.f k l0 (l0.length : Int)).bind fun t495 => (some t495)
set_option maxHeartbeats 8000000 in
set_option maxRecDepth 100000 in
theorem slices_SortStableFunc_impl_Route_impl_Route.calls (k : Nat) (P0_ : Nat → Prop) (u9000_ : Value) (l0 : List (S30))  (r : List (S30)) (w0 w : World) (hB : Below w0.heap.size w0 w) (ho0 : Kd.R k30 30 w w0.heap.size P0_ u9000_ l0) (h : slices_SortStableFunc_impl_Route_impl_Route.f k l0 = some r) :
  Calls Try.prog 100 #[u9000_, .func (.func 101) #[] #[]] w fun e w' => e = .returned (.tuple #[]) ∧ Kd.R k30 30 w' w0.heap.size (fun k_ => (P0_ k_ ∨ w.heap.size ≤ k_)) u9000_ r ∧ Below w0.heap.size w0 w' ∧ Kept w w' (fun k_ => P0_ k_) := by
 have HO0 := Aside0.mk (show Kd.R k30 30 w w0.heap.size (fun k_ => (P0_ k_ ∨ w.heap.size ≤ k_)) u9000_ l0 from Kd.R_mono ho0 (fun k_ hk => (.inl hk)))
 have HK := Aside0.mk (Kept.refl w (fun k_ => P0_ k_))
 have HW0 := Aside0.mk hB.size
 have HB := Aside0.mk hB
 clear hB
 have H : ((slices_stableCmpFunc_impl_Route.f k l0 (l0.length : Int)).bind fun t495 => (some t495)) = some r := h
 clear h
 obtain ⟨t495, A3, H⟩ := ob_ H
 obtain rfl := Option.some.inj H
 obtain ⟨Ao4, co4, eo4⟩ := Kd.R_slice HO0.out
 subst eo4
 go_enter Try.func100, Try.ntmps100
 go_wp2_with ((with_reducible refine gate_callee (f := 111) rfl ?_); refine gl_ (some 8) Try.func111 #[.slice Ao4 l0.length co4, .int .i64 (l0.length : Int), .func (.func 101) #[] #[]] ?_; (with_reducible refine (slices_stableCmpFunc_impl_Route.calls k (fun k_ => some k_ = (.slice Ao4 l0.length co4 : Value).ownBlock) (.slice Ao4 l0.length co4) l0 (l0.length : Int)  t495 w0 _ ?side1 ?side2 A3.out).mono ?_); (case side1 => exact by_ HB); (case side2 => exact Kd.R_tight rfl HO0.out); rintro e w5 ⟨rfl, hy0, hb, hkp⟩; refine ⟨_, rfl, ?_⟩; replace HK := Aside0.mk (Kept.then_ (S := (fun k_ => P0_ k_)) (ky_ HK) hkp (fun k_ hs_ => (fun e_ => (HO0.out.1 k_ e_.symm)) hs_)); replace HO0 := Aside0.mk (Kd.R_reok rfl hy0 (fun k_ e_ => HO0.out.1 k_ e_)); replace HB := Aside0.mk (hb); clear hb hkp hy0)
 first | go_end0 | ((try simp only [Exit.inBlock, Exit.then]); refine bodyPost_ret (results_none rfl _ _ _) rfl ?_)
 exact ⟨by first | rfl | (simp [errW_none, errW_some] <;> rfl) | (simp [*, errW_none, errW_some] <;> rfl), by (with_reducible repeat (first | apply Kd.R_alloc | apply Kd.R_drewN | apply Kd.R_drew)); exact HO0.out, bw112_, ky_ HK⟩

/-! ### impl_hopsOf: function 64 -/
mutual
def impl_hopsOf.l0 : Nat → List Int → List (S30) → Int → Int → Option (List Int)
 | 0, _, _, _, _ => none
 | k + 1, x3, x14, x15, x16 => if x16 < x15 then (if 0 ≤ x16 then (if x16 < (x14.length : Int) then (impl_hopsOf.l1 k x3 ((rd_T30 x14 x16).f0.f0) x14 x15 x16 ((rd_T30 x14 x16).f0.f0) ((rd_T30 x14 x16).f0.f1) ((rd_T30 x14 x16).f1)) else (none)) else (none)) else (some x3)
def impl_hopsOf.l1 : Nat → List Int → Int → List (S30) → Int → Int → Int → Int → Int → Option (List Int)
 | 0, _, _, _, _, _, _, _, _ => none
 | k + 1, x3, x7, x14, x15, x16, x508000, x508001, x508002 => (impl_Prefix_size.f x508000 x508001).bind fun t508 => (if x7 < (wrap64 (x508000 + t508)) then (if 0 ≤ x7 then (if x7 < (x3.length : Int) then (impl_hopsOf.l1 k (x3.set (x7 : Int).toNat x508002) (wrap64 (x7 + 1)) x14 x15 x16 x508000 x508001 x508002) else (none)) else (none)) else (impl_hopsOf.l0 k x3 x14 x15 (wrap64 (x16 + 1))))
end
def impl_hopsOf.f (k : Nat) (l0 : List (S30)) : Option (List Int) := (slices_Repeat_int_int.f (([(-1)] : List Int)) 65536).bind fun t499 => ((slices_Clone_impl_Route_impl_Route.f l0).bind fun t502 => ((slices_SortStableFunc_impl_Route_impl_Route.f k t502).bind fun t505 => (impl_hopsOf.l0 k t499 t505 (t502.length : Int) 0)))
def impl_hopsOf.T8 : Bool × List (List Nat × List Nat) := (true, [([], []), ([], []), ([1], [1]), ([2], [2]), ([], []), ([4], [4]), ([5], [5]), ([3, 6], [3, 6]), ([0, 7], [0, 7])])
def impl_hopsOf.B8 : List Nat := [0, 0, 2, 6, 0, 16, 48, 126, 255]
theorem impl_hopsOf.tab8 : rtab .any (opsOf Try.f64 8) = impl_hopsOf.T8 := by kernel_rfl
theorem impl_hopsOf.bits8 : waitsOk impl_hopsOf.T8.2 impl_hopsOf.B8 = true := by kernel_rfl
set_option maxHeartbeats 8000000 in
set_option maxRecDepth 100000 in
theorem impl_hopsOf.calls (k : Nat) (A0 : Option Addr) (c0 : Nat) (l0 : List (S30)) (r : List Int) (w : World) (hr0 : Kd.C k30 w A0 l0.length l0) (hc0 : l0.length ≤ c0) (h : impl_hopsOf.f k l0 = some r) :
  Calls Try.prog 64 #[.slice A0 l0.length c0] w fun e w' => ∃ v0_ : Value, e = .returned (v0_) ∧ Kd.R (Kd.int .i64) 3 w' w.heap.size (fun _ => True) v0_ r ∧ Below w.heap.size w w' := by
 have hu30 := Try.underlying30
 have hu28 := Try.underlying28
 have HR0 := Aside0.mk hr0
 have HC0 := Aside0.mk hc0
 clear hr0 hc0
 have HB := Aside0.mk (Below.refl w.heap.size w)
 have H : ((slices_Repeat_int_int.f (([(-1)] : List Int)) 65536).bind fun t499 => ((slices_Clone_impl_Route_impl_Route.f l0).bind fun t502 => ((slices_SortStableFunc_impl_Route_impl_Route.f k t502).bind fun t505 => (impl_hopsOf.l0 k t499 t505 (t502.length : Int) 0)))) = some r := h
 clear h
 obtain ⟨y496, hy496⟩ : ∃ y_ : List Int, y_ = (([(-1)] : List Int)) := ⟨_, rfl⟩
 replace H : ((slices_Repeat_int_int.f y496 65536).bind fun t499 => ((slices_Clone_impl_Route_impl_Route.f l0).bind fun t502 => ((slices_SortStableFunc_impl_Route_impl_Route.f k t502).bind fun t505 => (impl_hopsOf.l0 k t499 t505 (t502.length : Int) 0)))) = some r := by first | (rw [hy496]; with_reducible exact H) | (have H2_ := (Option.bind_some _ _).symm.trans H; rw [hy496]; with_reducible exact H2_) | (have H2_ := (Option.bind_some _ _).symm.trans H; with_reducible exact H2_) | with_reducible exact H | (rw [hy496]; exact H) | exact H
 have Ny496 := Aside0.mk hy496
 clear hy496
 obtain ⟨t499, A2, H⟩ := ob_ H
 obtain ⟨t502, A3, H⟩ := ob_ H
 obtain ⟨t505, A4, H⟩ := ob_ H
 have H' := Aside0.mk H
 clear H
 go_enter Try.func64, Try.ntmps64
 go_wp2_with (first | ((with_reducible refine gate_dst (N := 8) rfl ?_); refine Kd.R_lit (Kd.int .i64) _ 3 ?hg (N := 8) ?hd (xs := ([(-1)] : List Int)) (inner := [.int .i64 (-1)]) (ok := fun _ => True) (okp := fun _ => True) ?hr ?hp (fun _ hk => hk) trivial (Below.refl _ _) (Nat.le_refl _) (by simp) ?_; (case hd => rfl); (case hg => rfl); (case hr => first | (go_simp; done) | (go_simp; rfl)); (case hp => exact (Reps.one (show Kd.M (Kd.int .i64) _ _ _ (-1) [.int .i64 (-1)] from rfl) (Reps.none _ _))); intro v497 w5 ho6 hb hg_ hnew_; clear hg_ hnew_; (first | rw [← Ny496.out] at ho6 | (simp only [Int.reduceToNat] at ho6; rw [← Ny496.out] at ho6)); have HO498 := Aside0.mk (Kd.R_lower ho6 (bz_ HB)); replace HB := at_ HB hb; clear hb ho6; obtain ⟨Ao7, co7, eo7⟩ := Kd.R_slice HO498.out; subst eo7) | ((with_reducible refine gate_callee (f := 99) rfl ?_); refine gl_ (some 9) Try.func99 #[.slice Ao7 y496.length co7, .int .i64 65536] ?_; (with_reducible refine (slices_Repeat_int_int.calls _ _ y496 65536 t499 _ ?side1 ?side2 A2.out).mono ?_); (case side1 => exact rc_ HO498); (case side2 => exact (Kd.R_reads' HO498.out).2.1); rintro e w8 ⟨v500, rfl, ho0, hb⟩; refine ⟨_, rfl, ?_⟩; have HO501 := Aside0.mk (Kd.R_lower (Kd.R_new' ho0 (Kd.R_lt (hd_ HO498))) (bz_ HB)); replace HO498 := Aside0.mk (Kd.R_elder' (hd_ HO498) (Kd.R_base ho0) hb); replace HB := at_ HB hb; clear hb ho0) | ((with_reducible refine gate_callee (f := 89) rfl ?_); refine gl_ (some 11) Try.func89 #[.slice A0 l0.length c0] ?_; (with_reducible refine (slices_Clone_impl_Route_impl_Route.calls _ _ l0 t502 _ ?side1 ?side2 A3.out).mono ?_); (case side1 => exact cb_ HR0 HB); (case side2 => exact HC0.out); rintro e w9 ⟨v503, rfl, ho0, hb⟩; refine ⟨_, rfl, ?_⟩; have HO504 := Aside0.mk (Kd.R_lower ho0 (bz_ HB)); replace HO498 := rb_ HO498 hb; replace HO501 := rb_ HO501 hb; replace HB := at_ HB hb; clear hb ho0; obtain ⟨Ao10, co10, eo10⟩ := Kd.R_slice HO504.out; subst eo10) | ((with_reducible refine gate_callee (f := 100) rfl ?_); refine gl_ (some 13) Try.func100 #[.slice Ao10 t502.length co10, .func (.func 101) #[] #[]] ?_; (with_reducible refine (slices_SortStableFunc_impl_Route_impl_Route.calls k (fun k_ => some k_ = (.slice Ao10 t502.length co10 : Value).ownBlock) (.slice Ao10 t502.length co10) t502  t505 w _ ?side1 ?side2 A4.out).mono ?_); (case side1 => exact by_ HB); (case side2 => exact Kd.R_tight rfl HO504.out); rintro e w11 ⟨rfl, hy0, hb, hkp⟩; refine ⟨_, rfl, ?_⟩; replace HO498 := kp_ (fun k_ => some k_ ≠ (v500 : Value).ownBlock) ((Kd.R_apart' HO498.out (Kd.R_typed HO504.out) (by decide))) hkp; replace HO501 := kp_ (fun k_ => some k_ ≠ (.slice Ao7 y496.length co7 : Value).ownBlock) ((Kd.R_apart' HO501.out (Kd.R_typed HO504.out) (by decide))) hkp; replace HO504 := Aside0.mk (Kd.R_reok rfl hy0 (fun k_ e_ => HO504.out.1 k_ e_)); replace HB := Aside0.mk (hb); clear hb hkp hy0))
 (try simp only [Act.put, List.setIfInBounds_toArray, List.set_cons_zero, List.set_cons_succ])
 go_loopg [16] k (fun kq v16 w' => ∃ (x3_1 : List Int) (x16_1 : Int), v16 = .int .i64 x16_1 ∧ Aside0 (impl_hopsOf.l0 kq x3_1 t505 (t502.length : Int) x16_1 = some r) ∧ Aside0 (kq ≤ k) ∧ Aside0 (Kd.R (Kd.int .i64) 3 w' w.heap.size (fun _ => True) v500 x3_1) ∧ Aside0 (Kd.R k30 30 w' w.heap.size (fun _ => True) (.slice Ao10 t502.length co10) t505) ∧ Aside0 (Below w.heap.size w w'))
 case atStart => exact ⟨(t499), (0), er_, H', ⟨Nat.le_refl _⟩, ⟨by (with_reducible repeat (first | apply Kd.R_alloc | apply Kd.R_drewN | apply Kd.R_drew)); exact Kd.R_mono HO501.out (fun _ hk => trivial)⟩, ⟨hd_ HO504⟩, ⟨bw112_⟩⟩
 case round =>
  clear H'
  obtain ⟨x3_1, x16_1, rfl, HA, HK1, HO_3, HO_14, HB⟩ := hrel
  have hl14_1 := (Kd.R_reads' HO_14.out).1
  rw [hl14_1] at HO_14
  (try simp only [hl14_1])
  (try simp only [hl14_1] at HO_3)
  cases gk with
  | zero => exact absurd HA.out (by simp [impl_hopsOf.l0])
  | succ k1 =>
   have H := HA.out
   clear HA
   simp only [impl_hopsOf.l0] at H
   by_cases c12 : x16_1 < (t502.length : Int)
   rotate_left
   ·rw [if_neg c12] at H
    have c12b0 : decide (x16_1 < (t502.length : Int)) = false := decide_eq_false c12
    (try simp only [hl14_1] at c12b0)
    clear c12
    obtain rfl := Option.some.inj H
    go_wp2
    go_ret
    exact ⟨_, by first | rfl | (simp [errW_none, errW_some] <;> rfl) | (simp [*, errW_none, errW_some] <;> rfl), by (with_reducible repeat (first | apply Kd.R_alloc | apply Kd.R_drewN | apply Kd.R_drew)); exact HO_3.out, bw112_⟩
   rw [if_pos c12] at H
   have c12b0 : decide (x16_1 < (t502.length : Int)) = true := decide_eq_true c12
   clear c12
   obtain ⟨c13b0, H⟩ := iq_ H
   obtain ⟨c14b0, H⟩ := iq_ H
   have H' := Aside0.mk H
   clear H
   have p506 : 0 ≤ (x16_1 : Int) := oa_
   have q506 : x16_1 < (t505.length : Int) := oa_
   obtain ⟨ad506, e506, hx506_0, hx506_1, hx506_2⟩ := at_T30 (Kd.R_reads' HO_14.out).2.2 x16_1 p506 q506
   cases e506
   obtain ⟨p506, q506⟩ := et_ p506 q506
   go_wp2_with ((with_reducible refine gate_dst (N := 6) rfl ?_); refine be_ 6 #[.int .i64 0, .int .i64 0, .int .i64 0] 30 ?_; intro gb507 hg w15 BK507 hb; have GW507 := ge_ HB hg; have GE507 := ge_ HB hg; replace HO_3 := rb_ HO_3 hb; replace HO_14 := Aside0.mk (Kd.R_below (Kd.R_elderB (hd_ HO_14) gb507 (Nat.le_of_eq hg.symm)) hb); replace HB := at_ HB hb; clear hb hg; have hcz16_0 := cz_ BK507 0 (.int .i64 0); have hcz16_1 := cz_ BK507 1 (.int .i64 0); have hcz16_2 := cz_ BK507 2 (.int .i64 0); have hfz16_0 := fz_ BK507 0; have hfz16_1 := fz_ BK507 1; have hfz16_2 := fz_ BK507 2)
   go_loopg [7] k1 (fun kq v7 w' => ∃ (x3_2 : List Int) (x7_2 : Int), v7 = .int .i64 x7_2 ∧ Aside0 (impl_hopsOf.l1 kq x3_2 x7_2 t505 (t502.length : Int) x16_1 ((rd_T30 t505 x16_1).f0.f0) ((rd_T30 t505 x16_1).f0.f1) ((rd_T30 t505 x16_1).f1) = some r) ∧ Aside0 (kq ≤ k1) ∧ Aside0 (Kd.R (Kd.int .i64) 3 w' w.heap.size (fun _ => True) v500 x3_2) ∧ Aside0 (Kd.R k30 30 w' w.heap.size (fun k_ => k_ ≠ gb507) (.slice (some ad506) t505.length co10) t505) ∧ Aside0 (w'.heap[gb507]? = some (.cells #[.int .i64 ((rd_T30 t505 x16_1).f0.f0), .int .i64 ((rd_T30 t505 x16_1).f0.f1), .int .i64 ((rd_T30 t505 x16_1).f1)] 30 (0, 0))) ∧ Aside0 (Below w.heap.size w w'))
   case atStart => exact ⟨(x3_1), ((rd_T30 t505 x16_1).f0.f0), er_, H', ⟨Nat.le_refl _⟩, ⟨by (try simp only [hl14_1]); (with_reducible repeat (first | apply Kd.R_alloc | apply Kd.R_drewN | apply Kd.R_drew)); exact Kd.R_mono (Kd.R_far (Kd.R_far (Kd.R_far (Kd.R_types HO_3.out BK507.out (by decide)) (fun _ hk => hk.2) _) (fun _ hk => hk.2) _) (fun _ hk => hk.2) _) (fun _ hk => trivial)⟩, ⟨by (try simp only [hl14_1]); (with_reducible repeat (first | apply Kd.R_alloc | apply Kd.R_drewN | apply Kd.R_drew)); exact Kd.R_mono (Kd.R_far (Kd.R_far (Kd.R_far (Kd.R_mono HO_14.out (fun k_ hk => (⟨hk, hk.2⟩ : _ ∧ k_ ≠ gb507))) (fun _ hk => hk.2) _) (fun _ hk => hk.2) _) (fun _ hk => hk.2) _) (fun _ hk => hk.1.2)⟩, ⟨by (try simp only [hl14_1]); refine bd_ ?_; refine blk_put (cs := #[.int .i64 ((rd_T30 t505 x16_1).f0.f0), .int .i64 ((rd_T30 t505 x16_1).f0.f1), .int .i64 0]) ?_ 2 _ rfl; refine bd_ ?_; refine blk_put (cs := #[.int .i64 ((rd_T30 t505 x16_1).f0.f0), .int .i64 0, .int .i64 0]) ?_ 1 _ rfl; refine bd_ ?_; refine blk_put (cs := #[.int .i64 0, .int .i64 0, .int .i64 0]) ?_ 0 _ rfl; refine bd_ ?_; exact BK507.out⟩, ⟨bw112_⟩⟩
   case round =>
    clear H' c12b0 c13b0 c14b0 hcz16_0 hcz16_1 hcz16_2 hfz16_0 hfz16_1 hfz16_2 hx506_0 hx506_1 hx506_2 p506 q506
    obtain ⟨x3_2, x7_2, rfl, HA, HK2, HO_3, HO_14, BK507, HB⟩ := hrel
    cases gk with
    | zero => exact absurd HA.out (by simp [impl_hopsOf.l1])
    | succ k2 =>
     have H := HA.out
     clear HA
     simp only [impl_hopsOf.l1] at H
     obtain ⟨t508, A17, H⟩ := ob_ H
     by_cases c18 : x7_2 < (wrap64 (((rd_T30 t505 x16_1).f0.f0) + t508))
     rotate_left
     ·rw [if_neg c18] at H
      have c18b0 : decide (x7_2 < (wrap64 (((rd_T30 t505 x16_1).f0.f0) + t508))) = false := decide_eq_false c18
      clear c18
      have H' := Aside0.mk H
      clear H
      go_wp2
      replace HO_3 := Aside0.mk (Kd.R_drew HO_3.out)
      replace HO_14 := Aside0.mk (Kd.R_drew HO_14.out)
      replace BK507 := ad_ BK507
      replace HB := Aside0.mk (below_drew1 HB.out)
      refine start_ (n := 9) (S := fun w' => w'.cell? ⟨gb507, 0, none⟩ = some (.int .i64 ((rd_T30 t505 x16_1).f0.f0)) ∧ w'.cell? ⟨gb507, 1, none⟩ = some (.int .i64 ((rd_T30 t505 x16_1).f0.f1)) ∧ w'.cell? ⟨gb507, 2, none⟩ = some (.int .i64 ((rd_T30 t505 x16_1).f1))) (ds := []) ba22_0 (by kernel_rfl) rfl rfl ⟨bq5_ BK507 0, bq5_ BK507 1, bq5_ BK507 2⟩ (fun hHeld => ?_); refine with_tabW impl_hopsOf.tab8 impl_hopsOf.bits8 (fun HT_ HW_ => ?_)
      generalize wr.drew = w27 at HO_3 HO_14 BK507 HB hHeld ⊢
      refine pz_ 0 23 ba22_1 HT_ ?_
      refine pz_ 1 24 ba22_2 HT_ ?_
      refine pz_ 2 25 ba22_3 HT_ ?_
      refine pz_ 4 27 ba22_4 HT_ ?_
      refine pt_ 3 26 ba22_5 HT_ HW_ hHeld ?_
      refine pt_ 5 28 ba22_6 HT_ HW_ hHeld ?_
      refine on_ 6 (some 29) ba22_7 HT_ (fun K hK => ?_)
      refine gz_ Try.func69 #[.agg #[.int .i64 ((rd_T30 t505 x16_1).f0.f0), .int .i64 ((rd_T30 t505 x16_1).f0.f1)]] ?_
      with_reducible refine (impl_Prefix_size.calls ((rd_T30 t505 x16_1).f0.f0) ((rd_T30 t505 x16_1).f0.f1) t508 _ A17.out).mono ?_
      rintro e w28 ⟨rfl, hb⟩
      refine ⟨_, rfl, ?_⟩
      replace HO_3 := rb_ HO_3 hb
      replace HO_14 := rb_ HO_14 hb
      replace BK507 := ab_ BK507 hb
      replace HB := at_ HB hb
      clear hb
      refine hK.out _ _ ⟨bq5_ BK507 0, bq5_ BK507 1, bq5_ BK507 2⟩ (fun hHeld => ?_)
      clear hK K
      refine nz_ 29 ?_
      refine pz_ 7 30 ba22_8 HT_ ?_
      refine pz_ 8 31 ba22_9 HT_ ?_
      refine done_ (done_of HT_.out (by kernel_rfl)) ?_
      go_wp2
      (try simp only [← hl14_1])
      go_roundg k2
      case measure => have := HK1.out; have := HK2.out; omega
      case rel => exact ⟨(x3_2), (wrap64 (x16_1 + 1)), er_, H', ⟨by have := HK1.out; have := HK2.out; omega⟩, ⟨by (try simp only [hl14_1]); (with_reducible repeat (first | apply Kd.R_alloc | apply Kd.R_drewN | apply Kd.R_drew)); exact HO_3.out⟩, ⟨by (try simp only [hl14_1]); (with_reducible repeat (first | apply Kd.R_alloc | apply Kd.R_drewN | apply Kd.R_drew)); exact Kd.R_mono HO_14.out (fun _ hk => trivial)⟩, ⟨bw112_⟩⟩
     rw [if_pos c18] at H
     have c18b0 : decide (x7_2 < (wrap64 (((rd_T30 t505 x16_1).f0.f0) + t508))) = true := decide_eq_true c18
     clear c18
     obtain ⟨c19b0, H⟩ := iq_ H
     obtain ⟨c20b0, H⟩ := iq_ H
     obtain ⟨y509, hy509⟩ : ∃ y_ : List Int, y_ = (x3_2.set (x7_2 : Int).toNat ((rd_T30 t505 x16_1).f1)) := ⟨_, rfl⟩
     replace H : (impl_hopsOf.l1 k2 y509 (wrap64 (x7_2 + 1)) t505 (t502.length : Int) x16_1 ((rd_T30 t505 x16_1).f0.f0) ((rd_T30 t505 x16_1).f0.f1) ((rd_T30 t505 x16_1).f1)) = some r := by first | (rw [hy509]; with_reducible exact H) | (have H2_ := (Option.bind_some _ _).symm.trans H; rw [hy509]; with_reducible exact H2_) | (have H2_ := (Option.bind_some _ _).symm.trans H; with_reducible exact H2_) | with_reducible exact H | (rw [hy509]; exact H) | exact H
     have Ny509 := Aside0.mk hy509
     clear hy509
     have H' := Aside0.mk H
     clear H
     go_wp2
     replace HO_3 := Aside0.mk (Kd.R_drew HO_3.out)
     replace HO_14 := Aside0.mk (Kd.R_drew HO_14.out)
     replace BK507 := ad_ BK507
     replace HB := Aside0.mk (below_drew1 HB.out)
     refine start_ (n := 9) (S := fun w' => w'.cell? ⟨gb507, 0, none⟩ = some (.int .i64 ((rd_T30 t505 x16_1).f0.f0)) ∧ w'.cell? ⟨gb507, 1, none⟩ = some (.int .i64 ((rd_T30 t505 x16_1).f0.f1)) ∧ w'.cell? ⟨gb507, 2, none⟩ = some (.int .i64 ((rd_T30 t505 x16_1).f1))) (ds := []) ba22_0 (by kernel_rfl) rfl rfl ⟨bq5_ BK507 0, bq5_ BK507 1, bq5_ BK507 2⟩ (fun hHeld => ?_); refine with_tabW impl_hopsOf.tab8 impl_hopsOf.bits8 (fun HT_ HW_ => ?_)
     generalize wr.drew = w22 at HO_3 HO_14 BK507 HB hHeld ⊢
     refine pz_ 0 23 ba22_1 HT_ ?_
     refine pz_ 1 24 ba22_2 HT_ ?_
     refine pz_ 2 25 ba22_3 HT_ ?_
     refine pz_ 4 27 ba22_4 HT_ ?_
     refine pt_ 3 26 ba22_5 HT_ HW_ hHeld ?_
     refine pt_ 5 28 ba22_6 HT_ HW_ hHeld ?_
     refine on_ 6 (some 29) ba22_7 HT_ (fun K hK => ?_)
     refine gz_ Try.func69 #[.agg #[.int .i64 ((rd_T30 t505 x16_1).f0.f0), .int .i64 ((rd_T30 t505 x16_1).f0.f1)]] ?_
     with_reducible refine (impl_Prefix_size.calls ((rd_T30 t505 x16_1).f0.f0) ((rd_T30 t505 x16_1).f0.f1) t508 _ A17.out).mono ?_
     rintro e w23 ⟨rfl, hb⟩
     refine ⟨_, rfl, ?_⟩
     replace HO_3 := rb_ HO_3 hb
     replace HO_14 := rb_ HO_14 hb
     replace BK507 := ab_ BK507 hb
     replace HB := at_ HB hb
     clear hb
     refine hK.out _ _ ⟨bq5_ BK507 0, bq5_ BK507 1, bq5_ BK507 2⟩ (fun hHeld => ?_)
     clear hK K
     refine nz_ 29 ?_
     refine pz_ 7 30 ba22_8 HT_ ?_
     refine pz_ 8 31 ba22_9 HT_ ?_
     refine done_ (done_of HT_.out (by kernel_rfl)) ?_
     have hcz24_0 := cz_ BK507 0 (.int .i64 ((rd_T30 t505 x16_1).f0.f0))
     have hcz24_1 := cz_ BK507 1 (.int .i64 ((rd_T30 t505 x16_1).f0.f1))
     have hcz24_2 := cz_ BK507 2 (.int .i64 ((rd_T30 t505 x16_1).f1))
     have hfz24_0 := fz_ BK507 0
     have hfz24_1 := fz_ BK507 1
     have hfz24_2 := fz_ BK507 2
     have p21 : 0 ≤ (x7_2 : Int) := oa_
     have q21 : (x7_2 : Int) < ((x3_2.length : Int) : Int) := oa_
     obtain ⟨go21, co21, eo21, gb21, gl21, cl21, HG21⟩ := Kd.R_form HO_3.out (by omega)
     (first | cases eo21 | (injection eo21 with ea_ en_ ec_; (first | subst ea_ | (injection ea_ with ea_; subst ea_)); subst ec_; clear en_))
     have GB21 := Aside0.mk gb21
     have GG21 := Aside0.mk HG21
     clear gb21 gl21 HG21
     obtain ⟨hx21_0, hf21_0⟩ := Kd.R_celln 0 HO_3.out (x7_2 : Int) p21 q21
     obtain ⟨p21, q21⟩ := et_ p21 q21
     obtain ⟨hy25_, hz25_⟩ := Kd.R_celln 0 HO_3.out (x7_2 : Int) oa_ oa_
     have HP25 := Kd.R_putg HO_3.out (x7_2 : Int) ((rd_T30 t505 x16_1).f1)
     try go_wp2_with ((with_reducible refine gate_store (t := 3) (p := 38) rfl ?_); refine store_event (t := 3) (p := 38) (v := ?vo_w26) (w1 := (w23.setCell ⟨go21, (x7_2 : Int).toNat, none⟩ (.int .i64 ((rd_T30 t505 x16_1).f1)))) ?hg ?ho ?hn ?hr ?_; (case ho => rfl); (case hg => rfl); (case hn => rfl); (case hr => first | (go_simp; done) | (go_simp; rfl)); intro w26 hw; have hg : w23.grownBy w26 (some go21) := (by rw [hw]; exact HP25.2); have hp_ : Kd.R (Kd.int .i64) 3 w26 w.heap.size (fun _ => True) (.slice (some ⟨go21, 0, none⟩) x3_2.length co21) y509 := (by rw [hw, Ny509.out]; exact HP25.1); clear HP25; replace HO_14 := Aside0.mk (Kd.R_over' (v := (.slice (some ⟨go21, 0, none⟩) x3_2.length co21)) (hd_ HO_14) (Kd.R_typed HO_3.out) (by decide) hg); replace BK507 := Aside0.mk (blk_grown (g := gb507) (o := .cells #[.int .i64 ((rd_T30 t505 x16_1).f0.f0), .int .i64 ((rd_T30 t505 x16_1).f0.f1), .int .i64 ((rd_T30 t505 x16_1).f1)] 30 (0, 0)) (bx_ BK507) hg (Kd.R_ne HO_3.out BK507.out (by decide))); replace HO_3 := Aside0.mk (hp_); replace HB := Aside0.mk ((by rw [hw]; exact below_set (HB.out) GB21.out : Below w.heap.size w w26)); clear hg hw hp_)
     go_roundg k2
     case measure => have := HK1.out; have := HK2.out; omega
     case rel => exact ⟨(y509), (wrap64 (x7_2 + 1)), er_, H', ⟨by have := HK1.out; have := HK2.out; omega⟩, ⟨by (try simp only [hl14_1]); (with_reducible repeat (first | apply Kd.R_alloc | apply Kd.R_drewN | apply Kd.R_drew)); exact HO_3.out⟩, ⟨by (try simp only [hl14_1]); (with_reducible repeat (first | apply Kd.R_alloc | apply Kd.R_drewN | apply Kd.R_drew)); exact HO_14.out⟩, ⟨by (try simp only [hl14_1]); refine bd_ ?_; exact BK507.out⟩, ⟨bw112_⟩⟩

end Go.Proofs.Ytjepmdngbafonaa.QFnSqueezed
