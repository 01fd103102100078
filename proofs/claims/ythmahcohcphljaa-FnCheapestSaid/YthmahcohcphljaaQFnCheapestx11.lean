/- Contracts of functions that the law reaches: what each call returns and what it leaves in memory. Made by this session over the print of the kit. -/
import Derived.Test.YthmahcohcphljaaQFnCheapestx0
import Derived.Test.YthmahcohcphljaaQFnCheapestx7
import Derived.Test.YthmahcohcphljaaQFnCheapestx9
import Derived.Test.YthmahcohcphljaaQFnCheapestx10
namespace Go.Proofs.Ythmahcohcphljaa.QFnCheapest
open Go.RowKit Go.Proofs.YthmahcohcphljaaC.PrintWords Go.Proofs.YthmahcohcphljaaC.PrintLast Go.Proofs.YthmahcohcphljaaC.PrintMore
attribute [local go_sem] max2_int min2_int max_two min_two max_three min_three max_four min_four
set_option linter.unusedVariables false
set_option linter.unusedSimpArgs false
def ba11_0 := bs_ 4 0
def ba11_1 := bs_ 4 1
def ba11_2 := bs_ 4 5
def ba11_3 := bs_ 4 7
def ba11_4 := bs_ 4 15
def spec_l03Draw.j0 : Nat → List Int → Int → Int → Int → List (S76) → Option (Int × (List (S76)) × List Int × Int × Int)
 | 0, _, _, _, _, _ => none
 | k + 1, x335000, x335001, x335002, x349000, x349001 => (spec_l01Once.f x335000 x335001 x335002 20).bind fun bt358 => (if bt358.1 = true then ((spec_l03Bend.f x335000 bt358.2.1 bt358.2.2 x349000 x349001).bind fun bt361 => (some (bt361.1, bt361.2.1, x335000, bt361.2.2.1, bt361.2.2.2))) else (some (x349000, x349001, x335000, bt358.2.1, bt358.2.2)))
def spec_l03Draw.f (k : Nat) (l0 : List Int) : Option (Int × (List (S76)) × List Int × Int × Int) := (spec_l01New.f k l0).bind fun bt331 => ((spec_l01Size.f l0 9).bind fun t335 => ((spec_l01Below.f bt331.1 bt331.2.1 bt331.2.2 t335).bind fun bt336 => ((spec_l01Below.f bt331.1 bt336.2.1 bt336.2.2 (wrap64 ((wrap64 (3 * (wrap64 (1 + bt336.1)))) + 1))).bind fun bt339 => ((spec_l03DrawGraph.f k bt331.1 bt339.2.1 bt339.2.2 (wrap64 (1 + bt336.1)) bt339.1).bind fun bt342 => ((spec_l01Once.f bt331.1 bt342.2.2.1 bt342.2.2.2 25).bind fun bt349 => (if bt349.1 = true then ((spec_l03DrawGraph.f k bt331.1 bt349.2.1 bt349.2.2 10 50).bind fun bt352 => (spec_l03Draw.j0 k bt331.1 bt352.2.2.1 bt352.2.2.2 bt352.1 bt352.2.1)) else (spec_l03Draw.j0 k bt331.1 bt349.2.1 bt349.2.2 bt342.1 bt342.2.1)))))))
set_option maxHeartbeats 8000000 in
set_option maxRecDepth 100000 in
theorem spec_l03Draw.calls (k : Nat) (A0 : Option Addr) (c0 : Nat) (l0 : List Int) (r1 : Int) (r2 : List (S76)) (r3 : List Int) (r4 : Int) (r5 : Int) (w : World) (hr0 : Kd.C (Kd.int .u8) w A0 l0.length l0) (hc0 : l0.length ≤ c0) (h : spec_l03Draw.f k l0 = some (r1, r2, r3, r4, r5)) :
  Calls Try.prog 65 #[.slice A0 l0.length c0] w fun e w' => ∃ v1_ : Value, ∃ g_ : Nat, e = .returned (.tuple #[.pointer (some ⟨g_, 0, none⟩), .agg #[.int .i64 r1, v1_]]) ∧ Kd.R k76 76 w' w.heap.size (fun _ => True) v1_ r2 ∧ IsS115 w w' g_ r3 r4 r5 ∧ Below w.heap.size w w' := by
 have hu30 := Try.underlying30
 have HR0 := Aside0.mk hr0
 have HC0 := Aside0.mk hc0
 clear hr0 hc0
 have HB := Aside0.mk (Below.refl w.heap.size w)
 have H : ((spec_l01New.f k l0).bind fun bt331 => ((spec_l01Size.f l0 9).bind fun t335 => ((spec_l01Below.f bt331.1 bt331.2.1 bt331.2.2 t335).bind fun bt336 => ((spec_l01Below.f bt331.1 bt336.2.1 bt336.2.2 (wrap64 ((wrap64 (3 * (wrap64 (1 + bt336.1)))) + 1))).bind fun bt339 => ((spec_l03DrawGraph.f k bt331.1 bt339.2.1 bt339.2.2 (wrap64 (1 + bt336.1)) bt339.1).bind fun bt342 => ((spec_l01Once.f bt331.1 bt342.2.2.1 bt342.2.2.2 25).bind fun bt349 => (if bt349.1 = true then ((spec_l03DrawGraph.f k bt331.1 bt349.2.1 bt349.2.2 10 50).bind fun bt352 => (spec_l03Draw.j0 k bt331.1 bt352.2.2.1 bt352.2.2.2 bt352.1 bt352.2.1)) else (spec_l03Draw.j0 k bt331.1 bt349.2.1 bt349.2.2 bt342.1 bt342.2.1)))))))) = some (r1, r2, r3, r4, r5) := h
 clear h
 obtain ⟨⟨t331, t332, t333⟩, A2, H⟩ := ob_ H
 obtain ⟨t335, A3, H⟩ := ob_ H
 obtain ⟨⟨t336, t337, t338⟩, A4, H⟩ := ob_ H
 obtain ⟨⟨t339, t340, t341⟩, A5, H⟩ := ob_ H
 obtain ⟨⟨t342, t343, t346, t347⟩, A6, H⟩ := ob_ H
 obtain ⟨⟨t349, t350, t351⟩, A7, H⟩ := ob_ H
 have HC8 := Aside0.mk H
 clear H
 go_enter Try.func65, Try.ntmps65
 go_upto_if 23 with (first | ((with_reducible refine gate_dst (N := 3) rfl ?_); refine be_ 3 #[.int .i64 0, .slice none 0 0] 30 ?_; intro gb330 hg w9 BK330 hb; have GW330 := ge_ HB hg; have GE330 := ge_ HB hg; replace HB := at_ HB hb; clear hb hg) | ((with_reducible refine gate_callee (f := 81) rfl ?_); refine gl_ (some 8) Try.func81 #[.slice A0 l0.length c0] ?_; (with_reducible refine (spec_l01New.calls k _ _ l0 t331 t332 t333 w _ ?side1 ?side2 ?side3 A2.out).mono ?_); (case side1 => exact by_ HB); (case side2 => exact HR0.out); (case side3 => exact HC0.out); rintro e w10 ⟨g334, rfl, hi, hb, hb2⟩; refine ⟨_, rfl, ?_⟩; have HI334 := Aside0.mk hi; have NB334_330 := Aside0.mk (IsS115.ne_blk hi (blk_below (g := gb330) (o := .cells #[.int .i64 0, .slice none 0 0] 30 (0, 0)) (bx_ BK330) hb2) (by decide)); have NB330_334 := Aside0.mk (Ne.symm (IsS115.ne_blk hi (blk_below (g := gb330) (o := .cells #[.int .i64 0, .slice none 0 0] 30 (0, 0)) (bx_ BK330) hb2) (by decide))); replace HB := Aside0.mk (hb); replace BK330 := Aside0.mk (blk_below (g := gb330) (o := .cells #[.int .i64 0, .slice none 0 0] 30 (0, 0)) (bx_ BK330) hb2); clear hb hb2 hi) | ((with_reducible refine gate_callee (f := 82) rfl ?_); refine gl_ (some 11) Try.func82 #[.slice A0 l0.length c0, .int .i64 9] ?_; (with_reducible refine (spec_l01Size.calls _ _ l0 9 t335 _ ?side1 ?side2 A3.out).mono ?_); (case side1 => exact cb_ HR0 HB); (case side2 => exact HC0.out); rintro e w' ⟨rfl, ⟨nd, rfl⟩⟩; refine ⟨_, rfl, ?_⟩; (try (rw [drewN_self w10]; generalize hq_ : World.drewN w10 _ = w10; replace BK330 : Aside0 (w10.heap[gb330]? = some (.cells #[.int .i64 0, .slice none 0 0] 30 (0, 0))) := ⟨by rw [← hq_]; exact (bx_ BK330)⟩; replace HB : Aside0 (Below w.heap.size w w10) := ⟨by rw [← hq_]; exact (bw115_)⟩; replace HI334 : Aside0 (IsS115 w w10 g334 t331 t332 t333) := ⟨by rw [← hq_]; exact (is115_)⟩; clear hq_))) | ((with_reducible refine gate_callee (f := 68) rfl ?_); refine gl_ (some 12) Try.func68 #[.pointer (some ⟨g334, 0, none⟩), .int .i64 t335] ?_; (with_reducible refine (spec_l01Below.calls g334 t331 t332 t333 t335 t336 t337 t338 w _ ?side1 ?side2 A4.out).mono ?_); (case side1 => exact is115_); (case side2 => exact bw115_); rintro e w11 ⟨rfl, hi, hb, hk⟩; refine ⟨_, rfl, ?_⟩; replace BK330 := kb_ BK330 NB330_334 hk; replace HB := Aside0.mk (hb); replace HI334 := Aside0.mk (hi); clear hb hk hi) | ((with_reducible refine gate_callee (f := 68) rfl ?_); refine gl_ (some 20) Try.func68 #[.pointer (some ⟨g334, 0, none⟩), .int .i64 (wrap64 ((wrap64 (3 * (wrap64 (1 + t336)))) + 1))] ?_; (with_reducible refine (spec_l01Below.calls g334 t331 t337 t338 (wrap64 ((wrap64 (3 * (wrap64 (1 + t336)))) + 1)) t339 t340 t341 w _ ?side1 ?side2 A5.out).mono ?_); (case side1 => exact is115_); (case side2 => exact bw115_); rintro e w12 ⟨rfl, hi, hb, hk⟩; refine ⟨_, rfl, ?_⟩; replace BK330 := kb_ BK330 NB330_334 hk; replace HB := Aside0.mk (hb); replace HI334 := Aside0.mk (hi); clear hb hk hi) | ((with_reducible refine gate_callee (f := 83) rfl ?_); refine gl_ (some 21) Try.func83 #[.pointer (some ⟨g334, 0, none⟩), .int .i64 (wrap64 (1 + t336)), .int .i64 t339] ?_; (with_reducible refine (spec_l03DrawGraph.calls k g334 t331 t340 t341 (wrap64 (1 + t336)) t339 t342 t343 t346 t347 w _ ?side1 ?side2 A6.out).mono ?_); (case side1 => exact is115_); (case side2 => exact bw115_); rintro e w13 ⟨v344, rfl, ho0, hi, hb, hk⟩; refine ⟨_, rfl, ?_⟩; have HO345 := Aside0.mk (Kd.R_lower ho0 (below_size (bw115_))); replace BK330 := kb_ BK330 NB330_334 hk; replace HB := Aside0.mk (hb); replace HI334 := Aside0.mk (hi); clear hb hk hi ho0) | ((with_reducible refine gate_dst (N := 6) rfl ?_); refine be_ 6 #[.int .i64 0, .slice none 0 0] 30 ?_; intro gb348 hg w14 BK348 hb; have GW348 := Aside0.mk ((by rw [hg]; exact (below_size (bw115_)) : w.heap.size ≤ gb348)); have GE348 := Aside0.mk ((by rw [hg]; exact (below_size (bw115_)) : w.heap.size ≤ gb348)); have NB330_348 := nl_ BK330 hg; have NB348_330 := ng_ BK330 hg; have NB334_348 := Aside0.mk ((by rw [hg]; exact Nat.ne_of_lt (IsS115.lt (show IsS115 w _ g334 t331 t346 t347 from is115_)) : g334 ≠ gb348)); have NB348_334 := Aside0.mk ((by rw [hg]; exact Nat.ne_of_gt (IsS115.lt (show IsS115 w _ g334 t331 t346 t347 from is115_)) : gb348 ≠ g334)); replace HO345 := rb_ HO345 hb; replace HB := bs115_ hb; replace BK330 := ab_ BK330 hb; replace HI334 := Aside0.mk (IsS115.below is115_ hb); clear hb hg; have hnb15 := NB348_330.out; have hnc15 := NB330_348.out; have hnb16 := NB348_334.out; have hnc16 := NB334_348.out; have hcz17_0 := cz_ BK348 0 (.int .i64 0); have hcz17_1 := cz_ BK348 1 (.slice none 0 0); have hfz17_0 := fz_ BK348 0; have hfz17_1 := fz_ BK348 1; obtain ⟨Ao18, co18, eo18⟩ := Kd.R_slice HO345.out; subst eo18) | ((with_reducible refine gate_callee (f := 84) rfl ?_); refine gl_ (some 23) Try.func84 #[.pointer (some ⟨g334, 0, none⟩), .int .i64 25] ?_; (with_reducible refine (spec_l01Once.calls g334 t331 t346 t347 25 t349 t350 t351 w _ ?side1 ?side2 A7.out).mono ?_); (case side1 => exact is115_); (case side2 => exact bw115_); rintro e w19 ⟨rfl, hi, hb, hk⟩; refine ⟨_, rfl, ?_⟩; replace BK330 := kc_ BK330 NB330_334 hk; replace HO345 := Aside0.mk (Kd.R_mono (Kd.R_keep (IsS115.apart (show IsS115 w _ g334 t331 t346 t347 from is115_) (hs_ HO345 BK348) (by decide)) hk (fun _ h => h.2)) (fun _ h => h.1)); replace BK348 := Aside0.mk (KeepBut.blk hk (g' := gb348) (o := .cells #[.int .i64 t342, .slice Ao18 t343.length co18] 30 (0, 0)) (by refine bd_ ?_; refine blk_put (cs := #[.int .i64 t342, .slice none 0 0]) ?_ 1 _ rfl; refine bd_ ?_; refine blk_put (cs := #[.int .i64 0, .slice none 0 0]) ?_ 0 _ rfl; refine bd_ ?_; exact BK348.out) NB348_334.out (by simp)); replace HB := Aside0.mk (hb); replace HI334 := Aside0.mk (hi); clear hb hk hi))
 (try simp only [Act.put, List.setIfInBounds_toArray, List.set_cons_zero, List.set_cons_succ])
 go_cut [] (fun wc => ∃ (kq : Nat) (x335001_7 : Int) (x335002_7 : Int) (x349000_7 : Int) (x349001_7 : List (S76)) (u349001 : Value), Aside0 (spec_l03Draw.j0 kq t331 x335001_7 x335002_7 x349000_7 x349001_7 = some (r1, r2, r3, r4, r5)) ∧ Aside0 (kq ≤ k) ∧ Aside0 (Kd.R k76 76 wc w.heap.size (fun _ => True) u349001 x349001_7) ∧ Aside0 (wc.heap[gb330]? = some (.cells #[.int .i64 0, (.slice none 0 0)] 30 (0, 0))) ∧ Aside0 (wc.heap[gb348]? = some (.cells #[.int .i64 x349000_7, u349001] 30 (0, 0))) ∧ Aside0 (IsS115 w wc g334 t331 x335001_7 x335002_7) ∧ Aside0 (Below w.heap.size w wc))
 case first =>
  have H := HC8.out
  clear HC8
  by_cases c20 : t349 = true
  rotate_left
  ·replace c20 := Bool.eq_false_iff.mpr c20
   subst c20
   rw [if_neg (show ¬ (false = true) by decide)] at H
   have H' := Aside0.mk H
   clear H
   go_wp2
   go_meet
   case rel => exact ⟨_, (t350), (t351), (t342), (t343), (.slice Ao18 t343.length co18), H', ⟨by first | omega | exact Nat.le_refl _⟩, ⟨hd_ HO345⟩, ⟨bx_ BK330⟩, ⟨bx_ BK348⟩, ⟨is115_⟩, ⟨bw115_⟩⟩
  subst c20
  rw [if_pos rfl] at H
  obtain ⟨⟨t352, t353, t356, t357⟩, A21, H⟩ := ob_ H
  have H' := Aside0.mk H
  clear H
  go_wp2_with ((with_reducible refine gate_callee (f := 83) rfl ?_); refine gl_ (some 25) Try.func83 #[.pointer (some ⟨g334, 0, none⟩), .int .i64 10, .int .i64 50] ?_; (with_reducible refine (spec_l03DrawGraph.calls k g334 t331 t350 t351 10 50 t352 t353 t356 t357 w _ ?side1 ?side2 A21.out).mono ?_); (case side1 => exact is115_); (case side2 => exact bw115_); rintro e w22 ⟨v354, rfl, ho0, hi, hb, hk⟩; refine ⟨_, rfl, ?_⟩; have HO355 := Aside0.mk (Kd.R_lower (Kd.R_new' ho0 (Kd.R_lt (hd_ HO345))) (below_size (bw115_))); replace BK330 := kb_ BK330 NB330_334 hk; replace BK348 := kb_ BK348 NB348_334 hk; replace HO345 := Aside0.mk (Kd.R_mono (Kd.R_told (Kd.R_oldK (IsS115.apart (show IsS115 w _ g334 t331 t350 t351 from is115_) (hd_ HO345) (by decide)) hk) (Kd.R_base ho0)) (fun _ h_ => h_.1)); replace HB := Aside0.mk (hb); replace HI334 := Aside0.mk (hi); clear hb hk hi ho0; have hnb23 := NB348_330.out; have hnc23 := NB330_348.out; have hnb24 := NB348_334.out; have hnc24 := NB334_348.out; have hcz25_0 := cz_ BK348 0 (.int .i64 t342); have hcz25_1 := cz_ BK348 1 (.slice Ao18 t343.length co18); have hfz25_0 := fz_ BK348 0; have hfz25_1 := fz_ BK348 1; obtain ⟨Ao26, co26, eo26⟩ := Kd.R_slice HO355.out; subst eo26)
  go_meet
  case rel => exact ⟨_, (t356), (t357), (t352), (t353), (.slice Ao26 t353.length co26), H', ⟨by first | omega | exact Nat.le_refl _⟩, ⟨hq_ (Kd.R_mono (Kd.R_far (Kd.R_far (Kd.R_types HO355.out BK348.out (by decide)) (fun _ hk => hk.2) _) (fun _ hk => hk.2) _) (fun _ hk => trivial))⟩, ⟨bc_ BK330⟩, ⟨by refine bd_ ?_; refine blk_put (cs := #[.int .i64 t352, .slice Ao18 t343.length co18]) ?_ 1 _ rfl; refine bd_ ?_; refine blk_put (cs := #[.int .i64 t342, .slice Ao18 t343.length co18]) ?_ 0 _ rfl; refine bd_ ?_; exact BK348.out⟩, ⟨is115_⟩, ⟨bw115_⟩⟩
 clear HC8 hcz17_0 hcz17_1 hfz17_0 hfz17_1
 obtain ⟨kq, x335001_7, x335002_7, x349000_7, x349001_7, u349001, HA, HJ7, HO_349001, BK330, BK348, HI334, HB⟩ := hcut
 cases kq with
 | zero => exact absurd HA.out (by simp [spec_l03Draw.j0])
 | succ kj7 =>
  have H := HA.out
  clear HA
  simp only [spec_l03Draw.j0] at H
  obtain ⟨⟨t358, t359, t360⟩, A27, H⟩ := ob_ H
  by_cases c28 : t358 = true
  rotate_left
  ·replace c28 := Bool.eq_false_iff.mpr c28
   subst c28
   rw [if_neg (show ¬ (false = true) by decide)] at H
   simp only [Option.some.injEq, Prod.mk.injEq] at H
   obtain ⟨rfl, rfl, rfl, rfl, rfl⟩ := H
   try go_wp2_with ((with_reducible refine gate_callee (f := 84) rfl ?_); refine gl_ (some 27) Try.func84 #[.pointer (some ⟨g334, 0, none⟩), .int .i64 20] ?_; (with_reducible refine (spec_l01Once.calls g334 t331 x335001_7 x335002_7 20 false t359 t360 w _ ?side1 ?side2 A27.out).mono ?_); (case side1 => exact is115_); (case side2 => exact bw115_); rintro e w42 ⟨rfl, hi, hb, hk⟩; refine ⟨_, rfl, ?_⟩; replace HO_349001 := ak115_ HO_349001 (show IsS115 w _ g334 t331 x335001_7 x335002_7 from is115_) hk; replace BK330 := kb_ BK330 NB330_334 hk; replace BK348 := kb_ BK348 NB348_334 hk; replace HB := Aside0.mk (hb); replace HI334 := Aside0.mk (hi); clear hb hk hi)
   replace HO_349001 := rw5_ HO_349001
   replace BK330 := ad_ BK330
   replace BK348 := ad_ BK348
   replace HI334 := Aside0.mk (IsS115.drew HI334.out)
   replace HB := Aside0.mk (below_drew1 HB.out)
   obtain ⟨Ao45, co45, eo45⟩ := Kd.R_slice HO_349001.out
   subst eo45
   refine start_ (n := 4) (S := fun w' => w'.cell? ⟨gb348, 0, none⟩ = some (.int .i64 x349000_7) ∧ w'.cell? ⟨gb348, 1, none⟩ = some (.slice Ao45 x349001_7.length co45)) (ds := []) ba11_0 (by kernel_rfl) rfl rfl ⟨bq5_ BK348 0, bq5_ BK348 1⟩ (fun hHeld => ?_)
   generalize w42.drew = w43 at HO_349001 BK330 BK348 HI334 HB hHeld ⊢
   refine pure_ (i := 0) (N := some 31) (v := ?_) (a' := ?_) ba11_1 rfl rfl (by kernel_rfl) (fun _ _ _ h => h) (Or.inl ⟨by rfl, ?_⟩) ?_ ?_
   rotate_left; · intro w'; go_simp; with_reducible rfl
   rotate_left; · simp only [Act.put, List.setIfInBounds_toArray, List.set_cons_zero, List.set_cons_succ, i64_w, i32_w]; rfl
   refine pure_ (i := 2) (N := some 2) (v := ?_) (a' := ?_) ba11_2 rfl rfl (by kernel_rfl) (fun _ _ _ h => h) (Or.inl ⟨by rfl, ?_⟩) ?_ ?_
   rotate_left; · intro w'; go_simp; with_reducible rfl
   rotate_left; · simp only [Act.put, List.setIfInBounds_toArray, List.set_cons_zero, List.set_cons_succ, i64_w, i32_w]; rfl
   refine take_ (i := 1) (N := some 32) (v := ?_) (a' := ?_) ba11_3 rfl rfl (by kernel_rfl) (fun _ _ _ h => h) (Or.inl ⟨by rfl, ?_⟩) hHeld ?_ ?_
   rotate_left; · rintro w' ⟨s0, s1⟩; go_simp; with_reducible rfl
   rotate_left; · simp only [Act.put, List.setIfInBounds_toArray, List.set_cons_zero, List.set_cons_succ, i64_w, i32_w]; rfl
   refine one_ (i := 3) (N := none) ba11_4 rfl rfl (by kernel_rfl) (by decide) (fun K hK => ?_)
   have hs44 : w43.cell? ⟨gb330, 0, none⟩ = some (.int .i64 0) := bq5_ BK330 0
   have hfs44 := fz_ BK330 0
   have hns44_1 := NB348_330.out
   have hms44_1 := NB330_348.out
   have hs46 : w43.cell? ⟨gb330, 1, none⟩ = some (.slice none 0 0) := bq5_ BK330 1
   have hfs46 := fz_ BK330 1
   have hns46_1 := NB348_330.out
   have hms46_1 := NB330_348.out
   refine skip_ (w1 := ?_) (by rfl) rfl ?_ ?_
   rotate_left; · go_simp; rfl
   refine hK.out _ _ ⟨((cell_far (p := ⟨gb330, _, none⟩) NB348_330.out _).trans (((cell_far (p := ⟨gb330, _, none⟩) NB348_330.out _).trans (hHeld.1)))), ((cell_far (p := ⟨gb330, _, none⟩) NB348_330.out _).trans (((cell_far (p := ⟨gb330, _, none⟩) NB348_330.out _).trans (hHeld.2))))⟩ (fun hHeld => ?_)
   clear hK K
   refine done_ (by kernel_rfl) ?_
   go_wp2
   refine bodyPost_ret (results_tc rfl _ _ gb330 30 #[.int .i64 x349000_7, .slice Ao45 x349001_7.length co45] (0, 0) _ rfl (by refine bd_ ?_; refine blk_put (cs := #[.int .i64 x349000_7, .slice none 0 0]) ?_ 1 _ rfl; refine bd_ ?_; refine blk_put (cs := #[.int .i64 0, .slice none 0 0]) ?_ 0 _ rfl; refine bd_ ?_; exact BK330.out) Try.underlying30 rfl (by kernel_rfl)) rfl ?_
   exact ⟨_, _, ew_, by (with_reducible repeat (first | apply Kd.R_alloc | apply Kd.R_drewN | apply Kd.R_drew)); exact Kd.R_mono (Kd.R_far (Kd.R_far (Kd.R_types HO_349001.out BK330.out (by decide)) (fun _ hk => hk.2) _) (fun _ hk => hk.2) _) (fun _ hk => trivial), is115_, bw115_⟩
  subst c28
  rw [if_pos rfl] at H
  obtain ⟨⟨t361, t362, t365, t366⟩, A29, H⟩ := ob_ H
  simp only [Option.some.injEq, Prod.mk.injEq] at H
  obtain ⟨rfl, rfl, rfl, rfl, rfl⟩ := H
  try go_wp2_with (first | ((with_reducible refine gate_callee (f := 84) rfl ?_); refine gl_ (some 27) Try.func84 #[.pointer (some ⟨g334, 0, none⟩), .int .i64 20] ?_; (with_reducible refine (spec_l01Once.calls g334 t331 x335001_7 x335002_7 20 true t359 t360 w _ ?side1 ?side2 A27.out).mono ?_); (case side1 => exact is115_); (case side2 => exact bw115_); rintro e w30 ⟨rfl, hi, hb, hk⟩; refine ⟨_, rfl, ?_⟩; replace HO_349001 := ak115_ HO_349001 (show IsS115 w _ g334 t331 x335001_7 x335002_7 from is115_) hk; replace BK330 := kb_ BK330 NB330_334 hk; replace BK348 := kb_ BK348 NB348_334 hk; replace HB := Aside0.mk (hb); replace HI334 := Aside0.mk (hi); clear hb hk hi; have hnb31 := NB348_330.out; have hnc31 := NB330_348.out; have hnb32 := NB348_334.out; have hnc32 := NB334_348.out; have hcz33_0 := cz_ BK348 0 (.int .i64 x349000_7); have hcz33_1 := cz_ BK348 1 (u349001); have hfz33_0 := fz_ BK348 0; have hfz33_1 := fz_ BK348 1; obtain ⟨Ao34, co34, eo34⟩ := Kd.R_slice HO_349001.out; subst eo34) | ((with_reducible refine gate_callee (f := 85) rfl ?_); refine gl_ (some 30) Try.func85 #[.pointer (some ⟨g334, 0, none⟩), .agg #[.int .i64 x349000_7, .slice Ao34 x349001_7.length co34]] ?_; (with_reducible refine (spec_l03Bend.calls g334 t331 t359 t360 x349000_7 (fun k_ => some k_ = (.slice Ao34 x349001_7.length co34 : Value).ownBlock) (.slice Ao34 x349001_7.length co34) x349001_7 t361 t362 t365 t366 w _ ?side1 ?side2 ?side3 A29.out).mono ?_); (case side1 => exact is115_); (case side2 => exact bw115_); (case side3 => exact Kd.R_tight rfl HO_349001.out); rintro e w35 ⟨v363, rfl, ho0, hi, hb, hkp⟩; refine ⟨_, rfl, ?_⟩; have HO364 := Aside0.mk (Kd.R_mono (ok' := fun k_ => True) ho0 (fun k_ hk_ => trivial)); replace BK330 := bk_ BK330 hkp (fun hs_ => Or.elim hs_ (fun hs_ => (Kd.R_ne HO_349001.out BK330.out (by decide)) hs_) (fun e_ => NB330_334.out e_)); replace BK348 := bk_ BK348 hkp (fun hs_ => Or.elim hs_ (fun hs_ => (Kd.R_ne HO_349001.out BK348.out (by decide)) hs_) (fun e_ => NB348_334.out e_)); replace HI334 := Aside0.mk (hi); replace HB := Aside0.mk (hb); clear HO_349001 hb hkp ho0; have hcz36_0 := cz_ BK348 0 (.int .i64 x349000_7); have hcz36_1 := cz_ BK348 1 (.slice Ao34 x349001_7.length co34); have hfz36_0 := fz_ BK348 0; have hfz36_1 := fz_ BK348 1; obtain ⟨Ao37, co37, eo37⟩ := Kd.R_slice HO364.out; subst eo37))
  generalize hW_ : ((w35.setCell ⟨gb348, 0, none⟩ (.int .i64 t361)).setCell ⟨gb348, 1, none⟩ (.slice Ao37 t362.length co37)) = w38
  have n0_ : Aside0 (Kd.R k76 76 w38 w.heap.size (fun _ => True) (.slice Ao37 t362.length co37) t362) := by subst hW_; exact ⟨hq_ (Kd.R_mono (Kd.R_far (Kd.R_far (Kd.R_types HO364.out BK348.out (by decide)) (fun _ hk => hk.2) _) (fun _ hk => hk.2) _) (fun _ hk => trivial))⟩
  have n1_ : Aside0 (w38.heap[gb330]? = some (.cells #[.int .i64 0, .slice none 0 0] 30 (0, 0))) := by subst hW_; exact ⟨bc_ BK330⟩
  have n2_ : Aside0 (w38.heap[gb348]? = some (.cells #[.int .i64 t361, .slice Ao37 t362.length co37] 30 (0, 0))) := by subst hW_; exact ⟨by refine bd_ ?_; refine blk_put (cs := #[.int .i64 t361, .slice Ao34 x349001_7.length co34]) ?_ 1 _ rfl; refine bd_ ?_; refine blk_put (cs := #[.int .i64 x349000_7, .slice Ao34 x349001_7.length co34]) ?_ 0 _ rfl; refine bd_ ?_; exact BK348.out⟩
  have n3_ : Aside0 (IsS115 w w38 g334 t331 t365 t366) := by subst hW_; exact ⟨is115_⟩
  have n4_ : Aside0 (Below w.heap.size w w38) := by subst hW_; exact ⟨bw115_⟩
  clear hW_ HO364 BK330 BK348 HI334 HB
  have HO364 := n0_
  have BK330 := n1_
  have BK348 := n2_
  have HI334 := n3_
  have HB := n4_
  clear n0_ n1_ n2_ n3_ n4_
  replace HO364 := rw5_ HO364
  replace BK330 := ad_ BK330
  replace BK348 := ad_ BK348
  replace HI334 := Aside0.mk (IsS115.drew HI334.out)
  replace HB := Aside0.mk (below_drew1 HB.out)
  refine start_ (n := 4) (S := fun w' => w'.cell? ⟨gb348, 0, none⟩ = some (.int .i64 t361) ∧ w'.cell? ⟨gb348, 1, none⟩ = some (.slice Ao37 t362.length co37)) (ds := []) ba11_0 (by kernel_rfl) rfl rfl ⟨bq5_ BK348 0, bq5_ BK348 1⟩ (fun hHeld => ?_)
  generalize w38.drew = w39 at HO364 BK330 BK348 HI334 HB hHeld ⊢
  refine pure_ (i := 0) (N := some 31) (v := ?_) (a' := ?_) ba11_1 rfl rfl (by kernel_rfl) (fun _ _ _ h => h) (Or.inl ⟨by rfl, ?_⟩) ?_ ?_
  rotate_left; · intro w'; go_simp; with_reducible rfl
  rotate_left; · simp only [Act.put, List.setIfInBounds_toArray, List.set_cons_zero, List.set_cons_succ, i64_w, i32_w]; rfl
  refine pure_ (i := 2) (N := some 2) (v := ?_) (a' := ?_) ba11_2 rfl rfl (by kernel_rfl) (fun _ _ _ h => h) (Or.inl ⟨by rfl, ?_⟩) ?_ ?_
  rotate_left; · intro w'; go_simp; with_reducible rfl
  rotate_left; · simp only [Act.put, List.setIfInBounds_toArray, List.set_cons_zero, List.set_cons_succ, i64_w, i32_w]; rfl
  refine take_ (i := 1) (N := some 32) (v := ?_) (a' := ?_) ba11_3 rfl rfl (by kernel_rfl) (fun _ _ _ h => h) (Or.inl ⟨by rfl, ?_⟩) hHeld ?_ ?_
  rotate_left; · rintro w' ⟨s0, s1⟩; go_simp; with_reducible rfl
  rotate_left; · simp only [Act.put, List.setIfInBounds_toArray, List.set_cons_zero, List.set_cons_succ, i64_w, i32_w]; rfl
  refine one_ (i := 3) (N := none) ba11_4 rfl rfl (by kernel_rfl) (by decide) (fun K hK => ?_)
  have hs40 : w39.cell? ⟨gb330, 0, none⟩ = some (.int .i64 0) := bq5_ BK330 0
  have hfs40 := fz_ BK330 0
  have hns40_1 := NB348_330.out
  have hms40_1 := NB330_348.out
  have hs41 : w39.cell? ⟨gb330, 1, none⟩ = some (.slice none 0 0) := bq5_ BK330 1
  have hfs41 := fz_ BK330 1
  have hns41_1 := NB348_330.out
  have hms41_1 := NB330_348.out
  refine skip_ (w1 := ?_) (by rfl) rfl ?_ ?_
  rotate_left; · go_simp; rfl
  refine hK.out _ _ ⟨((cell_far (p := ⟨gb330, _, none⟩) NB348_330.out _).trans (((cell_far (p := ⟨gb330, _, none⟩) NB348_330.out _).trans (hHeld.1)))), ((cell_far (p := ⟨gb330, _, none⟩) NB348_330.out _).trans (((cell_far (p := ⟨gb330, _, none⟩) NB348_330.out _).trans (hHeld.2))))⟩ (fun hHeld => ?_)
  clear hK K
  refine done_ (by kernel_rfl) ?_
  go_wp2
  refine bodyPost_ret (results_tc rfl _ _ gb330 30 #[.int .i64 t361, .slice Ao37 t362.length co37] (0, 0) _ rfl (by refine bd_ ?_; refine blk_put (cs := #[.int .i64 t361, .slice none 0 0]) ?_ 1 _ rfl; refine bd_ ?_; refine blk_put (cs := #[.int .i64 0, .slice none 0 0]) ?_ 0 _ rfl; refine bd_ ?_; exact BK330.out) Try.underlying30 rfl (by kernel_rfl)) rfl ?_
  exact ⟨_, _, ew_, by (with_reducible repeat (first | apply Kd.R_alloc | apply Kd.R_drewN | apply Kd.R_drew)); exact Kd.R_mono (Kd.R_far (Kd.R_far (Kd.R_types HO364.out BK330.out (by decide)) (fun _ hk => hk.2) _) (fun _ hk => hk.2) _) (fun _ hk => trivial), is115_, bw115_⟩
def spec_l03DrawNode.j0 : Nat → Bool → List Int → Int → Int → Int → List (S76) → Option (Int × Int × Int)
 | 0, _, _, _, _, _, _ => none
 | k + 1, x12, x1000, x1001, x1002, x368000, x368001 => if x12 = true then ((spec_l01Below.f x1000 x1001 x1002 x368000).bind fun bt371 => (some (bt371.1, bt371.2.1, bt371.2.2))) else ((spec_l01PickInt.f x1000 x1001 x1002 (([(-1), x368000, 0] : List Int))).bind fun bt377 => (some (bt377.1, bt377.2.1, bt377.2.2)))
def spec_l03DrawNode.f (k : Nat) (s0_0 : List Int) (s0_1 : Int) (s0_2 : Int) (a1_0 : Int) (l1_1 : List (S76)) : Option (Int × Int × Int) := if a1_0 > 0 then ((spec_l01Once.f s0_0 s0_1 s0_2 15).bind fun bt368 => (spec_l03DrawNode.j0 k (!bt368.1) s0_0 bt368.2.1 bt368.2.2 a1_0 l1_1)) else (spec_l03DrawNode.j0 k false s0_0 s0_1 s0_2 a1_0 l1_1)
set_option maxHeartbeats 8000000 in
set_option maxRecDepth 100000 in
theorem spec_l03DrawNode.calls (k : Nat) (g : Nat) (s0_0 : List Int) (s0_1 : Int) (s0_2 : Int) (a1_0 : Int) (A1_1 : Option Addr) (c1_1 : Nat) (l1_1 : List (S76)) (r1 : Int) (r2 : Int) (r3 : Int) (w0 w : World) (hI : IsS115 w0 w g s0_0 s0_1 s0_2) (hB : Below w0.heap.size w0 w) (hr1_1 : ∀ W_, KeepBut w W_ g none → Kd.C k76 W_ A1_1 l1_1.length l1_1) (hc1_1 : l1_1.length ≤ c1_1) (h : spec_l03DrawNode.f k s0_0 s0_1 s0_2 a1_0 l1_1 = some (r1, r2, r3)) :
  Calls Try.prog 66 #[.pointer (some ⟨g, 0, none⟩), .agg #[.int .i64 a1_0, .slice A1_1 l1_1.length c1_1]] w fun e w' => e = .returned (.int .i64 r1) ∧ IsS115 w0 w' g s0_0 r2 r3 ∧ Below w0.heap.size w0 w' ∧ KeepBut w w' g none := by
 have hu30 := Try.underlying30
 have HR1_1 := Aside0.mk hr1_1
 have HC1_1 := Aside0.mk hc1_1
 clear hr1_1 hc1_1
 have HI0 := Aside0.mk hI
 have HK := Aside0.mk (KeepBut.refl w g none)
 have HL := Aside0.mk hB.size
 clear hI
 have HW0 := Aside0.mk hB.size
 have HB := Aside0.mk hB
 clear hB
 have H : (if a1_0 > 0 then ((spec_l01Once.f s0_0 s0_1 s0_2 15).bind fun bt368 => (spec_l03DrawNode.j0 k (!bt368.1) s0_0 bt368.2.1 bt368.2.2 a1_0 l1_1)) else (spec_l03DrawNode.j0 k false s0_0 s0_1 s0_2 a1_0 l1_1)) = some (r1, r2, r3) := h
 clear h
 have HC3 := Aside0.mk H
 clear H
 go_enter Try.func66, Try.ntmps66
 go_upto_region 1 with ((with_reducible refine gate_dst (N := 3) rfl ?_); refine be_ 3 #[.int .i64 a1_0, .slice A1_1 l1_1.length c1_1] 30 ?_; intro gb367 hg w4 BK367 hb; have GW367 := gw_ HK hg; have GE367 := gv_ HW0 HK hg; have NB0_367 := Aside0.mk ((by rw [hg]; exact Nat.ne_of_lt (IsS115.lt (show IsS115 w0 _ g s0_0 s0_1 s0_2 from is115_)) : g ≠ gb367)); have NB367_0 := Aside0.mk ((by rw [hg]; exact Nat.ne_of_gt (IsS115.lt (show IsS115 w0 _ g s0_0 s0_1 s0_2 from is115_)) : gb367 ≠ g)); replace HB := bs115_ hb; replace HK := kt_ HK (KeepBut.of_below hb g none); replace HI0 := Aside0.mk (IsS115.below is115_ hb); clear hb hg)
 (try simp only [Act.put, List.setIfInBounds_toArray, List.set_cons_zero, List.set_cons_succ])
 go_cut [12] (fun v12 wc => ∃ (kq : Nat) (x12_2 : Bool) (x1001_2 : Int) (x1002_2 : Int), v12 = .bool x12_2 ∧ Aside0 (spec_l03DrawNode.j0 kq x12_2 s0_0 x1001_2 x1002_2 a1_0 l1_1 = some (r1, r2, r3)) ∧ Aside0 (kq ≤ k) ∧ Aside0 (wc.heap[gb367]? = some (.cells #[.int .i64 a1_0, (.slice A1_1 l1_1.length c1_1)] 30 (0, 0))) ∧ Aside0 (IsS115 w0 wc g s0_0 x1001_2 x1002_2) ∧ Aside0 (KeepBut w wc g none) ∧ Aside0 (Below w0.heap.size w0 wc))
 case first =>
  have H := HC3.out
  clear HC3
  by_cases c5 : a1_0 > 0
  rotate_left
  ·rw [if_neg c5] at H
   have c5b0 : decide (0 < a1_0) = false := decide_eq_false c5
   clear c5
   (first | rw [c5b0] | (simp only [i64_w, i32_w]; rw [c5b0]) | skip)
   have H' := Aside0.mk H
   clear H
   have hnb10 := NB367_0.out
   have hnc10 := NB0_367.out
   have hcz11_0 := cz_ BK367 0 (.int .i64 a1_0)
   have hcz11_1 := cz_ BK367 1 (.slice A1_1 l1_1.length c1_1)
   have hfz11_0 := fz_ BK367 0
   have hfz11_1 := fz_ BK367 1
   go_wp2
   go_meet
   case rel => exact ⟨_, (false), (s0_1), (s0_2), er_, H', ⟨by first | omega | exact Nat.le_refl _⟩, ⟨bx_ BK367⟩, ⟨is115_⟩, ⟨kx_ HK⟩, ⟨bw115_⟩⟩
  rw [if_pos c5] at H
  have c5b0 : decide (0 < a1_0) = true := decide_eq_true c5
  clear c5
  (first | rw [c5b0] | (simp only [i64_w, i32_w]; rw [c5b0]) | skip)
  obtain ⟨⟨t368, t369, t370⟩, A6, H⟩ := ob_ H
  have H' := Aside0.mk H
  clear H
  have hnb7 := NB367_0.out
  have hnc7 := NB0_367.out
  have hcz8_0 := cz_ BK367 0 (.int .i64 a1_0)
  have hcz8_1 := cz_ BK367 1 (.slice A1_1 l1_1.length c1_1)
  have hfz8_0 := fz_ BK367 0
  have hfz8_1 := fz_ BK367 1
  go_wp2_with (go_at_call 84; (with_reducible refine (spec_l01Once.calls g s0_0 s0_1 s0_2 15 t368 t369 t370 w0 _ ?side1 ?side2 A6.out).mono ?_); (case side1 => exact is115_); (case side2 => exact bw115_); rintro e w9 ⟨rfl, hi, hb, hk⟩; replace BK367 := kb_ BK367 NB367_0 hk; replace HK := kt_ HK hk; replace HB := Aside0.mk (hb); replace HI0 := Aside0.mk (hi); clear hb hk hi)
  go_meet
  case rel => exact ⟨_, (!t368), (t369), (t370), er_, H', ⟨by first | omega | exact Nat.le_refl _⟩, ⟨bx_ BK367⟩, ⟨is115_⟩, ⟨kx_ HK⟩, ⟨bw115_⟩⟩
 clear HC3
 obtain ⟨kq, x12_2, x1001_2, x1002_2, rfl, HA, HJ2, BK367, HI0, HK, HB⟩ := hcut
 cases kq with
 | zero => exact absurd HA.out (by simp [spec_l03DrawNode.j0])
 | succ kj2 =>
  have H := HA.out
  clear HA
  simp only [spec_l03DrawNode.j0] at H
  by_cases c12 : x12_2 = true
  ·subst c12
   rw [if_pos rfl] at H
   obtain ⟨⟨t371, t372, t373⟩, A13, H⟩ := ob_ H
   simp only [Option.some.injEq, Prod.mk.injEq] at H
   obtain ⟨rfl, rfl, rfl⟩ := H
   have hnb14 := NB367_0.out
   have hnc14 := NB0_367.out
   have hcz15_0 := cz_ BK367 0 (.int .i64 a1_0)
   have hcz15_1 := cz_ BK367 1 (.slice A1_1 l1_1.length c1_1)
   have hfz15_0 := fz_ BK367 0
   have hfz15_1 := fz_ BK367 1
   go_wp2_with ((with_reducible refine gate_callee (f := 68) rfl ?_); refine gl_ (some 16) Try.func68 #[.pointer (some ⟨g, 0, none⟩), .int .i64 a1_0] ?_; (with_reducible refine (spec_l01Below.calls g s0_0 x1001_2 x1002_2 a1_0 t371 t372 t373 w0 _ ?side1 ?side2 A13.out).mono ?_); (case side1 => exact is115_); (case side2 => exact bw115_); rintro e w16 ⟨rfl, hi, hb, hk⟩; refine ⟨_, rfl, ?_⟩; replace BK367 := kb_ BK367 NB367_0 hk; replace HK := kt_ HK hk; replace HB := Aside0.mk (hb); replace HI0 := Aside0.mk (hi); clear hb hk hi)
   go_ret
   exact ⟨ew_, is115_, bw115_, kx_ HK⟩
  replace c12 := Bool.eq_false_iff.mpr c12
  subst c12
  rw [if_neg (show ¬ (false = true) by decide)] at H
  obtain ⟨y374, hy374⟩ : ∃ y_ : List Int, y_ = (([(-1), a1_0, 0] : List Int)) := ⟨_, rfl⟩
  replace H : ((spec_l01PickInt.f s0_0 x1001_2 x1002_2 y374).bind fun bt377 => (some (bt377.1, bt377.2.1, bt377.2.2))) = some (r1, r2, r3) := by first | (rw [hy374]; with_reducible exact H) | (have H2_ := (Option.bind_some _ _).symm.trans H; rw [hy374]; with_reducible exact H2_) | (have H2_ := (Option.bind_some _ _).symm.trans H; with_reducible exact H2_) | with_reducible exact H | (rw [hy374]; exact H) | exact H
  have Ny374 := Aside0.mk hy374
  clear hy374
  obtain ⟨⟨t377, t378, t379⟩, A17, H⟩ := ob_ H
  simp only [Option.some.injEq, Prod.mk.injEq] at H
  obtain ⟨rfl, rfl, rfl⟩ := H
  have hnb18 := NB367_0.out
  have hnc18 := NB0_367.out
  have hcz19_0 := cz_ BK367 0 (.int .i64 a1_0)
  have hcz19_1 := cz_ BK367 1 (.slice A1_1 l1_1.length c1_1)
  have hfz19_0 := fz_ BK367 0
  have hfz19_1 := fz_ BK367 1
  go_wp2_with (first | ((with_reducible refine gate_dst (N := 20) rfl ?_); refine Kd.R_lit (Kd.int .i64) _ 3 ?hg (N := 20) ?hd (xs := ([(-1), a1_0, 0] : List Int)) (inner := [.int .i64 (-1), .int .i64 a1_0, .int .i64 0]) (ok := fun _ => True) (okp := fun _ => True) ?hr ?hp (fun _ hk => hk) trivial (Below.refl _ _) (Nat.le_refl _) (by simp) ?_; (case hd => rfl); (case hg => rfl); (case hr => first | (go_simp; done) | (go_simp; rfl)); (case hp => exact (Reps.one (show Kd.M (Kd.int .i64) _ _ _ (-1) [.int .i64 (-1)] from rfl) (Reps.one (show Kd.M (Kd.int .i64) _ _ _ a1_0 [.int .i64 a1_0] from rfl) (Reps.one (show Kd.M (Kd.int .i64) _ _ _ 0 [.int .i64 0] from rfl) (Reps.none _ _))))); intro v375 w20 ho21 hb hg_ hnew_; clear hg_ hnew_; (first | rw [← Ny374.out] at ho21 | (simp only [Int.reduceToNat] at ho21; rw [← Ny374.out] at ho21)); have HO376 := Aside0.mk (Kd.R_lower ho21 (keep_size (w := w) (g := g) (row := none) (kx_ HK))); replace BK367 := ab_ BK367 hb; replace HK := kt_ HK (KeepBut.of_below hb g none); replace HB := bs115_ hb; replace HI0 := Aside0.mk (IsS115.below is115_ hb); clear hb ho21; obtain ⟨Ao22, co22, eo22⟩ := Kd.R_slice HO376.out; subst eo22) | ((with_reducible refine gate_callee (f := 67) rfl ?_); refine gl_ (some 21) Try.func67 #[.pointer (some ⟨g, 0, none⟩), .slice Ao22 y374.length co22] ?_; (with_reducible refine (spec_l01PickInt.calls g s0_0 x1001_2 x1002_2 _ _ y374 t377 t378 t379 w0 _ ?side1 ?side2 ?side3 ?side4 ?side5 A17.out).mono ?_); (case side1 => exact is115_); (case side2 => exact bw115_); (case side3 => exact rc_ HO376); (case side4 => exact (Kd.R_reads' HO376.out).2.1); (case side5 => exact far_slice (IsS115.own_ne HI0.out HO376.out (by decide))); rintro e w23 ⟨rfl, hi, hb, hk⟩; refine ⟨_, rfl, ?_⟩; replace BK367 := kb_ BK367 NB367_0 hk; replace HO376 := ak115_ HO376 (show IsS115 w0 _ g s0_0 x1001_2 x1002_2 from is115_) hk; replace HK := kt_ HK hk; replace HB := Aside0.mk (hb); replace HI0 := Aside0.mk (hi); clear hb hk hi))
  go_ret
  exact ⟨ew_, is115_, bw115_, kx_ HK⟩
end Go.Proofs.Ythmahcohcphljaa.QFnCheapest
