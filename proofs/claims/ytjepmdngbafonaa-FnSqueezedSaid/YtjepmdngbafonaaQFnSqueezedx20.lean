/- Contracts of functions that the law reaches: what each call returns and what it leaves in memory. Made by this session over the print of the kit. -/
import Derived.Test.YtjepmdngbafonaaQFnSqueezedx0
import Derived.Test.YtjepmdngbafonaaQFnSqueezedx6
namespace Go.Proofs.Ytjepmdngbafonaa.QFnSqueezed
open Go.RowKit Go.Proofs.YtjepmdngbafonaaZ.PrintWords Go.Proofs.YtjepmdngbafonaaZ.PrintLast Go.Proofs.YtjepmdngbafonaaZ.PrintMore
attribute [local go_sem] max2_int min2_int max_two min_two max_three min_three max_four min_four   -- for this text's walks alone
set_option linter.unusedVariables false
set_option linter.unusedSimpArgs false
def ba20_0 := bs_ 24 0
def ba20_1 := bs_ 24 1
def ba20_2 := bs_ 24 3
def ba20_3 := bs_ 24 7
def ba20_4 := bs_ 24 15
def ba20_5 := bs_ 24 31
def ba20_6 := bs_ 24 63
def ba20_7 := bs_ 24 127
def ba20_8 := bs_ 24 255
def ba20_9 := bs_ 24 511
def ba20_10 := bs_ 24 1023
def ba20_11 := bs_ 24 2047
def ba20_12 := bs_ 24 4095
def ba20_13 := bs_ 24 8191
def ba20_14 := bs_ 24 24575
def ba20_15 := bs_ 24 57343
def ba20_16 := bs_ 24 122879
def ba20_17 := bs_ 24 253951
def ba20_18 := bs_ 24 516095
def ba20_19 := bs_ 24 524287
def ba20_20 := bs_ 24 1048575
def ba20_21 := bs_ 24 2097151
def ba20_22 := bs_ 24 4194303
def ba20_23 := bs_ 24 8388607
def ba20_24 := bs_ 24 16777215

/-! ### slices_swapRangeCmpFunc_impl_Route: function 134 -/
def slices_swapRangeCmpFunc_impl_Route.l0 : Nat → List (S30) → Int → Int → Int → Int → Option ((List (S30)))
 | 0, _, _, _, _, _ => none
 | k + 1, x0, x1, x2, x3, x10 => if x10 < x3 then (if 0 ≤ (wrap64 (x2 + x10)) then (if (wrap64 (x2 + x10)) < (x0.length : Int) then (if 0 ≤ (wrap64 (x1 + x10)) then (if (wrap64 (x1 + x10)) < (x0.length : Int) then (slices_swapRangeCmpFunc_impl_Route.l0 k ((x0.set ((wrap64 (x1 + x10)) : Int).toNat (⟨(⟨(rd_T30 x0 (wrap64 (x2 + x10))).f0.f0, (rd_T30 x0 (wrap64 (x2 + x10))).f0.f1⟩ : S28), (rd_T30 x0 (wrap64 (x2 + x10))).f1⟩ : S30)).set ((wrap64 (x2 + x10)) : Int).toNat (⟨(⟨(rd_T30 x0 (wrap64 (x1 + x10))).f0.f0, (rd_T30 x0 (wrap64 (x1 + x10))).f0.f1⟩ : S28), (rd_T30 x0 (wrap64 (x1 + x10))).f1⟩ : S30)) x1 x2 x3 (wrap64 (x10 + 1))) else (none)) else (none)) else (none)) else (none)) else (some x0)
def slices_swapRangeCmpFunc_impl_Route.f (k : Nat) (l0 : List (S30)) (a1 : Int) (a2 : Int) (a3 : Int)  : Option ((List (S30))) := slices_swapRangeCmpFunc_impl_Route.l0 k l0 a1 a2 a3 0
def slices_swapRangeCmpFunc_impl_Route.T3 : Bool × List (List Nat × List Nat) := (true, [([], []), ([], []), ([], []), ([1, 2], [1, 2]), ([], []), ([], []), ([], []), ([5, 6], [5, 6]), ([], []), ([], []), ([], []), ([9, 10], [9, 10]), ([8, 11], [8, 11]), ([12], [12]), ([], []), ([], []), ([], []), ([15, 16], [15, 16]), ([14, 17], [14, 17]), ([18], [18]), ([0, 3, 0, 1, 2, 3, 8, 9, 10, 11, 12, 13, 19], [0, 3]), ([20, 13, 0, 1, 2, 3, 8, 9, 10, 11, 12, 13, 19], [13, 20]), ([4, 7, 0, 1, 2, 3, 4, 5, 6, 7, 8, 9, 10, 11, 12, 13, 14, 15, 16, 17, 18, 19, 20, 21], [4, 7]), ([22, 19, 21, 0, 1, 2, 3, 4, 5, 6, 7, 8, 9, 10, 11, 12, 13, 14, 15, 16, 17, 18, 19, 20, 21], [19, 22])])
def slices_swapRangeCmpFunc_impl_Route.B3 : List Nat := [0, 0, 0, 6, 0, 0, 0, 96, 0, 0, 0, 1536, 3840, 7936, 0, 0, 0, 98304, 245760, 507904, 1048335, 2096911, 4194303, 8388607]
theorem slices_swapRangeCmpFunc_impl_Route.tab3 : rtab .any (opsOf Try.f134 3) = slices_swapRangeCmpFunc_impl_Route.T3 := by kernel_rfl
theorem slices_swapRangeCmpFunc_impl_Route.bits3 : waitsOk slices_swapRangeCmpFunc_impl_Route.T3.2 slices_swapRangeCmpFunc_impl_Route.B3 = true := by kernel_rfl
set_option maxHeartbeats 8000000 in
set_option maxRecDepth 100000 in
theorem slices_swapRangeCmpFunc_impl_Route.calls (k : Nat) (P0_ : Nat → Prop) (u9000_ : Value) (l0 : List (S30)) (a1 : Int) (a2 : Int) (a3 : Int)  (r : List (S30)) (w0 w : World) (hB : Below w0.heap.size w0 w) (ho0 : Kd.R k30 30 w w0.heap.size P0_ u9000_ l0) (h : slices_swapRangeCmpFunc_impl_Route.f k l0 a1 a2 a3 = some r) :
  Calls Try.prog 134 #[u9000_, .int .i64 a1, .int .i64 a2, .int .i64 a3, .func (.func 101) #[] #[]] w fun e w' => e = .returned (.tuple #[]) ∧ Kd.R k30 30 w' w0.heap.size (fun k_ => (P0_ k_ ∨ w.heap.size ≤ k_)) u9000_ r ∧ Below w0.heap.size w0 w' ∧ Kept w w' (fun k_ => P0_ k_) := by
 have hu30 := Try.underlying30
 have HO0 := Aside0.mk (show Kd.R k30 30 w w0.heap.size (fun k_ => (P0_ k_ ∨ w.heap.size ≤ k_)) u9000_ l0 from Kd.R_mono ho0 (fun k_ hk => (.inl hk)))
 have HK := Aside0.mk (Kept.refl w (fun k_ => P0_ k_))
 have HW0 := Aside0.mk hB.size
 have HB := Aside0.mk hB
 clear hB
 have H : (slices_swapRangeCmpFunc_impl_Route.l0 k l0 a1 a2 a3 0) = some r := h
 clear h
 have H' := Aside0.mk H
 clear H
 go_enter Try.func134, Try.ntmps134
 go_wp2
 go_loopg [10] k (fun kq v10 w' => ∃ (x0_1 : List (S30)) (x10_1 : Int), v10 = .int .i64 x10_1 ∧ Aside0 (slices_swapRangeCmpFunc_impl_Route.l0 kq x0_1 a1 a2 a3 x10_1 = some r) ∧ Aside0 (kq ≤ k) ∧ Aside0 (Kd.R k30 30 w' w0.heap.size (fun k_ => (P0_ k_ ∨ w.heap.size ≤ k_)) u9000_ x0_1) ∧ Aside0 (Kept w w' (fun k_ => P0_ k_)) ∧ Aside0 (Below w0.heap.size w0 w'))
 case atStart => exact ⟨(l0), (0), er_, H', ⟨Nat.le_refl _⟩, ⟨hd_ HO0⟩, ⟨ky_ HK⟩, ⟨bw112_⟩⟩
 case round =>
  clear H'
  obtain ⟨x0_1, x10_1, rfl, HA, HK1, HO_0, HK, HB⟩ := hrel
  cases gk with
  | zero => exact absurd HA.out (by simp [slices_swapRangeCmpFunc_impl_Route.l0])
  | succ k1 =>
   have H := HA.out
   clear HA
   simp only [slices_swapRangeCmpFunc_impl_Route.l0] at H
   by_cases c6 : x10_1 < a3
   rotate_left
   ·rw [if_neg c6] at H
    have c6b0 : decide (x10_1 < a3) = false := decide_eq_false c6
    clear c6
    obtain rfl := Option.some.inj H
    go_wp2
    first | go_end0 | ((try simp only [Exit.inBlock, Exit.then]); refine bodyPost_ret (results_none rfl _ _ _) rfl ?_)
    exact ⟨by first | rfl | (simp [errW_none, errW_some] <;> rfl) | (simp [*, errW_none, errW_some] <;> rfl), by (with_reducible repeat (first | apply Kd.R_alloc | apply Kd.R_drewN | apply Kd.R_drew)); exact HO_0.out, bw112_, ky_ HK⟩
   rw [if_pos c6] at H
   have c6b0 : decide (x10_1 < a3) = true := decide_eq_true c6
   clear c6
   obtain ⟨ji7, hji7⟩ : ∃ j_ : Int, (wrap64 (a2 + x10_1)) = j_ := ⟨_, rfl⟩
   first | rw [hji7] at H | simp only [hji7] at H
   have hji7w : (IntKind.i64.wrap (a2 + x10_1)) = ji7 := (i64_w _).trans hji7
   obtain ⟨c8b0, H⟩ := iq_ H
   obtain ⟨c9b0, H⟩ := iq_ H
   obtain ⟨ji10, hji10⟩ : ∃ j_ : Int, (wrap64 (a1 + x10_1)) = j_ := ⟨_, rfl⟩
   first | rw [hji10] at H | simp only [hji10] at H
   have hji10w : (IntKind.i64.wrap (a1 + x10_1)) = ji10 := (i64_w _).trans hji10
   obtain ⟨c11b0, H⟩ := iq_ H
   obtain ⟨c12b0, H⟩ := iq_ H
   obtain ⟨y465, hy465⟩ : ∃ y_ : List (S30), y_ = (x0_1.set ((ji10) : Int).toNat (⟨(⟨(rd_T30 x0_1 (ji7)).f0.f0, (rd_T30 x0_1 (ji7)).f0.f1⟩ : S28), (rd_T30 x0_1 (ji7)).f1⟩ : S30)) := ⟨_, rfl⟩
   replace H : (slices_swapRangeCmpFunc_impl_Route.l0 k1 (y465.set ((ji7) : Int).toNat (⟨(⟨(rd_T30 x0_1 (ji10)).f0.f0, (rd_T30 x0_1 (ji10)).f0.f1⟩ : S28), (rd_T30 x0_1 (ji10)).f1⟩ : S30)) a1 a2 a3 (wrap64 (x10_1 + 1))) = some r := by first | (rw [hy465]; with_reducible exact H) | (have H2_ := (Option.bind_some _ _).symm.trans H; rw [hy465]; with_reducible exact H2_) | (have H2_ := (Option.bind_some _ _).symm.trans H; with_reducible exact H2_) | with_reducible exact H | (rw [hy465]; exact H) | exact H
   have Ny465 := Aside0.mk hy465
   clear hy465
   obtain ⟨y466, hy466⟩ : ∃ y_ : List (S30), y_ = (y465.set ((ji7) : Int).toNat (⟨(⟨(rd_T30 x0_1 (ji10)).f0.f0, (rd_T30 x0_1 (ji10)).f0.f1⟩ : S28), (rd_T30 x0_1 (ji10)).f1⟩ : S30)) := ⟨_, rfl⟩
   replace H : (slices_swapRangeCmpFunc_impl_Route.l0 k1 y466 a1 a2 a3 (wrap64 (x10_1 + 1))) = some r := by first | (rw [hy466]; with_reducible exact H) | (have H2_ := (Option.bind_some _ _).symm.trans H; rw [hy466]; with_reducible exact H2_) | (have H2_ := (Option.bind_some _ _).symm.trans H; with_reducible exact H2_) | with_reducible exact H | (rw [hy466]; exact H) | exact H
   have Ny466 := Aside0.mk hy466
   clear hy466
   have H' := Aside0.mk H
   clear H
   go_wp2
   replace HO_0 := Aside0.mk (Kd.R_drew HO_0.out)
   replace HK := Aside0.mk (Kept.drew HK.out)
   replace HB := Aside0.mk (below_drew1 HB.out)
   obtain ⟨Ao16, co16, eo16⟩ := Kd.R_slice HO_0.out
   subst eo16
   have p463 : 0 ≤ ((ji7) : Int) := oa_
   have q463 : (ji7) < (x0_1.length : Int) := oa_
   obtain ⟨ad463, e463, hx463_0, hx463_1, hx463_2⟩ := at_T30 (Kd.R_reads' HO_0.out).2.2 (ji7) p463 q463
   cases e463
   obtain ⟨p463, q463⟩ := et_ p463 q463
   have p464 : 0 ≤ ((ji10) : Int) := oa_
   have q464 : (ji10) < (x0_1.length : Int) := oa_
   obtain ⟨ad464, e464, hx464_0, hx464_1, hx464_2⟩ := at_T30 (Kd.R_reads' HO_0.out).2.2 (ji10) p464 q464
   obtain rfl : ad463 = ad464 := (by injection e464)
   obtain ⟨p464, q464⟩ := et_ p464 q464
   have p13 : 0 ≤ ((ji10) : Int) := oa_
   have q13 : ((ji10) : Int) < ((x0_1.length : Int) : Int) := oa_
   obtain ⟨go13, co13, eo13, gb13, gl13, cl13, HG13⟩ := Kd.R_form HO_0.out (by omega)
   (first | cases eo13 | (injection eo13 with ea_ en_ ec_; (first | subst ea_ | (injection ea_ with ea_; subst ea_)); subst ec_; clear en_))
   have GB13 := Aside0.mk gb13
   have GG13 := Aside0.mk HG13
   clear gb13 gl13 HG13
   have HMgo13 := Aside0.mk (show (P0_ go13 ∨ w.heap.size ≤ go13) from (HO_0.out.1 _ rfl))
   simp only [add_plain] at hx463_0
   simp only [add_plain] at hx463_1
   simp only [add_plain] at hx463_2
   simp only [add_plain] at hx464_0
   simp only [add_plain] at hx464_1
   simp only [add_plain] at hx464_2
   obtain ⟨ce13, hcl13, hM13, hcc13, hfr13⟩ := Kd.R_elem HO_0.out z30 ((ji10) : Int) p13 q13
   obtain rfl := k30_openM hM13
   have hx13_0 : World.cell? _ ⟨go13, ((ji10) : Int).toNat * 3, none⟩ = some (.int .i64 ((rd_T30 x0_1 (ji10)).f0.f0)) := hcc13 0 _ rfl
   have hx13_1 : World.cell? _ ⟨go13, ((ji10) : Int).toNat * 3 + 1, none⟩ = some (.int .i64 ((rd_T30 x0_1 (ji10)).f0.f1)) := hcc13 1 _ rfl
   have hx13_2 : World.cell? _ ⟨go13, ((ji10) : Int).toNat * 3 + 2, none⟩ = some (.int .i64 ((rd_T30 x0_1 (ji10)).f1)) := hcc13 2 _ rfl
   have hf13_0 : World.frozen? _ ⟨go13, ((ji10) : Int).toNat * 3, none⟩ = false := hfr13 0
   have hf13_1 : World.frozen? _ ⟨go13, ((ji10) : Int).toNat * 3 + 1, none⟩ = false := hfr13 1
   have hf13_2 : World.frozen? _ ⟨go13, ((ji10) : Int).toNat * 3 + 2, none⟩ = false := hfr13 2
   clear hcl13 hcc13 hfr13 hM13
   obtain ⟨p13, q13⟩ := et_ p13 q13
   obtain ⟨ce17, hcl17, hM17, hcc17, hfr17⟩ := Kd.R_elem HO_0.out z30 ((ji10) : Int) oa_ (by have h_ : ((ji10) : Int) < ((x0_1.length : Int) : Int) := oa_; first | exact h_ | (have e_ := (Kd.R_reads' HO_0.out).1; omega) | simpa using h_)
   obtain rfl := k30_openM hM17
   have HP17 := (Kd.R_seg HO_0.out ((ji10) : Int) oa_ (by have h_ : ((ji10) : Int) < ((x0_1.length : Int) : Int) := oa_; first | exact h_ | (have e_ := (Kd.R_reads' HO_0.out).1; omega) | simpa using h_) (seg := [.int .i64 ((rd_T30 x0_1 (ji7)).f0.f0), .int .i64 ((rd_T30 x0_1 (ji7)).f0.f1), .int .i64 ((rd_T30 x0_1 (ji7)).f1)]) (j := 0) hcl17 hcc17 (show 3 ≤ 3 from by decide) (x' := (⟨(⟨(rd_T30 x0_1 (ji7)).f0.f0, (rd_T30 x0_1 (ji7)).f0.f1⟩ : S28), (rd_T30 x0_1 (ji7)).f1⟩ : S30)) (k30_mkM _ _ _ (⟨(⟨(rd_T30 x0_1 (ji7)).f0.f0, (rd_T30 x0_1 (ji7)).f0.f1⟩ : S28), (rd_T30 x0_1 (ji7)).f1⟩ : S30) ) (fun _ hk => hk)).1
   rw [← Ny465.out] at HP17
   have HQ17 := Aside0.mk HP17
   clear hcl17 hcc17 hfr17 hM17 HP17
   have p14 : 0 ≤ ((ji7) : Int) := oa_
   have q14 : ((ji7) : Int) < ((x0_1.length : Int) : Int) := oa_
   obtain ⟨ce14, hcl14, hM14, hcc14, hfr14⟩ := Kd.R_elem HQ17.out z30 ((ji7) : Int) p14 q14
   obtain rfl := k30_openM hM14
   have hx14_0 : World.cell? _ ⟨go13, ((ji7) : Int).toNat * 3, none⟩ = some (.int .i64 ((rd_T30 y465 (ji7)).f0.f0)) := hcc14 0 _ rfl
   have hx14_1 : World.cell? _ ⟨go13, ((ji7) : Int).toNat * 3 + 1, none⟩ = some (.int .i64 ((rd_T30 y465 (ji7)).f0.f1)) := hcc14 1 _ rfl
   have hx14_2 : World.cell? _ ⟨go13, ((ji7) : Int).toNat * 3 + 2, none⟩ = some (.int .i64 ((rd_T30 y465 (ji7)).f1)) := hcc14 2 _ rfl
   have hf14_0 : World.frozen? _ ⟨go13, ((ji7) : Int).toNat * 3, none⟩ = false := hfr14 0
   have hf14_1 : World.frozen? _ ⟨go13, ((ji7) : Int).toNat * 3 + 1, none⟩ = false := hfr14 1
   have hf14_2 : World.frozen? _ ⟨go13, ((ji7) : Int).toNat * 3 + 2, none⟩ = false := hfr14 2
   clear hcl14 hcc14 hfr14 hM14
   obtain ⟨p14, q14⟩ := et_ p14 q14
   obtain ⟨ce18, hcl18, hM18, hcc18, hfr18⟩ := Kd.R_elem HQ17.out z30 ((ji7) : Int) oa_ (by have h_ : ((ji7) : Int) < ((x0_1.length : Int) : Int) := oa_; first | exact h_ | (have e_ := (Kd.R_reads' HO_0.out).1; omega) | simpa using h_)
   obtain rfl := k30_openM hM18
   have HP18 := (Kd.R_seg HQ17.out ((ji7) : Int) oa_ (by have h_ : ((ji7) : Int) < ((x0_1.length : Int) : Int) := oa_; first | exact h_ | (have e_ := (Kd.R_reads' HO_0.out).1; omega) | simpa using h_) (seg := [.int .i64 ((rd_T30 x0_1 (ji10)).f0.f0), .int .i64 ((rd_T30 x0_1 (ji10)).f0.f1), .int .i64 ((rd_T30 x0_1 (ji10)).f1)]) (j := 0) hcl18 hcc18 (show 3 ≤ 3 from by decide) (x' := (⟨(⟨(rd_T30 x0_1 (ji10)).f0.f0, (rd_T30 x0_1 (ji10)).f0.f1⟩ : S28), (rd_T30 x0_1 (ji10)).f1⟩ : S30)) (k30_mkM _ _ _ (⟨(⟨(rd_T30 x0_1 (ji10)).f0.f0, (rd_T30 x0_1 (ji10)).f0.f1⟩ : S28), (rd_T30 x0_1 (ji10)).f1⟩ : S30) ) (fun _ hk => hk)).1
   rw [← Ny466.out] at HP18
   have HQ18 := Aside0.mk HP18
   clear hcl18 hcc18 hfr18 hM18 HP18
   refine start_ (n := 24) (S := fun w' => w'.cell? ⟨go13, (((ji7)).toNat * 3), none⟩ = some (.int .i64 ((rd_T30 x0_1 (ji7)).f0.f0)) ∧ w'.cell? ⟨go13, (((ji7)).toNat * 3) + 1, none⟩ = some (.int .i64 ((rd_T30 x0_1 (ji7)).f0.f1)) ∧ w'.cell? ⟨go13, (((ji7)).toNat * 3) + 2, none⟩ = some (.int .i64 ((rd_T30 x0_1 (ji7)).f1)) ∧ w'.cell? ⟨go13, (((ji10)).toNat * 3), none⟩ = some (.int .i64 ((rd_T30 x0_1 (ji10)).f0.f0)) ∧ w'.cell? ⟨go13, (((ji10)).toNat * 3) + 1, none⟩ = some (.int .i64 ((rd_T30 x0_1 (ji10)).f0.f1)) ∧ w'.cell? ⟨go13, (((ji10)).toNat * 3) + 2, none⟩ = some (.int .i64 ((rd_T30 x0_1 (ji10)).f1))) (ds := [21, 23]) ba20_0 (by kernel_rfl) rfl rfl ⟨hx463_0, hx463_1, hx463_2, hx464_0, hx464_1, hx464_2⟩ (fun hHeld => ?_); refine with_tabW slices_swapRangeCmpFunc_impl_Route.tab3 slices_swapRangeCmpFunc_impl_Route.bits3 (fun HT_ HW_ => ?_)
   generalize wr.drew = w15 at HO_0 HK HB GG13 HQ17 HQ18 hf13_0 hf13_1 hf13_2 hf14_0 hf14_1 hf14_2 hx13_0 hx13_1 hx13_2 hx14_0 hx14_1 hx14_2 hx463_0 hx463_1 hx463_2 hx464_0 hx464_1 hx464_2 hHeld ⊢
   refine pz_ 0 16 ba20_1 HT_ ?_
   refine pz_ 1 17 ba20_2 HT_ ?_
   refine pz_ 2 18 ba20_3 HT_ ?_
   refine pz_ 3 19 ba20_4 HT_ ?_
   refine pz_ 4 20 ba20_5 HT_ ?_
   refine pz_ 5 21 ba20_6 HT_ ?_
   refine pz_ 6 22 ba20_7 HT_ ?_
   refine pz_ 7 23 ba20_8 HT_ ?_
   refine pz_ 8 24 ba20_9 HT_ ?_
   refine pz_ 9 25 ba20_10 HT_ ?_
   refine pz_ 10 26 ba20_11 HT_ ?_
   refine pz_ 11 27 ba20_12 HT_ ?_
   refine pz_ 12 28 ba20_13 HT_ ?_
   refine pz_ 14 30 ba20_14 HT_ ?_
   refine pz_ 15 31 ba20_15 HT_ ?_
   refine pz_ 16 32 ba20_16 HT_ ?_
   refine pz_ 17 33 ba20_17 HT_ ?_
   refine pz_ 18 34 ba20_18 HT_ ?_
   refine pt_ 13 29 ba20_19 HT_ HW_ hHeld ?_
   refine pt_ 19 35 ba20_20 HT_ HW_ hHeld ?_
   refine pz_ 20 36 ba20_21 HT_ ?_
   refine last_ (i := 21) (N := none) ba20_22 rfl rfl (one_of HT_.out (by kernel_rfl)) (by decide) (fun K hK => ?_)
   refine skip_ (w1 := ?_) (by rfl) rfl ?_ ?_
   rotate_left; · go_simp; rfl
   refine hK.out _ _ ?_
   clear hK K
   refine pz_ 22 37 ba20_23 HT_ ?_
   generalize hW_ : World.setCell (World.setCell (World.setCell _ _ _) _ _) _ _ = wS_
   have hy_hf14_0 : World.frozen? wS_ _ = false := Eq.trans (congrArg (fun q => World.frozen? q _) hW_).symm hf14_0
   have hy_hf14_1 : World.frozen? wS_ _ = false := Eq.trans (congrArg (fun q => World.frozen? q _) hW_).symm hf14_1
   have hy_hf14_2 : World.frozen? wS_ _ = false := Eq.trans (congrArg (fun q => World.frozen? q _) hW_).symm hf14_2
   have hy_hx14_0 : World.cell? wS_ _ = some _ := Eq.trans (congrArg (fun q => World.cell? q _) hW_).symm hx14_0
   have hy_hx14_1 : World.cell? wS_ _ = some _ := Eq.trans (congrArg (fun q => World.cell? q _) hW_).symm hx14_1
   have hy_hx14_2 : World.cell? wS_ _ = some _ := Eq.trans (congrArg (fun q => World.cell? q _) hW_).symm hx14_2
   refine last_ (i := 23) (N := none) ba20_24 rfl rfl (one_of HT_.out (by kernel_rfl)) (by decide) (fun K hK => ?_)
   refine skip_ (w1 := ?_) (by rfl) rfl ?_ ?_
   rotate_left; · go_simp; rfl
   refine hK.out _ _ ?_
   clear hK K
   subst hW_
   refine done_ (done_of HT_.out (by kernel_rfl)) ?_
   go_wp2
   go_roundg k1
   case measure => have := HK1.out; omega
   case rel => exact ⟨(y466), (wrap64 (x10_1 + 1)), er_, H', ⟨by have := HK1.out; omega⟩, ⟨by (with_reducible repeat (first | apply Kd.R_alloc | apply Kd.R_drewN | apply Kd.R_drew)); exact HQ18.out⟩, ⟨by repeat (first | (with_reducible first | exact HK.out | apply Kept.alloc | apply Kept.drewN | apply Kept.drew | refine Kept.setCell ?_ HMgo13.out _ | refine Kept.setCell ?_ HMgo13.out _ | refine Kept.setCell ?_ HMgo13.out _ | refine Kept.setCell ?_ HMgo13.out _ | refine Kept.setCell ?_ HMgo13.out _ | refine Kept.setCell ?_ HMgo13.out _) | exact HK.out)⟩, ⟨by repeat (first | (with_reducible first | exact HB.out | apply below_alloc | apply pw_below_drewN | apply below_drew1 | refine below_set ?_ GB13.out | refine below_set ?_ GB13.out | refine below_set ?_ GB13.out | refine below_set ?_ GB13.out | refine below_set ?_ GB13.out | refine below_set ?_ GB13.out) | exact HB.out)⟩⟩

/-! ### slices_rotateCmpFunc_impl_Route: function 132 -/
def slices_rotateCmpFunc_impl_Route.l0 : Nat → List (S30) → Int → Int → Int → Option ((List (S30)))
 | 0, _, _, _, _ => none
 | k + 1, x0, x2, x10, x11 => if x10 = x11 then ((slices_swapRangeCmpFunc_impl_Route.f k x0 (wrap64 (x2 - x10)) x2 x10).bind fun t467 => (some t467)) else (if x10 > x11 then ((slices_swapRangeCmpFunc_impl_Route.f k x0 (wrap64 (x2 - x10)) x2 x11).bind fun t468 => (slices_rotateCmpFunc_impl_Route.l0 k t468 x2 (wrap64 (x10 - x11)) x11)) else ((slices_swapRangeCmpFunc_impl_Route.f k x0 (wrap64 (x2 - x10)) (wrap64 ((wrap64 (x2 + x11)) - x10)) x10).bind fun t469 => (slices_rotateCmpFunc_impl_Route.l0 k t469 x2 x10 (wrap64 (x11 - x10)))))
def slices_rotateCmpFunc_impl_Route.f (k : Nat) (l0 : List (S30)) (a1 : Int) (a2 : Int) (a3 : Int)  : Option ((List (S30))) := slices_rotateCmpFunc_impl_Route.l0 k l0 a2 (wrap64 (a2 - a1)) (wrap64 (a3 - a2))
set_option maxHeartbeats 8000000 in
set_option maxRecDepth 100000 in
theorem slices_rotateCmpFunc_impl_Route.calls (k : Nat) (P0_ : Nat → Prop) (u9000_ : Value) (l0 : List (S30)) (a1 : Int) (a2 : Int) (a3 : Int)  (r : List (S30)) (w0 w : World) (hB : Below w0.heap.size w0 w) (ho0 : Kd.R k30 30 w w0.heap.size P0_ u9000_ l0) (h : slices_rotateCmpFunc_impl_Route.f k l0 a1 a2 a3 = some r) :
  Calls Try.prog 132 #[u9000_, .int .i64 a1, .int .i64 a2, .int .i64 a3, .func (.func 101) #[] #[]] w fun e w' => e = .returned (.tuple #[]) ∧ Kd.R k30 30 w' w0.heap.size (fun k_ => (P0_ k_ ∨ w.heap.size ≤ k_)) u9000_ r ∧ Below w0.heap.size w0 w' ∧ Kept w w' (fun k_ => P0_ k_) := by
 have HO0 := Aside0.mk (show Kd.R k30 30 w w0.heap.size (fun k_ => (P0_ k_ ∨ w.heap.size ≤ k_)) u9000_ l0 from Kd.R_mono ho0 (fun k_ hk => (.inl hk)))
 have HK := Aside0.mk (Kept.refl w (fun k_ => P0_ k_))
 have HW0 := Aside0.mk hB.size
 have HB := Aside0.mk hB
 clear hB
 have H : (slices_rotateCmpFunc_impl_Route.l0 k l0 a2 (wrap64 (a2 - a1)) (wrap64 (a3 - a2))) = some r := h
 clear h
 have H' := Aside0.mk H
 clear H
 go_enter Try.func132, Try.ntmps132
 go_wp2
 go_loopg [10, 11] k (fun kq v10 v11 w' => ∃ (x0_1 : List (S30)) (x10_1 : Int) (x11_1 : Int), v10 = .int .i64 x10_1 ∧ v11 = .int .i64 x11_1 ∧ Aside0 (slices_rotateCmpFunc_impl_Route.l0 kq x0_1 a2 x10_1 x11_1 = some r) ∧ Aside0 (kq ≤ k) ∧ Aside0 (Kd.R k30 30 w' w0.heap.size (fun k_ => (P0_ k_ ∨ w.heap.size ≤ k_)) u9000_ x0_1) ∧ Aside0 (Kept w w' (fun k_ => P0_ k_)) ∧ Aside0 (Below w0.heap.size w0 w'))
 case atStart => exact ⟨(l0), (wrap64 (a2 - a1)), (wrap64 (a3 - a2)), er_, er_, H', ⟨Nat.le_refl _⟩, ⟨hd_ HO0⟩, ⟨ky_ HK⟩, ⟨bw112_⟩⟩
 case round =>
  clear H'
  obtain ⟨x0_1, x10_1, x11_1, rfl, rfl, HA, HK1, HO_0, HK, HB⟩ := hrel
  cases gk with
  | zero => exact absurd HA.out (by simp [slices_rotateCmpFunc_impl_Route.l0])
  | succ k1 =>
   have H := HA.out
   clear HA
   simp only [slices_rotateCmpFunc_impl_Route.l0] at H
   by_cases c6 : x10_1 = x11_1
   ·rw [if_pos c6] at H
    have c6b0 : (x10_1 == x11_1) = true := beq_iff_eq.mpr c6
    have c6b1 : (x10_1 != x11_1) = false := bne_eq_false_iff_eq.mpr c6
    clear c6
    obtain ⟨t467, A7, H⟩ := ob_ H
    obtain rfl := Option.some.inj H
    obtain ⟨Ao8, co8, eo8⟩ := Kd.R_slice HO_0.out
    subst eo8
    go_wp2_with ((with_reducible refine gate_callee (f := 134) rfl ?_); refine gl_ (some 57) Try.func134 #[.slice Ao8 x0_1.length co8, .int .i64 (wrap64 (a2 - x10_1)), .int .i64 a2, .int .i64 x10_1, .func (.func 101) #[] #[]] ?_; (with_reducible refine (slices_swapRangeCmpFunc_impl_Route.calls k1 (fun k_ => some k_ = (.slice Ao8 x0_1.length co8 : Value).ownBlock) (.slice Ao8 x0_1.length co8) x0_1 (wrap64 (a2 - x10_1)) a2 x10_1  t467 w0 _ ?side1 ?side2 A7.out).mono ?_); (case side1 => exact by_ HB); (case side2 => exact Kd.R_tight rfl HO_0.out); rintro e w9 ⟨rfl, hy0, hb, hkp⟩; refine ⟨_, rfl, ?_⟩; replace HK := Aside0.mk (Kept.then_ (S := (fun k_ => P0_ k_)) (ky_ HK) hkp (fun k_ hs_ => (fun e_ => (HO_0.out.1 k_ e_.symm)) hs_)); replace HO_0 := Aside0.mk (Kd.R_reok rfl hy0 (fun k_ e_ => HO_0.out.1 k_ e_)); replace HB := Aside0.mk (hb); clear hb hkp hy0)
    first | go_end0 | ((try simp only [Exit.inBlock, Exit.then]); refine bodyPost_ret (results_none rfl _ _ _) rfl ?_)
    exact ⟨by first | rfl | (simp [errW_none, errW_some] <;> rfl) | (simp [*, errW_none, errW_some] <;> rfl), by (with_reducible repeat (first | apply Kd.R_alloc | apply Kd.R_drewN | apply Kd.R_drew)); exact HO_0.out, bw112_, ky_ HK⟩
   rw [if_neg c6] at H
   have c6b0 : (x10_1 == x11_1) = false := beq_eq_false_iff_ne.mpr c6
   have c6b1 : (x10_1 != x11_1) = true := bne_iff_ne.mpr c6
   by_cases c10 : x10_1 > x11_1
   ·rw [if_pos c10] at H
    have c10b0 : decide (x11_1 < x10_1) = true := decide_eq_true c10
    clear c10
    obtain ⟨t468, A11, H⟩ := ob_ H
    have H' := Aside0.mk H
    clear H
    obtain ⟨Ao12, co12, eo12⟩ := Kd.R_slice HO_0.out
    subst eo12
    go_wp2_with ((with_reducible refine gate_callee (f := 134) rfl ?_); refine gl_ (some 31) Try.func134 #[.slice Ao12 x0_1.length co12, .int .i64 (wrap64 (a2 - x10_1)), .int .i64 a2, .int .i64 x11_1, .func (.func 101) #[] #[]] ?_; (with_reducible refine (slices_swapRangeCmpFunc_impl_Route.calls k1 (fun k_ => some k_ = (.slice Ao12 x0_1.length co12 : Value).ownBlock) (.slice Ao12 x0_1.length co12) x0_1 (wrap64 (a2 - x10_1)) a2 x11_1  t468 w0 _ ?side1 ?side2 A11.out).mono ?_); (case side1 => exact by_ HB); (case side2 => exact Kd.R_tight rfl HO_0.out); rintro e w13 ⟨rfl, hy0, hb, hkp⟩; refine ⟨_, rfl, ?_⟩; replace HK := Aside0.mk (Kept.then_ (S := (fun k_ => P0_ k_)) (ky_ HK) hkp (fun k_ hs_ => (fun e_ => (HO_0.out.1 k_ e_.symm)) hs_)); replace HO_0 := Aside0.mk (Kd.R_reok rfl hy0 (fun k_ e_ => HO_0.out.1 k_ e_)); replace HB := Aside0.mk (hb); clear hb hkp hy0)
    go_roundg k1
    case measure => have := HK1.out; omega
    case rel => exact ⟨(t468), (wrap64 (x10_1 - x11_1)), (x11_1), er_, er_, H', ⟨by have := HK1.out; omega⟩, ⟨hd_ HO_0⟩, ⟨ky_ HK⟩, ⟨bw112_⟩⟩
   rw [if_neg c10] at H
   have c10b0 : decide (x11_1 < x10_1) = false := decide_eq_false c10
   clear c10
   obtain ⟨t469, A14, H⟩ := ob_ H
   have H' := Aside0.mk H
   clear H
   obtain ⟨Ao15, co15, eo15⟩ := Kd.R_slice HO_0.out
   subst eo15
   go_wp2_with ((with_reducible refine gate_callee (f := 134) rfl ?_); refine gl_ (some 46) Try.func134 #[.slice Ao15 x0_1.length co15, .int .i64 (wrap64 (a2 - x10_1)), .int .i64 (wrap64 ((wrap64 (a2 + x11_1)) - x10_1)), .int .i64 x10_1, .func (.func 101) #[] #[]] ?_; (with_reducible refine (slices_swapRangeCmpFunc_impl_Route.calls k1 (fun k_ => some k_ = (.slice Ao15 x0_1.length co15 : Value).ownBlock) (.slice Ao15 x0_1.length co15) x0_1 (wrap64 (a2 - x10_1)) (wrap64 ((wrap64 (a2 + x11_1)) - x10_1)) x10_1  t469 w0 _ ?side1 ?side2 A14.out).mono ?_); (case side1 => exact by_ HB); (case side2 => exact Kd.R_tight rfl HO_0.out); rintro e w16 ⟨rfl, hy0, hb, hkp⟩; refine ⟨_, rfl, ?_⟩; replace HK := Aside0.mk (Kept.then_ (S := (fun k_ => P0_ k_)) (ky_ HK) hkp (fun k_ hs_ => (fun e_ => (HO_0.out.1 k_ e_.symm)) hs_)); replace HO_0 := Aside0.mk (Kd.R_reok rfl hy0 (fun k_ e_ => HO_0.out.1 k_ e_)); replace HB := Aside0.mk (hb); clear hb hkp hy0)
   go_roundg k1
   case measure => have := HK1.out; omega
   case rel => exact ⟨(t469), (x10_1), (wrap64 (x11_1 - x10_1)), er_, er_, H', ⟨by have := HK1.out; omega⟩, ⟨hd_ HO_0⟩, ⟨ky_ HK⟩, ⟨bw112_⟩⟩

end Go.Proofs.Ytjepmdngbafonaa.QFnSqueezed
