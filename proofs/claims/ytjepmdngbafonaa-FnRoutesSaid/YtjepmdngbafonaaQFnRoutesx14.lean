/- Contracts of functions that the law reaches: what each call returns and what it leaves in memory. Made by this session over the print of the kit. -/
import Derived.Test.YtjepmdngbafonaaQFnRoutesx0
import Derived.Test.YtjepmdngbafonaaQFnRoutesx2
namespace Go.Proofs.Ytjepmdngbafonaa.QFnRoutes
open Go.RowKit Go.Proofs.YtjepmdngbafonaaR.PrintWords Go.Proofs.YtjepmdngbafonaaR.PrintLast Go.Proofs.YtjepmdngbafonaaR.PrintMore
attribute [local go_sem] max2_int min2_int max_two min_two max_three min_three max_four min_four   -- for this text's walks alone
set_option linter.unusedVariables false
set_option linter.unusedSimpArgs false
def ba14_0 : Array Bool := bs_ 16 0
def ba14_1 : Array Bool := bs_ 16 1
def ba14_2 : Array Bool := bs_ 16 3
def ba14_3 : Array Bool := bs_ 16 7
def ba14_4 : Array Bool := bs_ 16 15
def ba14_5 : Array Bool := bs_ 16 31
def ba14_6 : Array Bool := bs_ 16 63
def ba14_7 : Array Bool := bs_ 16 127
def ba14_8 : Array Bool := bs_ 16 383
def ba14_9 : Array Bool := bs_ 16 895
def ba14_10 : Array Bool := bs_ 16 1919
def ba14_11 : Array Bool := bs_ 16 2047
def ba14_12 : Array Bool := bs_ 16 4095
def ba14_13 : Array Bool := bs_ 16 8191
def ba14_14 : Array Bool := bs_ 16 16383
def ba14_15 : Array Bool := bs_ 16 32767
def ba14_16 : Array Bool := bs_ 16 65535

/-! ### slices_Reverse_impl_Route_impl_Route: function 122 -/
def slices_Reverse_impl_Route_impl_Route.l0 : Nat → List (S30) → Int → Int → Option ((List (S30)))
 | 0, _, _, _ => none
 | k + 1, x0, x2, x3 => if x2 < x3 then (if 0 ≤ x3 then (if x3 < (x0.length : Int) then (if 0 ≤ x2 then (if x2 < (x0.length : Int) then (slices_Reverse_impl_Route_impl_Route.l0 k ((x0.set (x2 : Int).toNat (⟨(⟨(rd_T30 x0 x3).f0.f0, (rd_T30 x0 x3).f0.f1⟩ : S28), (rd_T30 x0 x3).f1⟩ : S30)).set (x3 : Int).toNat (⟨(⟨(rd_T30 x0 x2).f0.f0, (rd_T30 x0 x2).f0.f1⟩ : S28), (rd_T30 x0 x2).f1⟩ : S30)) (wrap64 (x2 + 1)) (wrap64 (x3 - 1))) else (none)) else (none)) else (none)) else (none)) else (some x0)
def slices_Reverse_impl_Route_impl_Route.f (k : Nat) (l0 : List (S30)) : Option ((List (S30))) := slices_Reverse_impl_Route_impl_Route.l0 k l0 0 (wrap64 ((l0.length : Int) - 1))
theorem slices_Reverse_impl_Route_impl_Route.mono_l : ∀ k, (∀ y0 y1 y2, LeO (slices_Reverse_impl_Route_impl_Route.l0 k y0 y1 y2) (slices_Reverse_impl_Route_impl_Route.l0 (k + 1) y0 y1 y2))
 | 0 => fun _ _ _ r h => by simp [slices_Reverse_impl_Route_impl_Route.l0] at h
 | k + 1 => by
  have ih0 := slices_Reverse_impl_Route_impl_Route.mono_l k
  ·intro y0 y1 y2
   unfold slices_Reverse_impl_Route_impl_Route.l0
   repeat' first | (with_reducible first | exact ih0 _ _ _ | exact LeO.refl _ | exact LeO.none _ | refine LeO.ite ?_ ?_ | refine LeO.bind ?_ (fun _ => ?_)) | exact ih0 _ _ _ | exact LeO.none _ | refine LeO.ite ?_ ?_ | refine LeO.bind ?_ (fun _ => ?_)
theorem slices_Reverse_impl_Route_impl_Route.mono : ∀ a0 k, LeO (slices_Reverse_impl_Route_impl_Route.f k a0) (slices_Reverse_impl_Route_impl_Route.f (k + 1) a0) := by
 intro a0 k
 have ih0 := slices_Reverse_impl_Route_impl_Route.mono_l k
 unfold slices_Reverse_impl_Route_impl_Route.f
 repeat' first | (with_reducible first | exact ih0 _ _ _ | exact LeO.refl _ | exact LeO.none _ | refine LeO.ite ?_ ?_ | refine LeO.bind ?_ (fun _ => ?_)) | exact ih0 _ _ _ | exact LeO.none _ | refine LeO.ite ?_ ?_ | refine LeO.bind ?_ (fun _ => ?_)
def slices_Reverse_impl_Route_impl_Route.T3 : Bool × List (List Nat × List Nat) := (true, [([], []), ([], []), ([], []), ([], []), ([], []), ([], []), ([4, 5], [4, 5]), ([6], [6]), ([], []), ([], []), ([8, 9], [8, 9]), ([10], [10]), ([0, 1, 0, 1, 4, 5, 6, 7, 11], [0, 1]), ([12, 7, 0, 1, 4, 5, 6, 7, 11], [7, 12]), ([2, 3, 0, 1, 2, 3, 4, 5, 6, 7, 8, 9, 10, 11, 12, 13], [2, 3]), ([14, 11, 13, 0, 1, 2, 3, 4, 5, 6, 7, 8, 9, 10, 11, 12, 13], [11, 14])])
def slices_Reverse_impl_Route_impl_Route.B3 : List Nat := [0, 0, 0, 0, 0, 0, 48, 112, 0, 0, 768, 1792, 4083, 8179, 16383, 32767]
theorem slices_Reverse_impl_Route_impl_Route.tab3 : rtab .any (opsOf Try.f122 3) = slices_Reverse_impl_Route_impl_Route.T3 := by kernel_rfl
theorem slices_Reverse_impl_Route_impl_Route.bits3 : waitsOk slices_Reverse_impl_Route_impl_Route.T3.2 slices_Reverse_impl_Route_impl_Route.B3 = true := by kernel_rfl
set_option maxHeartbeats 8000000 in
set_option maxRecDepth 100000 in
theorem slices_Reverse_impl_Route_impl_Route.calls (k : Nat) (P0_ : Nat → Prop) (u9000_ : Value) (l0 : List (S30)) (r : List (S30)) (w0 w : World) (hB : Below w0.heap.size w0 w) (ho0 : Kd.R k30 30 w w0.heap.size P0_ u9000_ l0) (h : slices_Reverse_impl_Route_impl_Route.f k l0 = some r) :
  Calls Try.prog 122 #[u9000_] w fun e w' => e = .returned (.tuple #[]) ∧ Kd.R k30 30 w' w0.heap.size (fun k_ => (P0_ k_ ∨ w.heap.size ≤ k_)) u9000_ r ∧ Below w0.heap.size w0 w' ∧ Kept w w' (fun k_ => P0_ k_) := by
 have hu30 := Try.underlying30
 have HO0 := Aside0.mk (show Kd.R k30 30 w w0.heap.size (fun k_ => (P0_ k_ ∨ w.heap.size ≤ k_)) u9000_ l0 from Kd.R_mono ho0 (fun k_ hk => (.inl hk)))
 have HK := Aside0.mk (Kept.refl w (fun k_ => P0_ k_))
 have HW0 := Aside0.mk hB.size
 have HB := Aside0.mk hB
 clear hB
 have H : (slices_Reverse_impl_Route_impl_Route.l0 k l0 0 (wrap64 ((l0.length : Int) - 1))) = some r := h
 clear h
 have H' := Aside0.mk H
 clear H
 obtain ⟨Ao2, co2, eo2⟩ := Kd.R_slice HO0.out
 subst eo2
 go_enter Try.func122, Try.ntmps122
 go_wp2
 go_loopg [2, 3] k (fun kq v2 v3 w' => ∃ (x0_1 : List (S30)) (x2_1 : Int) (x3_1 : Int), v2 = .int .i64 x2_1 ∧ v3 = .int .i64 x3_1 ∧ Aside0 (slices_Reverse_impl_Route_impl_Route.l0 kq x0_1 x2_1 x3_1 = some r) ∧ Aside0 (kq ≤ k) ∧ Aside0 (Kd.R k30 30 w' w0.heap.size (fun k_ => (P0_ k_ ∨ w.heap.size ≤ k_)) (.slice Ao2 l0.length co2) x0_1) ∧ Aside0 (Kept w w' (fun k_ => P0_ k_)) ∧ Aside0 (Below w0.heap.size w0 w'))
 case atStart => exact ⟨(l0), (0), (wrap64 ((l0.length : Int) - 1)), er_, er_, H', ⟨Nat.le_refl _⟩, ⟨hd_ HO0⟩, ⟨kz_ HK⟩, ⟨bw112_⟩⟩
 case round =>
  clear H'
  try clear c1
  try clear p2
  obtain ⟨x0_1, x2_1, x3_1, rfl, rfl, HA, HK1, HO_0, HK, HB⟩ := hrel
  have hl0_1 := (Kd.R_reads' HO_0.out).1
  rw [hl0_1] at HO_0
  (try simp only [hl0_1])
  cases gk with
  | zero => exact absurd HA.out (by simp [slices_Reverse_impl_Route_impl_Route.l0])
  | succ k1 =>
   have H := HA.out
   clear HA
   simp only [slices_Reverse_impl_Route_impl_Route.l0] at H
   by_cases c3 : x2_1 < x3_1
   rotate_left
   ·rw [if_neg c3] at H
    have c3b0 : decide (x2_1 < x3_1) = false := decide_eq_false c3
    clear c3
    obtain rfl := Option.some.inj H
    go_wp2
    first | go_end0 | ((try simp only [Exit.inBlock, Exit.then]); refine bodyPost_ret (results_none rfl _ _ _) rfl ?_)
    exact ⟨by first | rfl | (simp [errW_none, errW_some] <;> rfl) | (simp [*, errW_none, errW_some] <;> rfl), (by first | exact (hd_ HO_0) | (simp only [hl0_1]; exact (hd_ HO_0))), bw112_, kz_ HK⟩
   rw [if_pos c3] at H
   have c3b0 : decide (x2_1 < x3_1) = true := decide_eq_true c3
   clear c3
   obtain ⟨c4b0, H⟩ := iq_ H
   obtain ⟨c5b0, H⟩ := iq_ H
   obtain ⟨c6b0, H⟩ := iq_ H
   obtain ⟨c7b0, H⟩ := iq_ H
   obtain ⟨y419, hy419⟩ : ∃ y_ : List (S30), y_ = (x0_1.set (x2_1 : Int).toNat (⟨(⟨(rd_T30 x0_1 x3_1).f0.f0, (rd_T30 x0_1 x3_1).f0.f1⟩ : S28), (rd_T30 x0_1 x3_1).f1⟩ : S30)) := ⟨_, rfl⟩
   replace H : (slices_Reverse_impl_Route_impl_Route.l0 k1 (y419.set (x3_1 : Int).toNat (⟨(⟨(rd_T30 x0_1 x2_1).f0.f0, (rd_T30 x0_1 x2_1).f0.f1⟩ : S28), (rd_T30 x0_1 x2_1).f1⟩ : S30)) (wrap64 (x2_1 + 1)) (wrap64 (x3_1 - 1))) = some r := by first | (rw [hy419]; with_reducible exact H) | (have H2_ := (Option.bind_some _ _).symm.trans H; rw [hy419]; with_reducible exact H2_) | (have H2_ := (Option.bind_some _ _).symm.trans H; with_reducible exact H2_) | with_reducible exact H | (rw [hy419]; exact H) | exact H
   have Ny419 := Aside0.mk hy419
   clear hy419
   obtain ⟨y420, hy420⟩ : ∃ y_ : List (S30), y_ = (y419.set (x3_1 : Int).toNat (⟨(⟨(rd_T30 x0_1 x2_1).f0.f0, (rd_T30 x0_1 x2_1).f0.f1⟩ : S28), (rd_T30 x0_1 x2_1).f1⟩ : S30)) := ⟨_, rfl⟩
   replace H : (slices_Reverse_impl_Route_impl_Route.l0 k1 y420 (wrap64 (x2_1 + 1)) (wrap64 (x3_1 - 1))) = some r := by first | (rw [hy420]; with_reducible exact H) | (have H2_ := (Option.bind_some _ _).symm.trans H; rw [hy420]; with_reducible exact H2_) | (have H2_ := (Option.bind_some _ _).symm.trans H; with_reducible exact H2_) | with_reducible exact H | (rw [hy420]; exact H) | exact H
   have Ny420 := Aside0.mk hy420
   clear hy420
   have H' := Aside0.mk H
   clear H
   try go_wp2
   replace HO_0 := Aside0.mk (Kd.R_drew HO_0.out)
   replace HK := Aside0.mk (Kept.drew HK.out)
   replace HB := Aside0.mk (below_drew1 HB.out)
   have p417 : 0 ≤ (x3_1 : Int) := oa_
   have q417 : x3_1 < (x0_1.length : Int) := oa_
   obtain ⟨ad417, e417, hx417_0, hx417_1, hx417_2⟩ := at_T30 (Kd.R_reads' HO_0.out).2.2 x3_1 p417 q417
   cases e417
   replace p417 := eq_true p417
   replace q417 := eq_true q417
   have p418 : 0 ≤ (x2_1 : Int) := oa_
   have q418 : x2_1 < (x0_1.length : Int) := oa_
   obtain ⟨ad418, e418, hx418_0, hx418_1, hx418_2⟩ := at_T30 (Kd.R_reads' HO_0.out).2.2 x2_1 p418 q418
   obtain rfl : ad417 = ad418 := (by injection e418)
   replace p418 := eq_true p418
   replace q418 := eq_true q418
   have p8 : 0 ≤ (x2_1 : Int) := oa_
   have q8 : (x2_1 : Int) < ((x0_1.length : Int) : Int) := oa_
   obtain ⟨go8, co8, eo8, gb8, gl8, cl8, HG8⟩ := Kd.R_form HO_0.out (by omega)
   (first | cases eo8 | (injection eo8 with ea_ en_ ec_; (first | subst ea_ | (injection ea_ with ea_; subst ea_)); subst ec_; clear en_))
   have GB8 := Aside0.mk gb8
   have GG8 := Aside0.mk HG8
   clear gb8 gl8 HG8
   have HMgo8 := Aside0.mk (show (P0_ go8 ∨ w.heap.size ≤ go8) from (HO_0.out.1 _ rfl))
   (first | simp only [add_plain] at hx417_0 | skip)
   (first | simp only [add_plain] at hx417_1 | skip)
   (first | simp only [add_plain] at hx417_2 | skip)
   (first | simp only [add_plain] at hx418_0 | skip)
   (first | simp only [add_plain] at hx418_1 | skip)
   (first | simp only [add_plain] at hx418_2 | skip)
   obtain ⟨ce8, hcl8, hM8, hcc8, hfr8⟩ := Kd.R_elem HO_0.out z30 (x2_1 : Int) p8 q8
   obtain rfl := k30_openM hM8
   have hx8_0 : World.cell? _ ⟨go8, (x2_1 : Int).toNat * 3, none⟩ = some (.int .i64 ((rd_T30 x0_1 x2_1).f0.f0)) := hcc8 0 _ rfl
   have hx8_1 : World.cell? _ ⟨go8, (x2_1 : Int).toNat * 3 + 1, none⟩ = some (.int .i64 ((rd_T30 x0_1 x2_1).f0.f1)) := hcc8 1 _ rfl
   have hx8_2 : World.cell? _ ⟨go8, (x2_1 : Int).toNat * 3 + 2, none⟩ = some (.int .i64 ((rd_T30 x0_1 x2_1).f1)) := hcc8 2 _ rfl
   have hf8_0 : World.frozen? _ ⟨go8, (x2_1 : Int).toNat * 3, none⟩ = false := hfr8 0
   have hf8_1 : World.frozen? _ ⟨go8, (x2_1 : Int).toNat * 3 + 1, none⟩ = false := hfr8 1
   have hf8_2 : World.frozen? _ ⟨go8, (x2_1 : Int).toNat * 3 + 2, none⟩ = false := hfr8 2
   clear hcl8 hcc8 hfr8 hM8
   replace p8 := eq_true p8
   replace q8 := eq_true q8
   obtain ⟨ce11, hcl11, hM11, hcc11, hfr11⟩ := Kd.R_elem HO_0.out z30 (x2_1 : Int) oa_ (by have h_ : (x2_1 : Int) < ((x0_1.length : Int) : Int) := oa_; first | exact h_ | (have e_ := (Kd.R_reads' HO_0.out).1; omega) | simpa using h_)
   obtain rfl := k30_openM hM11
   have HP11 := (Kd.R_seg HO_0.out (x2_1 : Int) oa_ (by have h_ : (x2_1 : Int) < ((x0_1.length : Int) : Int) := oa_; first | exact h_ | (have e_ := (Kd.R_reads' HO_0.out).1; omega) | simpa using h_) (seg := [.int .i64 ((rd_T30 x0_1 x3_1).f0.f0), .int .i64 ((rd_T30 x0_1 x3_1).f0.f1), .int .i64 ((rd_T30 x0_1 x3_1).f1)]) (j := 0) hcl11 hcc11 (show 3 ≤ 3 from by decide) (x' := (⟨(⟨(rd_T30 x0_1 x3_1).f0.f0, (rd_T30 x0_1 x3_1).f0.f1⟩ : S28), (rd_T30 x0_1 x3_1).f1⟩ : S30)) (k30_mkM _ _ _ (⟨(⟨(rd_T30 x0_1 x3_1).f0.f0, (rd_T30 x0_1 x3_1).f0.f1⟩ : S28), (rd_T30 x0_1 x3_1).f1⟩ : S30) ) (fun _ hk => hk)).1
   rw [← Ny419.out] at HP11
   have HQ11 := Aside0.mk HP11
   clear hcl11 hcc11 hfr11 hM11 HP11
   have p9 : 0 ≤ (x3_1 : Int) := oa_
   have q9 : (x3_1 : Int) < ((x0_1.length : Int) : Int) := oa_
   obtain ⟨ce9, hcl9, hM9, hcc9, hfr9⟩ := Kd.R_elem HQ11.out z30 (x3_1 : Int) p9 q9
   obtain rfl := k30_openM hM9
   have hx9_0 : World.cell? _ ⟨go8, (x3_1 : Int).toNat * 3, none⟩ = some (.int .i64 ((rd_T30 y419 x3_1).f0.f0)) := hcc9 0 _ rfl
   have hx9_1 : World.cell? _ ⟨go8, (x3_1 : Int).toNat * 3 + 1, none⟩ = some (.int .i64 ((rd_T30 y419 x3_1).f0.f1)) := hcc9 1 _ rfl
   have hx9_2 : World.cell? _ ⟨go8, (x3_1 : Int).toNat * 3 + 2, none⟩ = some (.int .i64 ((rd_T30 y419 x3_1).f1)) := hcc9 2 _ rfl
   have hf9_0 : World.frozen? _ ⟨go8, (x3_1 : Int).toNat * 3, none⟩ = false := hfr9 0
   have hf9_1 : World.frozen? _ ⟨go8, (x3_1 : Int).toNat * 3 + 1, none⟩ = false := hfr9 1
   have hf9_2 : World.frozen? _ ⟨go8, (x3_1 : Int).toNat * 3 + 2, none⟩ = false := hfr9 2
   clear hcl9 hcc9 hfr9 hM9
   replace p9 := eq_true p9
   replace q9 := eq_true q9
   obtain ⟨ce12, hcl12, hM12, hcc12, hfr12⟩ := Kd.R_elem HQ11.out z30 (x3_1 : Int) oa_ (by have h_ : (x3_1 : Int) < ((x0_1.length : Int) : Int) := oa_; first | exact h_ | (have e_ := (Kd.R_reads' HO_0.out).1; omega) | simpa using h_)
   obtain rfl := k30_openM hM12
   have HP12 := (Kd.R_seg HQ11.out (x3_1 : Int) oa_ (by have h_ : (x3_1 : Int) < ((x0_1.length : Int) : Int) := oa_; first | exact h_ | (have e_ := (Kd.R_reads' HO_0.out).1; omega) | simpa using h_) (seg := [.int .i64 ((rd_T30 x0_1 x2_1).f0.f0), .int .i64 ((rd_T30 x0_1 x2_1).f0.f1), .int .i64 ((rd_T30 x0_1 x2_1).f1)]) (j := 0) hcl12 hcc12 (show 3 ≤ 3 from by decide) (x' := (⟨(⟨(rd_T30 x0_1 x2_1).f0.f0, (rd_T30 x0_1 x2_1).f0.f1⟩ : S28), (rd_T30 x0_1 x2_1).f1⟩ : S30)) (k30_mkM _ _ _ (⟨(⟨(rd_T30 x0_1 x2_1).f0.f0, (rd_T30 x0_1 x2_1).f0.f1⟩ : S28), (rd_T30 x0_1 x2_1).f1⟩ : S30) ) (fun _ hk => hk)).1
   rw [← Ny420.out] at HP12
   have HQ12 := Aside0.mk HP12
   clear hcl12 hcc12 hfr12 hM12 HP12
   refine start_ (n := 16) (S := fun w' => w'.cell? ⟨go8, ((x3_1).toNat * 3), none⟩ = some (.int .i64 ((rd_T30 x0_1 x3_1).f0.f0)) ∧ w'.cell? ⟨go8, ((x3_1).toNat * 3) + 1, none⟩ = some (.int .i64 ((rd_T30 x0_1 x3_1).f0.f1)) ∧ w'.cell? ⟨go8, ((x3_1).toNat * 3) + 2, none⟩ = some (.int .i64 ((rd_T30 x0_1 x3_1).f1)) ∧ w'.cell? ⟨go8, ((x2_1).toNat * 3), none⟩ = some (.int .i64 ((rd_T30 x0_1 x2_1).f0.f0)) ∧ w'.cell? ⟨go8, ((x2_1).toNat * 3) + 1, none⟩ = some (.int .i64 ((rd_T30 x0_1 x2_1).f0.f1)) ∧ w'.cell? ⟨go8, ((x2_1).toNat * 3) + 2, none⟩ = some (.int .i64 ((rd_T30 x0_1 x2_1).f1))) (ds := [13, 15]) ba14_0 (by kernel_rfl) rfl rfl ⟨hx417_0, hx417_1, hx417_2, hx418_0, hx418_1, hx418_2⟩ (fun hHeld => ?_); refine with_tabW slices_Reverse_impl_Route_impl_Route.tab3 slices_Reverse_impl_Route_impl_Route.bits3 (fun HT_ HW_ => ?_)
   generalize wr.drew = w10 at HO_0 HK HB GG8 HQ11 HQ12 hf8_0 hf8_1 hf8_2 hf9_0 hf9_1 hf9_2 hx417_0 hx417_1 hx417_2 hx418_0 hx418_1 hx418_2 hx8_0 hx8_1 hx8_2 hx9_0 hx9_1 hx9_2 hHeld ⊢
   refine pz_ 0 14 ba14_1 HT_ ?_
   refine pz_ 1 15 ba14_2 HT_ ?_
   refine pz_ 2 16 ba14_3 HT_ ?_
   refine pz_ 3 17 ba14_4 HT_ ?_
   refine pz_ 4 18 ba14_5 HT_ ?_
   refine pz_ 5 19 ba14_6 HT_ ?_
   refine pz_ 6 20 ba14_7 HT_ ?_
   refine pz_ 8 22 ba14_8 HT_ ?_
   refine pz_ 9 23 ba14_9 HT_ ?_
   refine pz_ 10 24 ba14_10 HT_ ?_
   refine pt_ 7 21 ba14_11 HT_ HW_ hHeld ?_
   refine pt_ 11 25 ba14_12 HT_ HW_ hHeld ?_
   refine pz_ 12 26 ba14_13 HT_ ?_
   refine last_ (i := 13) (N := none) ba14_14 rfl rfl (one_of HT_.out (by kernel_rfl)) (by decide) (fun K hK => ?_)
   refine skip_ (w1 := ?_) (by rfl) rfl ?_ ?_
   rotate_left; · go_simp; rfl
   refine hK.out _ _ ?_
   clear hK K
   refine pz_ 14 27 ba14_15 HT_ ?_
   generalize hW_ : World.setCell (World.setCell (World.setCell _ _ _) _ _) _ _ = wS_
   have hy_hf9_0 : World.frozen? wS_ _ = false := Eq.trans (congrArg (fun q => World.frozen? q _) hW_).symm hf9_0
   have hy_hf9_1 : World.frozen? wS_ _ = false := Eq.trans (congrArg (fun q => World.frozen? q _) hW_).symm hf9_1
   have hy_hf9_2 : World.frozen? wS_ _ = false := Eq.trans (congrArg (fun q => World.frozen? q _) hW_).symm hf9_2
   have hy_hx9_0 : World.cell? wS_ _ = some _ := Eq.trans (congrArg (fun q => World.cell? q _) hW_).symm hx9_0
   have hy_hx9_1 : World.cell? wS_ _ = some _ := Eq.trans (congrArg (fun q => World.cell? q _) hW_).symm hx9_1
   have hy_hx9_2 : World.cell? wS_ _ = some _ := Eq.trans (congrArg (fun q => World.cell? q _) hW_).symm hx9_2
   refine last_ (i := 15) (N := none) ba14_16 rfl rfl (one_of HT_.out (by kernel_rfl)) (by decide) (fun K hK => ?_)
   refine skip_ (w1 := ?_) (by rfl) rfl ?_ ?_
   rotate_left; · go_simp; rfl
   refine hK.out _ _ ?_
   clear hK K
   subst hW_
   refine done_ (done_of HT_.out (by kernel_rfl)) ?_
   try go_wp2
   (try simp only [← hl0_1])
   go_roundg k1
   case measure => have := HK1.out; omega
   case rel => exact ⟨(y420), (wrap64 (x2_1 + 1)), (wrap64 (x3_1 - 1)), er_, er_, H', ⟨by have := HK1.out; omega⟩, ⟨by (try simp only [hl0_1]); (with_reducible repeat (first | apply Kd.R_alloc | apply Kd.R_drewN | apply Kd.R_drew)); exact HQ12.out⟩, ⟨by repeat (first | (with_reducible first | exact HK.out | apply Kept.alloc | apply Kept.drewN | apply Kept.drew | refine Kept.setCell ?_ HMgo8.out _ | refine Kept.setCell ?_ HMgo8.out _ | refine Kept.setCell ?_ HMgo8.out _ | refine Kept.setCell ?_ HMgo8.out _ | refine Kept.setCell ?_ HMgo8.out _ | refine Kept.setCell ?_ HMgo8.out _) | exact HK.out)⟩, ⟨by repeat (first | (with_reducible first | exact HB.out | apply below_alloc | apply pw_below_drewN | apply below_drew1 | refine below_set ?_ GB8.out | refine below_set ?_ GB8.out | refine below_set ?_ GB8.out | refine below_set ?_ GB8.out | refine below_set ?_ GB8.out | refine below_set ?_ GB8.out) | exact HB.out)⟩⟩

-- NOT PRINTED: function 108 (slices_rotateLeft_impl_Route)

-- NOT PRINTED: function 93 (slices_rotateRight_impl_Route)

/-! ### slices_Insert_impl_Route_impl_Route: function 52 -/
section
open Go.Lib
variable {P : Program} {α : Type}
theorem ins_copy {W : World} (t ty e : TypeId) (i0 : TypeInfo) (ht : P.underlying t = some (.slice e)) (hi : P.info? e = some i0) (b o m1 c1 : Nat) (a : Addr) (m2 c2 k : Nat) (cs : List Value) (hk : Nat.min m2 m1 = k) (hn : cs.length = k * i0.size)
  (hsrc : ∀ j v, cs[j]? = some v → W.cell? (a.add j) = some v) (hc : ∀ j, j < cs.length → (W.cell? ⟨b, o + j, none⟩).isSome = true) (hf : ∀ j, j < cs.length → W.frozen? ⟨b, o + j, none⟩ = false) (h1 : ∀ v ∈ cs, v.oneCell' = true) :
  (Builtin.copy_ #[t, t] ty #[.slice (some ⟨b, o, none⟩) m1 c1, .slice (some a) m2 c2]).run P W = .ok (goInt k) (W.setCells b o cs) := by
 have hl := run_firstCells_some (P := P) W i0.size k a m2 c2 cs hn hsrc
 have hst := run_storeCells_cells (P := P) b o cs 0 W (by simpa using hc) (by simpa using hf) h1
 simp only [Nat.add_zero] at hst
 simp [Builtin.copy_, run_underlying ht, Builtin.lenOf, sizeOf, typeInfo, hi, hk, hl, hst]
theorem ins_one {d : Kd α} {W : World} {base : Nat} {ok : Nat → Prop} {ys : List α} {vs : List Value} (hs0 : 0 < d.sz) (h : Reps (d.M W base ok) d.sz ys vs) : ∀ u ∈ vs, u.oneCell' = true := by
 intro u hu
 obtain ⟨q, hq, rfl⟩ := List.mem_iff_getElem.1 hu
 have hql : q / d.sz < ys.length := by
  rw [Nat.div_lt_iff_lt_mul hs0, ← h.1]
  exact hq
 refine d.K_one (d.K_of_M (h.2 (q / d.sz) _ (List.getElem?_eq_getElem hql))) _ ?_
 rw [List.mem_iff_getElem?]
 refine ⟨q % d.sz, ?_⟩
 rw [List.getElem?_take, if_pos (Nat.mod_lt _ hs0), List.getElem?_drop, Nat.mul_comm, Nat.div_add_mod, List.getElem?_eq_getElem hq]
theorem ins_cells {d : Kd α} {W : World} {base e g n c : Nat} {xs : List α} {ok : Nat → Prop} (HO : d.R e W base ok (.slice (some ⟨g, 0, none⟩) n c) xs) :
  ∃ inner cur, Reps (d.M W base (fun k => ok k ∧ k ≠ g)) d.sz xs inner ∧ W.heap[g]? = some (.cells cur e (0, 0)) ∧ cur.size = c * d.sz ∧ cur.toList.take (n * d.sz) = inner ∧ n = xs.length ∧ n ≤ c ∧ c ≤ maxLen ∧ base ≤ g ∧ ok g ∧ ∀ j v, inner[j]? = some v → W.cell? ⟨g, j, none⟩ = some v := by
 obtain ⟨hn, hnc, _⟩ := Kd.R_reads' HO
 obtain ⟨hok, inner, hown, hr⟩ := HO
 rcases hown.2 with ⟨hv, _⟩ | ⟨g', cap', cur, hv, hb, hh, h9, hcm, hcs, htake⟩
 ·cases hv
 injection hv with ha _ hc
 injection ha with ha
 injection ha with hg
 subst hg; subst hc
 rw [← hn] at htake
 refine ⟨inner, cur, hr.imp_ (fun p q hp => d.M_mono (fun k hk => ⟨hk.1, fun e => hk.2 (by simp [Value.ownBlock, e])⟩) hp), hh, hcs, htake, hn, hnc, hcm, hb, hok _ (by simp [Value.ownBlock]), fun j v hj => ?_⟩
 rw [cell_of_row W g j cur e (0, 0) hh, ← Array.getElem?_toList]
 rw [← htake, List.getElem?_take] at hj
 split at hj
 ·exact hj
 ·cases hj
theorem ins_form {d : Kd α} {W : World} {base e : Nat} {v : Value} {xs : List α} {ok : Nat → Prop} (HO : d.R e W base ok v xs) : (v = .slice none 0 0 ∧ xs = []) ∨ ∃ g c, v = .slice (some ⟨g, 0, none⟩) xs.length c ∧ xs.length ≤ c := by
 obtain ⟨hok, inner, hown, hr⟩ := HO
 rcases hown.2 with ⟨hv, h0⟩ | ⟨g', cap', cur, hv, hb, hh, h9, hcm, hcs, htake⟩
 ·exact .inl ⟨hv, List.eq_nil_of_length_eq_zero h0⟩
 ·exact .inr ⟨g', cap', hv, h9⟩
theorem ins_put {d : Kd α} {W : World} {base e g n c j : Nat} {xs ys : List α} {vs : List Value} {ok : Nat → Prop} (HO : d.R e W base ok (.slice (some ⟨g, 0, none⟩) n c) xs) (hv : Reps (d.M W base (fun k => ok k ∧ k ≠ g)) d.sz ys vs) (hj : j ≤ n) (hc : j + ys.length ≤ c) (m : Nat) (hm : m = max n (j + ys.length)) :
  d.R e (W.setCells g (j * d.sz) vs) base ok (.slice (some ⟨g, 0, none⟩) m c) (xs.take j ++ (ys ++ xs.drop (j + ys.length))) ∧ W.grownBy (W.setCells g (j * d.sz) vs) (some g) := by
 obtain ⟨inner, cur, hr, hh, hcs, htake, hn, hnc, hcm, hb, hok, _⟩ := ins_cells HO
 obtain ⟨l, hl⟩ : ∃ l, l = ys.length := ⟨_, rfl⟩
 have hvl : vs.length = l * d.sz := by rw [hv.1, hl]
 rw [← hl] at hc hm ⊢
 have hin : inner.length = n * d.sz := by rw [hr.1, hn]
 have e1 : j * d.sz + l * d.sz = (j + l) * d.sz := (Nat.add_mul _ _ _).symm
 have hjn : j * d.sz ≤ n * d.sz := Nat.mul_le_mul_right _ hj
 have hfit : j * d.sz + vs.length ≤ cur.size := by
  rw [hvl, hcs, e1]
  exact Nat.mul_le_mul_right _ hc
 obtain ⟨cur', h3, h4, h5⟩ := setCells_row vs (j * d.sz) W cur hh hfit
 obtain ⟨s1, s2, s3, s4⟩ := setCells_same g vs (j * d.sz) W
 have hfar : ∀ k', k' ≠ g → (W.setCells g (j * d.sz) vs).heap[k']? = W.heap[k']? := fun k' hk' => setCells_far vs _ k' hk'
 have hml : (xs.take j ++ (ys ++ xs.drop (j + l))).length = m := by
  simp only [List.length_append, List.length_take, List.length_drop, ← hl, ← hn]
  omega
 have hmv : ∀ p q, d.M W base (fun k' => ok k' ∧ k' ≠ g) p q → d.M (W.setCells g (j * d.sz) vs) base (fun k' => ok k' ∧ some k' ≠ (Value.slice (some ⟨g, 0, none⟩) m c).ownBlock) p q := fun p q hp =>
  d.M_mono (fun k' hk' => ⟨hk'.1, fun he => hk'.2 (by simpa [Value.ownBlock] using he)⟩) (d.M_move (fun k' hk' => hfar k' hk'.2) hp)
 have hreps : Reps (d.M W base (fun k => ok k ∧ k ≠ g)) d.sz (xs.take j ++ (ys ++ xs.drop (j + l))) (inner.take (j * d.sz) ++ (vs ++ inner.drop ((j + l) * d.sz))) :=
  Kd.reps_append (Kd.reps_take hr (by omega)) (Kd.reps_append hv (Kd.reps_drop hr))
 refine ⟨⟨fun k' hk' => ?_, _, ⟨by rw [hreps.1], .inr ⟨g, c, cur', by rw [hml], hb, h3, by rw [hml]; omega, hcm, by rw [h4, hcs], ?_⟩⟩, hreps.imp_ hmv⟩, ⟨s1, s2, s3, by rw [s4]; exact Nat.le_refl _, fun k' _ hk' => hfar k' (fun he => hk' (by rw [he]))⟩⟩
 ·have : g = k' := by simpa [Value.ownBlock] using hk'
  rw [← this]; exact hok
 ·rw [hml, h5, ← htake, hvl, e1, List.take_take, Nat.min_eq_left hjn, List.append_assoc]
  rcases Nat.le_total (j + l) n with hle | hle
  ·have hm' : m = n := by omega
   have h7 : (j + l) * d.sz ≤ n * d.sz := Nat.mul_le_mul_right _ hle
   have h8 : (cur.toList.take (j * d.sz)).length = j * d.sz := by
    rw [List.length_take, Array.length_toList, hcs]
    have := Nat.mul_le_mul_right d.sz hnc
    omega
   rw [hm', List.take_append, List.take_of_length_le (l := cur.toList.take (j * d.sz)) (by omega), List.take_append, List.take_of_length_le (l := vs) (by rw [h8, hvl]; omega), h8, hvl, List.drop_take]
   congr 3
   omega
  ·have hm' : m = j + l := by omega
   have h7 : n * d.sz ≤ (j + l) * d.sz := Nat.mul_le_mul_right _ hle
   have h8 : (cur.toList.take (j * d.sz)).length = j * d.sz := by
    rw [List.length_take, Array.length_toList, hcs]
    have := Nat.mul_le_mul_right d.sz hnc
    omega
   rw [hm', List.drop_of_length_le (l := cur.toList.take (n * d.sz)) (by rw [List.length_take]; omega), List.append_nil, ← List.append_assoc]
   exact List.take_left' (by rw [List.length_append, h8, hvl, e1])
theorem ins_from {d : Kd α} {W : World} {base g n c j m1 c1 m2 c2 : Nat} (t ty e : TypeId) (i0 : TypeInfo) (ht : P.underlying t = some (.slice e)) (hi : P.info? e = some i0) (hsz : i0.size = d.sz) (hs0 : 0 < d.sz) {xs ys : List α} {vs : List Value} {a : Addr} {ok : Nat → Prop}
  (HO : d.R e W base ok (.slice (some ⟨g, 0, none⟩) n c) xs) (hv : Reps (d.M W base (fun k => ok k ∧ k ≠ g)) d.sz ys vs) (hsrc : ∀ j v, vs[j]? = some v → W.cell? (a.add j) = some v) (hmin : Nat.min m2 m1 = ys.length) (hj : j ≤ n) (hc : j + ys.length ≤ c) (m : Nat) (hm : m = max n (j + ys.length)) :
  ∃ w1, (Builtin.copy_ #[t, t] ty #[.slice (some ⟨g, j * d.sz, none⟩) m1 c1, .slice (some a) m2 c2]).run P W = .ok (goInt ys.length) w1 ∧ d.R e w1 base ok (.slice (some ⟨g, 0, none⟩) m c) (xs.take j ++ (ys ++ xs.drop (j + ys.length))) ∧ W.grownBy w1 (some g) := by
 obtain ⟨inner, cur, hr, hh, hcs, htake, hn, hnc, hcm, hb, hok, _⟩ := ins_cells HO
 have hfit : j * d.sz + vs.length ≤ cur.size := by
  rw [hv.1, hcs, ← Nat.add_mul]
  exact Nat.mul_le_mul_right _ hc
 exact ⟨_, ins_copy t ty e i0 ht hi g (j * d.sz) m1 c1 a m2 c2 ys.length vs hmin (by rw [hv.1, hsz]) hsrc (fun q hq => by rw [cell_of_row W g _ cur e (0, 0) hh]; simp; omega) (fun q _ => blk_frozen hh _) (ins_one hs0 hv), ins_put HO hv hj hc m hm⟩
theorem ins_make {d : Kd α} {W : World} {base g n c k : Nat} (t tn ty e : TypeId) (i0 : TypeInfo) (z : Value) (ht : P.underlying t = some (.slice e)) (htn : P.underlying tn = some (.int .i64)) (hi : P.info? e = some i0) (hz : i0.zero = some z) (hsz : i0.size = d.sz) (hs0 : 0 < d.sz) (hzs : z.cells.size = d.sz) (z0 : α)
  (hzM : ∀ W, d.M W base (fun _ => False) z0 z.cells.toList) {xs : List α} {ok : Nat → Prop} (HO : d.R e W base ok (.slice (some ⟨g, 0, none⟩) n c) xs) (hbase : base ≤ W.heap.size) (hk : k < n) (hroom : c < n + 1) (hb1 : n ≤ 1048576) (hb2 : i0.bytes ≤ 1048576) :
  ∃ w1 cap, (Builtin.append_ #[t, tn] ty #[.slice (some ⟨g, 0, none⟩) k c, .int .i64 ((n : Int) + 1 - (k : Int))]).run P W = .ok (.slice (some ⟨W.heap.size, 0, none⟩) (n + 1) cap) w1 ∧ n + 1 ≤ cap ∧ cap ≤ 9223372036854775807 ∧ d.R e w1 base (fun k => ok k ∨ W.heap.size ≤ k) (.slice (some ⟨W.heap.size, 0, none⟩) (n + 1) cap) (xs.take k ++ List.replicate (n + 1 - k) z0) ∧ W.grownBy w1 none := by
 obtain ⟨inner, cur, hr, hh, hcs, htake, hn, hnc, hcm, hb, hok, hcell⟩ := ins_cells HO
 have hik : k + (n + 1 - k) = n + 1 := by omega
 have hkk : (n : Int) + 1 - (k : Int) = ((n + 1 - k : Nat) : Int) := by omega
 have hbig : (n + 1) * i0.bytes ≤ 140737488355328 := Nat.le_trans (Nat.mul_le_mul (show n + 1 ≤ 1048577 by omega) hb2) (by decide)
 have hbk : (n + 1 - k) * i0.bytes ≤ 281474976710656 := Nat.le_trans (Nat.mul_le_mul (show n + 1 - k ≤ 1048577 by omega) hb2) (by decide)
 have hrk := Kd.reps_take hr (m := k) (by omega)
 have hold : (Builtin.firstCells i0.size k (.slice (some ⟨g, 0, none⟩) k c)).run P W.drew = .ok (inner.take (k * d.sz)).toArray W.drew := by
  refine run_firstCells_some W.drew i0.size k ⟨g, 0, none⟩ k c _ (by rw [hsz, hrk.1, List.length_take]; congr 1; omega) (fun j v hj => ?_)
  rw [Addr.add_lit, Nat.zero_add]
  rw [List.getElem?_take] at hj
  split at hj
  ·exact hcell j v hj
  ·cases hj
 have h := Lib.run_append_grow_zeros (P := P) W t tn ty e i0 z .i64 .i64 ht htn hi hz (some ⟨g, 0, none⟩) k c _ hold (n + 1 - k) (by omega) (by omega) (by omega) (by omega) hbk (by rw [hik]; exact growslice_fits hroom hbig)
 rw [hik, ← hkk] at h
 have hGn : n + 1 ≤ grownCap W (n + 1) c e := grownCap_ge W _ _ _
 have hGm : grownCap W (n + 1) c e ≤ maxLen := grownCap_le_maxLen W (n + 1) c e (by unfold maxLen; omega)
 generalize grownCap W (n + 1) c e = G at h hGn hGm
 have hgr : W.grownBy (W.drew.alloc (.cells ((inner.take (k * d.sz)).toArray ++ Builtin.zeroCells z.cells (n + 1 - k) ++ Builtin.zeroCells z.cells (G - (n + 1))) e)) none := ⟨rfl, rfl, rfl, by simp, fun k hk hn => (World.grownBy_alloc W.drew _ none).block k hk hn⟩
 have hnew : (W.drew.alloc (.cells ((inner.take (k * d.sz)).toArray ++ Builtin.zeroCells z.cells (n + 1 - k) ++ Builtin.zeroCells z.cells (G - (n + 1))) e)).heap[W.heap.size]? = some (.cells ((inner.take (k * d.sz)).toArray ++ Builtin.zeroCells z.cells (n + 1 - k) ++ Builtin.zeroCells z.cells (G - (n + 1))) e (0, 0)) := heap_alloc_new W.drew _
 generalize W.drew.alloc (.cells ((inner.take (k * d.sz)).toArray ++ Builtin.zeroCells z.cells (n + 1 - k) ++ Builtin.zeroCells z.cells (G - (n + 1))) e) = w1 at h hgr hnew
 refine ⟨w1, G, h, hGn, by unfold maxLen at hGm; omega, ?_, hgr⟩
 have hkl : (inner.take (k * d.sz)).length = k * d.sz := by rw [hrk.1, List.length_take]; congr 1; omega
 have hreps : Reps (d.M w1 base (fun k' => (ok k' ∨ W.heap.size ≤ k') ∧ some k' ≠ (Value.slice (some ⟨W.heap.size, 0, none⟩) (n + 1) G).ownBlock)) d.sz (xs.take k ++ List.replicate (n + 1 - k) z0) (inner.take (k * d.sz) ++ (Builtin.zeroCells z.cells (n + 1 - k)).toList) := by
  refine Kd.reps_append (hrk.imp_ (fun p q hp => ?_)) ((Kd.reps_zeros hzs hs0 (hzM w1) (n + 1 - k)).imp_ (fun p q hp => d.M_mono (fun _ h => h.elim) hp))
  have h1 := d.M_move (w1 := w1) (fun k' hk' => hgr.block k' hk'.2.2.1 (by simp)) (d.M_bound hp)
  exact d.M_mono (fun k' hk' => ⟨.inl hk'.1.1, fun he => by simp [Value.ownBlock] at he; have := hk'.2.2.1; omega⟩) h1
 have hll : (xs.take k ++ List.replicate (n + 1 - k) z0).length = n + 1 := by
  rw [List.length_append, List.length_take, List.length_replicate]; omega
 refine ⟨fun k' hk' => .inr ?_, _, ⟨hreps.1, .inr ⟨W.heap.size, G, _, by rw [hll], hbase, hnew, by rw [hll]; exact hGn, hGm, ?_, ?_⟩⟩, hreps⟩
 ·have : W.heap.size = k' := by simpa [Value.ownBlock] using hk'
  omega
 ·rw [Array.size_append, Array.size_append, size_zeroCells, size_zeroCells, hzs, List.size_toArray, hkl, ← Nat.add_mul, ← Nat.add_mul]
  congr 1
  omega
 ·rw [hll, Array.toList_append, Array.toList_append]
  exact List.take_left' (by rw [List.length_append, hkl, Array.length_toList, size_zeroCells, hzs, ← Nat.add_mul, hik])
end
def slices_Insert_impl_Route_impl_Route.f (l0 : List S30) (a1 : Int) (l2 : List S30) : Option (List S30) := if 0 ≤ a1 then (if a1 ≤ (l0.length : Int) then (if l0.length ≤ 1048576 then (if l2.length = 1 then some (l0.take (a1 : Int).toNat ++ (l2 ++ l0.drop (a1 : Int).toNat)) else none) else none) else none) else none
section
open Go.Lib
theorem ins_step {P : Program} {ops : Array Oper} {o : Oper} {a : Act} {w : World} {K : Act → World → Prop} {Q : Exit → Act → World → Prop} {E : Prop}
  (hg : o.guard = none) (d x : Operand) (dT sT : TypeId) (hop : o.op = Op.call { callee := Callee.builtin Builtin.copy, args := #[d, x], argTypes := #[dT, sT] })
  (v u : Value) (hd : a.eval d = v) (hx : a.eval x = u) {v' : Value} {w' : World} (hr : (Builtin.copy_ #[dT, sT] o.type #[v, u]).run P w = .ok v' w') (hK : K (a.put o.dst v') w') :
  if Region.wanted o (yielded ops a.tmps) = true then Oper.wp P o a w K Q else E := by
 have hw : Region.wanted o (yielded ops a.tmps) = true := by simp [Region.wanted, hg]
 rw [if_pos hw]
 unfold Oper.wp
 simp [execOp, hop, resolve, invoke, builtin, hd, hx, hr, Result.andThen]
 exact hK
theorem ins_plain {P : Program} (w : World) {ops : Array Oper} {rest : List Oper} {o : Oper} {a : Act} {Q : Exit → Act → World → Prop} (hgd : o.guard = none) (d s : Operand) (t t' : TypeId)
  (ho : o.op = .call { callee := .builtin .copy, args := #[d, s], argTypes := #[t, t'] }) (v u : Value) (hd : a.eval d = v) (hs : a.eval s = u) {v' : Value} {w' : World}
  (hr : (Builtin.copy_ #[t, t'] o.type #[v, u]).run P w = .ok v' w') (h : wpList P ops Q rest (a.put o.dst v') w') : wpList P ops Q (o :: rest) a w :=
 wpList_plain hgd fun _ hK => by
  unfold Oper.wp execOp
  simp only [ho, resolve, invoke, builtin, Sem.run_bind, Sem.run_pure, Result.andThen_ok, List.map_toArray, List.map_cons, List.map_nil, hd, hs, hr]
  exact hK _ _ h
end
set_option maxHeartbeats 4000000 in
set_option maxRecDepth 100000 in
theorem slices_Insert_impl_Route_impl_Route.calls (P0_ : Nat → Prop) (u9000_ : Value) (l0 : List S30) (a1 : Int) (P2_ : Nat → Prop) (u9002_ : Value) (l2 : List S30) (r : List S30) (w0 w : World) (hB : Below w0.heap.size w0 w) (ho0 : Kd.R k30 30 w w0.heap.size P0_ u9000_ l0) (hp0_2 : ∀ k_, P0_ k_ → ¬ P2_ k_) (ho2 : Kd.R k30 30 w w0.heap.size P2_ u9002_ l2) (hp2_0 : ∀ k_, P2_ k_ → ¬ P0_ k_) (h : slices_Insert_impl_Route_impl_Route.f l0 a1 l2 = some r) :
  Calls Try.prog 52 #[u9000_, .int .i64 a1, u9002_] w fun e w' => ∃ v0_ : Value, e = .returned (v0_) ∧ Kd.R k30 30 w' w0.heap.size (fun k_ => ((P0_ k_ ∨ P2_ k_) ∨ w.heap.size ≤ k_)) v0_ r ∧ Below w0.heap.size w0 w' ∧ Kept w w' (fun k_ => (P0_ k_ ∨ P2_ k_)) := by
 unfold slices_Insert_impl_Route_impl_Route.f at h
 by_cases c1 : 0 ≤ a1
 rotate_left
 ·rw [if_neg c1] at h; cases h
 rw [if_pos c1] at h
 by_cases c2 : a1 ≤ (l0.length : Int)
 rotate_left
 ·rw [if_neg c2] at h; cases h
 rw [if_pos c2] at h
 by_cases c3 : l0.length ≤ 1048576
 rotate_left
 ·rw [if_neg c3] at h; cases h
 rw [if_pos c3] at h
 by_cases c4 : l2.length = 1
 rotate_left
 ·rw [if_neg c4] at h; cases h
 rw [if_pos c4] at h
 obtain rfl := Option.some.inj h
 clear h
 obtain ⟨i, rfl⟩ := Int.eq_ofNat_of_zero_le c1
 clear c1
 have hiN : i ≤ l0.length := by omega
 obtain ⟨x, rfl⟩ := List.length_eq_one_iff.1 c4
 obtain ⟨g2, cp2, e2, gb2, gl2, cl2, HG2⟩ := Kd.R_form ho2 (by simp)
 subst e2
 have hP2 := ho2.1 g2 (by simp [Value.ownBlock])
 obtain ⟨in2, cur2, hr2, hh2, hcs2, htk2, -, hnc2, hcm2, -, -, hcell2⟩ := ins_cells ho2
 have hK : ∀ {W : World}, Kept w W (fun k_ => (P0_ k_ ∨ P2_ k_)) → Kept w W (fun k_ => (P0_ k_ ∨ P2_ k_)) := fun h => h
 have hM2 : ∀ (W : World) (b : Nat) (ok : Nat → Prop) p q, (k30).M w w0.heap.size (fun k => P2_ k ∧ k ≠ g2) p q → (k30).M W b ok p q := fun W b ok p q hp => by
  obtain rfl := k30_openM hp
  exact k30_mkM W b ok p
 have hM0 : ∀ {p q}, (k30).K w p q → (k30).M w w0.heap.size (fun _ => False) p q := fun {p q} hp => by
  obtain rfl := k30_open hp
  exact k30_mkM w w0.heap.size _ p
 have hok0 := ho0.1
 have HB := Aside0.mk hB
 have HO0 := Aside0.mk ho0
 have HO2 := Aside0.mk ho2
 have HW0 := Aside0.mk hB.size
 rcases ins_form ho0 with ⟨e0, e1⟩ | ⟨g, c, e0, hnc⟩
 ·subst e0
  subst e1
  obtain rfl : i = 0 := by simpa using hiN
  clear ho0 ho2 hB
  have ez : ((0 : Nat) : Int) = 0 := rfl
  simp only [ez]
  go_enter Try.func52, Try.ntmps52
  go_wp2_with (first | ((with_reducible refine gate_builtin (b := .append) (xs := #[.tmp 23, .tmp 24]) rfl ?_); at_builtin; refine Kd.R_append_rows k30 (w0 := w0) w0.heap.size rfl (.tmp 23) (.tmp 24) 24 30 (.agg #[(.int .i64 0), (.int .i64 0), (.int .i64 0)]) 24 rfl Try.underlying24 info30 rfl (by decide) (by omega) (.slice none 0 0) [] [x] _ _ _ (fun k_ => ((P0_ k_ ∨ P2_ k_) ∨ w.heap.size ≤ k_)) (fun _ => False) rfl rfl ?aO ?aR (fun _ _ h => hM0 h) (fun _ h => h.elim) ?aF ?aB ?aS ?aL ?_; (case aO => exact Kd.R_mono HO0.out (fun _ h => .inl (.inl h))); (case aR => exact (Kd.R_reads' HO2.out).2.2); (case aF => exact (fun _ h => .inr h)); (case aB => exact HB.out); (case aS => exact HW0.out); (case aL => first | omega | (have := HL.out; simp; omega) | (simp; done)); intro v1 w1 ho1 hb1 hg hat; have HO1 := Aside0.mk ho1; have HB1 := Aside0.mk hb1; have HG1 := Aside0.mk hg; clear ho1 hb1 hg hat))
  go_ret
  refine ⟨_, rfl, HO1.out, HB1.out, ?_⟩
  exact Kept.of_grown (S := (fun k_ => (P0_ k_ ∨ P2_ k_))) HG1.out (Kept.refl w _) (fun k_ e_ => .inl (.inl (hok0 k_ e_)))
 subst e0
 obtain ⟨n, hL⟩ : ∃ n, n = l0.length := ⟨_, rfl⟩
 rw [← hL] at c2 c3 hiN hnc HO0 hok0 ⊢
 rw [← hL] at ho0
 by_cases ci : i = n
 ·subst ci
  have q0 : (i ≤ c) = True := eq_true hnc
  have hlr : (l0.take (((i : Nat) : Int)).toNat ++ ([x] ++ l0.drop (((i : Nat) : Int)).toNat)) = l0 ++ [x] := by
   rw [Int.toNat_natCast, hL, List.take_length, List.drop_length, List.append_nil]
  rw [hlr]
  have HL := Aside0.mk hL
  clear ho0 ho2 hB hlr hL
  by_cases cc : c = i
  ·subst cc
   go_enter Try.func52, Try.ntmps52
   go_wp2_with (first | ((with_reducible refine gate_builtin (b := .append) (xs := #[.tmp 23, .tmp 24]) rfl ?_); at_builtin; refine Kd.R_append_rows k30 (w0 := w0) w0.heap.size rfl (.tmp 23) (.tmp 24) 24 30 (.agg #[(.int .i64 0), (.int .i64 0), (.int .i64 0)]) 24 rfl Try.underlying24 info30 rfl (by decide) (by omega) (.slice (some ⟨g, 0, none⟩) c c) l0 [x] _ _ _ (fun k_ => ((P0_ k_ ∨ P2_ k_) ∨ w.heap.size ≤ k_)) (fun _ => False) rfl rfl ?aO ?aR (fun _ _ h => hM0 h) (fun _ h => h.elim) ?aF ?aB ?aS ?aL ?_; (case aO => exact Kd.R_mono HO0.out (fun _ h => .inl (.inl h))); (case aR => exact (Kd.R_reads' HO2.out).2.2); (case aF => exact (fun _ h => .inr h)); (case aB => exact HB.out); (case aS => exact HW0.out); (case aL => first | omega | (have := HL.out; simp; omega) | (simp; done)); intro v1 w1 ho1 hb1 hg hat; have HO1 := Aside0.mk ho1; have HB1 := Aside0.mk hb1; have HG1 := Aside0.mk hg; clear ho1 hb1 hg hat))
   go_ret
   refine ⟨_, rfl, HO1.out, HB1.out, ?_⟩
   exact Kept.of_grown (S := (fun k_ => (P0_ k_ ∨ P2_ k_))) HG1.out (Kept.refl w _) (fun k_ e_ => .inl (.inl (hok0 k_ e_)))
  have cc1 : (c = i) = False := eq_false cc
  go_enter Try.func52, Try.ntmps52
  go_wp2_with (first | ((with_reducible refine gate_builtin (b := .append) (xs := #[.tmp 23, .tmp 24]) rfl ?_); at_builtin; refine Kd.R_append_rows k30 (w0 := w0) w0.heap.size rfl (.tmp 23) (.tmp 24) 24 30 (.agg #[(.int .i64 0), (.int .i64 0), (.int .i64 0)]) 24 rfl Try.underlying24 info30 rfl (by decide) (by omega) (.slice (some ⟨g, 0, none⟩) i c) l0 [x] _ _ _ (fun k_ => ((P0_ k_ ∨ P2_ k_) ∨ w.heap.size ≤ k_)) (fun _ => False) rfl rfl ?aO ?aR (fun _ _ h => hM0 h) (fun _ h => h.elim) ?aF ?aB ?aS ?aL ?_; (case aO => exact Kd.R_mono HO0.out (fun _ h => .inl (.inl h))); (case aR => exact (Kd.R_reads' HO2.out).2.2); (case aF => exact (fun _ h => .inr h)); (case aB => exact HB.out); (case aS => exact HW0.out); (case aL => first | omega | (have := HL.out; simp; omega) | (simp; done)); intro v1 w1 ho1 hb1 hg hat; have HO1 := Aside0.mk ho1; have HB1 := Aside0.mk hb1; have HG1 := Aside0.mk hg; clear ho1 hb1 hg hat))
  go_ret
  refine ⟨_, rfl, HO1.out, HB1.out, ?_⟩
  exact Kept.of_grown (S := (fun k_ => (P0_ k_ ∨ P2_ k_))) HG1.out (Kept.refl w _) (fun k_ e_ => .inl (.inl (hok0 k_ e_)))
 have hlt : i < n := by omega
 have HL := Aside0.mk hL
 obtain ⟨in0, cur0, hr0, hh0, hcs0, htk0, -, -, hcm0, gb0, hg0, hcell0⟩ := ins_cells ho0
 have hgN : g < w.heap.size := blk_lt hh0
 have hne : g2 ≠ g := fun e => hp0_2 g (by rw [← e]; rw [e]; exact hg0) (by rw [← e]; exact hP2)
 have hsz3 : (k30).sz = 3 := rfl
 obtain ⟨i0, hi0, hiz⟩ := Option.map_eq_some_iff.1 info30
 simp only [Prod.mk.injEq] at hiz
 obtain ⟨hz0, hzs, hzb⟩ := hiz
 have hMM : ∀ {W W' : World} {b b' : Nat} {ok ok' : Nat → Prop} (p q), (k30).M W b ok p q → (k30).M W' b' ok' p q := fun {W W' b b' ok ok'} p q hp => by
  obtain rfl := k30_openM hp
  exact k30_mkM W' b' ok' p
 have hdl : (l0.drop i).length = n - i := by rw [List.length_drop, ← hL]
 have hrd : Reps ((k30).M w w0.heap.size (fun k => P0_ k ∧ k ≠ g)) 3 (l0.drop i) (in0.drop (i * 3)) := Kd.reps_drop hr0
 have hfin : ∀ A : List S30, A = l0.take i ++ ([x] ++ l0.drop i) → A = l0.take (((i : Nat) : Int)).toNat ++ ([x] ++ l0.drop (((i : Nat) : Int)).toNat) := fun A h => by rw [Int.toNat_natCast]; exact h
 have q1 : ¬ (((i : Nat) : Int) = ((n : Nat) : Int)) := by omega
 have q2 : (((i : Nat) : Int) == ((n : Nat) : Int)) = false := beq_eq_false_iff_ne.mpr q1
 have q3 : (i ≤ n) = True := eq_true hiN
 have q6 : IntKind.i64.wrap ((n : Int) + 1) = (n : Int) + 1 := by rw [IntKind.wrap_i64]; omega
 have q7 : IntKind.i64.wrap ((i : Int) + 1) = (i : Int) + 1 := by rw [IntKind.wrap_i64]; omega
 have q8 : ((i : Int) + 1).toNat = i + 1 := by omega
 have q9 : (c = i) = False := eq_false (by omega)
 by_cases croom : n + 1 ≤ c
 ·have hov : ∀ lb cb, (callFunc 92 #[.slice (some ⟨g2, 0, none⟩) 1 cp2, .slice (some ⟨g, (i + 1) * 3, none⟩) lb cb]).run Try.prog w = .ok (.value (.bool false)) w := fun lb cb => by
   rw [run_callFunc_extern Try.func92 (by kernel_rfl) (by kernel_rfl) (by kernel_rfl) (e := Extern.SlicesOverlaps.overlaps #[24, 24] #[4]) (by kernel_rfl),
    Lib.run_overlaps_apart w 24 4 30 Try.underlying24 3 (fun W => by simp [sizeOf, typeInfo, hi0, hzs]) ⟨g2, 0, none⟩ ⟨g, (i + 1) * 3, none⟩ 1 cp2 lb cb hne 30 30 cur2.size cur0.size (by simp [World.shape?, hh2]) (by simp [World.shape?, hh0]) (by rw [hcs0, hsz3]; omega) (blk_frozen hh2 _) (blk_frozen hh2 _)]
   rfl
  obtain ⟨w1, hr1, HR1, hg1⟩ := ins_from (d := k30) (P := Try.prog) (W := w.drew) (m1 := n + 1 - (i + 1)) (c1 := c - (i + 1)) (m2 := n + 1 - i) (c2 := c - i) (j := i + 1) 24 3 30 i0 Try.underlying24 hi0 hzs (by decide) (ys := l0.drop i) (vs := in0.drop (i * 3)) (a := ⟨g, i * 3, none⟩) (Kd.R_drew ho0) (hrd.imp_ hMM)
   (fun q v hq => by rw [Addr.add_lit]; exact hcell0 _ v (by rwa [List.getElem?_drop] at hq)) (by rw [hdl]; simp only [Nat.min_def]; split <;> omega) (by omega) (by rw [hdl]; omega) (n + 1) (by rw [hdl]; omega)
  have hg1' : w.grownBy w1 (some g) := ⟨hg1.os, hg1.tape, hg1.output, hg1.size, hg1.block⟩
  have hb2 : w1.heap[g2]? = some (.cells cur2 30 (0, 0)) := (hg1'.block g2 (blk_lt hh2) (by simpa using hne)).trans hh2
  have hcell2' : ∀ j v, in2[j]? = some v → w1.cell? ⟨g2, j, none⟩ = some v := fun j v hj => (World.cell?_of_block (hg1'.block g2 (blk_lt hh2) (by simpa using hne))).trans (hcell2 j v hj)
  obtain ⟨w2, hr2', HR2, hg2⟩ := ins_from (d := k30) (P := Try.prog) (W := w1) (m1 := n + 1 - i) (c1 := c - i) (m2 := 1) (c2 := cp2) (j := i) 24 3 30 i0 Try.underlying24 hi0 hzs (by decide) (ys := [x]) (vs := in2) (a := ⟨g2, 0, none⟩) HR1 (hr2.imp_ hMM)
   (fun q v hq => by rw [Addr.add_lit, Nat.zero_add]; exact hcell2' _ v hq) (by simp only [Nat.min_def, List.length_singleton]; split <;> omega) (by omega) (by simp; omega) (n + 1) (by simp; omega)
  have HR2' := Kd.R_mono (ok' := fun k_ => ((P0_ k_ ∨ P2_ k_) ∨ w.heap.size ≤ k_)) HR2 (fun _ h => .inl (.inl h))
  have HE : (l0.take (i + 1) ++ (l0.drop i ++ l0.drop (i + 1 + (l0.drop i).length))).take i ++ ([x] ++ (l0.take (i + 1) ++ (l0.drop i ++ l0.drop (i + 1 + (l0.drop i).length))).drop (i + ([x] : List S30).length)) = l0.take i ++ ([x] ++ l0.drop i) := by
   rw [hdl, List.length_singleton, List.drop_of_length_le (l := l0) (i := i + 1 + (n - i)) (by omega), List.append_nil, List.take_append_of_le_length (by rw [List.length_take]; omega), List.take_take, Nat.min_eq_left (by omega), List.drop_append_of_le_length (by rw [List.length_take]; omega), List.drop_of_length_le (l := l0.take (i + 1)) (by rw [List.length_take]; omega), List.nil_append]
  rw [HE] at HR2'
  rw [Int.toNat_natCast]
  have HBf : Below w0.heap.size w0 w2 := (hB.grown hg1' hB.size (fun k hk => by injection hk with hk; subst hk; exact gb0)).grown hg2 (Nat.le_trans hB.size hg1'.size) (fun k hk => by injection hk with hk; subst hk; exact gb0)
  have HKf : Kept w w2 (fun k_ => (P0_ k_ ∨ P2_ k_)) := Kept.of_grown (S := (fun k_ => (P0_ k_ ∨ P2_ k_))) hg2 (Kept.of_grown (S := (fun k_ => (P0_ k_ ∨ P2_ k_))) hg1' (Kept.refl w _) (fun k_ e_ => by injection e_ with e_; subst e_; exact .inl (.inl hg0))) (fun k_ e_ => by injection e_ with e_; subst e_; exact .inl (.inl hg0))
  simp only [hsz3, hdl, List.length_singleton] at hr1 hr2'
  have HF := Aside0.mk (And.intro HR2' (And.intro HBf HKf))
  have HL1 := Aside0.mk hlt
  clear HR2 HR2' HR1 HBf HKf hrd hr0 hr2 hcell0 hcell2 hcell2' hfin hMM hM0 hM2 hg1 hg1' hg2 hb2 hh0 hh2 ho0 ho2 hL HG2 HO0 HO2 hB HB htk0 htk2 hcs0 hcs2 hdl hp0_2 hp2_0 hK hok0
  have f1 : (n + 1 ≤ c) = True := eq_true croom
  have f2 : ¬ ((c : Int) < (n : Int) + 1) := by omega
  have f3 : (c = i + 1) = False := eq_false (by omega)
  have f4 : (i + 1 ≤ n + 1) = True := eq_true (by omega)
  have f5 : (i ≤ n + 1) = True := eq_true (by omega)
  have f6 : ((i : Int) ≤ (n : Int) + 1) = True := eq_true (by omega)
  have f7 : (0 ≤ (i : Int) + 1) = True := eq_true (by omega)
  have f8 : (0 ≤ (n : Int) + 1) = True := eq_true (by omega)
  have f9 : ((n : Int) + 1 ≤ (c : Int)) = True := eq_true (by omega)
  have f10 : ((n : Int) + 1).toNat = n + 1 := by omega
  go_enter Try.func52, Try.ntmps52
  go_wp2_with (simp only [hov])
  go_region_law (refine ins_step rfl _ _ 24 24 rfl _ _ (by simp [Act.eval, Act.put]) (by simp [Act.eval, Act.put]) hr1 ?_)
  go_wp2_with (at_builtin; refine ins_plain _ rfl _ _ 24 24 rfl _ _ rfl rfl hr2' ?_)
  go_ret
  exact ⟨_, rfl, HF.out.1, HF.out.2.1, HF.out.2.2⟩
 obtain ⟨w1, G, hrA, hGn, hG63, HR1, hg1⟩ := ins_make (d := k30) (P := Try.prog) (W := w) (k := i) 24 3 24 30 i0 _ Try.underlying24 Try.underlying3 hi0 hz0 hzs (by decide) rfl z30 (fun W => k30_mkM W _ _ z30) ho0 hB.size hlt (by omega) c3 (by rw [hzb]; decide)
 have hNg : w.heap.size ≠ g := by omega
 have hNg2 : g2 ≠ w.heap.size := by have := blk_lt hh2; omega
 have hcA2 : ∀ j v, in2[j]? = some v → w1.cell? ⟨g2, j, none⟩ = some v := fun j v hj => (World.cell?_of_block (hg1.block g2 (blk_lt hh2) (by simp))).trans (hcell2 j v hj)
 have hcA0 : ∀ j v, in0[j]? = some v → w1.cell? ⟨g, j, none⟩ = some v := fun j v hj => (World.cell?_of_block (hg1.block g hgN (by simp))).trans (hcell0 j v hj)
 have hg1s : g < w1.heap.size := Nat.lt_of_lt_of_le hgN hg1.size
 obtain ⟨w2, hr2', HR2, hg2⟩ := ins_from (d := k30) (P := Try.prog) (W := w1) (m1 := n + 1 - i) (c1 := G - i) (m2 := 1) (c2 := cp2) (j := i) 24 3 30 i0 Try.underlying24 hi0 hzs (by decide) (ys := [x]) (vs := in2) (a := ⟨g2, 0, none⟩) HR1 (hr2.imp_ hMM)
  (fun q v hq => by rw [Addr.add_lit, Nat.zero_add]; exact hcA2 _ v hq) (by simp only [Nat.min_def, List.length_singleton]; split <;> omega) (by omega) (by simp; omega) (n + 1) (by simp; omega)
 have hcB0 : ∀ j v, in0[j]? = some v → w2.cell? ⟨g, j, none⟩ = some v := fun j v hj => (World.cell?_of_block (hg2.block g hg1s (by simpa using fun e => hNg e.symm))).trans (hcA0 j v hj)
 obtain ⟨w3, hr3, HR3, hg3⟩ := ins_from (d := k30) (P := Try.prog) (W := w2.drew) (m1 := n + 1 - (i + 1)) (c1 := G - (i + 1)) (m2 := n - i) (c2 := c - i) (j := i + 1) 24 3 30 i0 Try.underlying24 hi0 hzs (by decide) (ys := l0.drop i) (vs := in0.drop (i * 3)) (a := ⟨g, i * 3, none⟩) (Kd.R_drew HR2) (hrd.imp_ hMM)
  (fun q v hq => by rw [Addr.add_lit]; exact hcB0 _ v (by rwa [List.getElem?_drop] at hq)) (by rw [hdl]; simp only [Nat.min_def]; split <;> omega) (by omega) (by rw [hdl]; omega) (n + 1) (by rw [hdl]; omega)
 have hg3' : w2.grownBy w3 (some w.heap.size) := ⟨hg3.os, hg3.tape, hg3.output, hg3.size, hg3.block⟩
 have HR3' := Kd.R_mono (ok' := fun k_ => ((P0_ k_ ∨ P2_ k_) ∨ w.heap.size ≤ k_)) HR3 (fun _ h => h.elim (fun z => .inl (.inl z)) .inr)
 have HE : (((l0.take i ++ List.replicate (n + 1 - i) z30).take i ++ ([x] ++ (l0.take i ++ List.replicate (n + 1 - i) z30).drop (i + ([x] : List S30).length))).take (i + 1) ++ (l0.drop i ++ ((l0.take i ++ List.replicate (n + 1 - i) z30).take i ++ ([x] ++ (l0.take i ++ List.replicate (n + 1 - i) z30).drop (i + ([x] : List S30).length))).drop (i + 1 + (l0.drop i).length))) = l0.take i ++ ([x] ++ l0.drop i) := by
  have ha : (l0.take i).length = i := by rw [List.length_take]; omega
  have hb : (l0.take i ++ List.replicate (n + 1 - i) z30).take i = l0.take i := List.take_left' ha
  rw [hb, ← List.append_assoc (l0.take i) [x], List.take_left' (by rw [List.length_append, ha, List.length_singleton]), List.drop_of_length_le (l := (l0.take i ++ [x]) ++ _) (by simp only [List.length_append, List.length_drop, List.length_take, List.length_replicate, List.length_singleton]; omega), List.append_nil, List.append_assoc]
 rw [HE] at HR3'
 rw [Int.toNat_natCast]
 have HBf : Below w0.heap.size w0 w3 := ((hB.grown hg1 hB.size (fun k hk => by cases hk)).grown hg2 (Nat.le_trans hB.size hg1.size) (fun k hk => by injection hk with hk; subst hk; exact hB.size)).grown hg3' (Nat.le_trans hB.size (Nat.le_trans hg1.size hg2.size)) (fun k hk => by injection hk with hk; subst hk; exact hB.size)
 have HKf : Kept w w3 (fun k_ => (P0_ k_ ∨ P2_ k_)) := Kept.of_grown (S := (fun k_ => (P0_ k_ ∨ P2_ k_))) hg3' (Kept.of_grown (S := (fun k_ => (P0_ k_ ∨ P2_ k_))) hg2 (Kept.of_grown (S := (fun k_ => (P0_ k_ ∨ P2_ k_))) hg1 (Kept.refl w _) (fun k_ e_ => by cases e_)) (fun k_ e_ => by injection e_ with e_; subst e_; exact .inr (Nat.le_refl _))) (fun k_ e_ => by injection e_ with e_; subst e_; exact .inr (Nat.le_refl _))
 simp only [hsz3, hdl, List.length_singleton] at hr2' hr3
 have HF := Aside0.mk (And.intro HR3' (And.intro HBf HKf))
 have HL1 := Aside0.mk hlt
 clear HR2 HR3 HR3' HR1 HBf HKf hrd hr0 hr2 hcell0 hcell2 hcA0 hcA2 hcB0 hfin hMM hM0 hM2 hg1 hg2 hg3 hg3' hh0 hh2 ho0 ho2 hL HG2 HO0 HO2 hB HB htk0 htk2 hcs0 hcs2 hdl hp0_2 hp2_0 hK hok0 HE hg1s
 have f2 : ((c : Int) < (n : Int) + 1) := by omega
 have f3 : (G = i) = False := eq_false (by omega)
 have f4 : (i + 1 ≤ n + 1) = True := eq_true (by omega)
 have f5 : (i ≤ n + 1) = True := eq_true (by omega)
 have f6 : ((i : Int) ≤ (n : Int) + 1) = True := eq_true (by omega)
 have f7 : (0 ≤ (i : Int) + 1) = True := eq_true (by omega)
 have f9 : (G = i + 1) = False := eq_false (by omega)
 have f10 : (i ≤ c) = True := eq_true (by omega)
 have f11 : ((i : Int) ≤ (n : Int)) = True := eq_true (by omega)
 have f12 : IntKind.i64.wrap ((n : Int) + 1 - (i : Int)) = (n : Int) + 1 - (i : Int) := by rw [IntKind.wrap_i64]; omega
 go_enter Try.func52, Try.ntmps52
 go_wp2_with (first
  | (at_builtin; refine Lib.wpList_append_run _ rfl _ _ _ _ rfl _ _ rfl rfl _ _ hrA ?_)
  | (at_builtin; refine ins_plain _ rfl _ _ 24 24 rfl _ _ rfl rfl hr2' ?_))
 go_region_law (refine ins_step rfl _ _ 24 24 rfl _ _ (by simp [Act.eval, Act.put]) (by simp [Act.eval, Act.put]) hr3 ?_)
 go_wp2
 go_ret
 exact ⟨_, rfl, HF.out.1, HF.out.2.1, HF.out.2.2⟩

end Go.Proofs.Ytjepmdngbafonaa.QFnRoutes
