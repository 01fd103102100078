/- The plain law of FnExactCover: the program's answer is the reference's. -/
import Derived.Test.YtflfbaofgfandaaStmtFnExactCover
namespace Go.Proofs.Ytflfbaofgfandaa.Pure
open Go.RowKit Go.Proofs.Ytflfbaofgfandaa.QFnExactCover Go.Proofs.YtflfbaofgfandaaC.PrintWords Go.Proofs.YtflfbaofgfandaaC.PrintLast Go.Proofs.YtflfbaofgfandaaC.PrintMore
set_option linter.unusedVariables false
set_option linter.unusedSimpArgs false

theorem len17 {l : Int} (h0 : 0 ≤ l) (h1 : l ≤ 16) : l = 0 ∨ l = 1 ∨ l = 2 ∨ l = 3 ∨ l = 4 ∨ l = 5 ∨ l = 6 ∨ l = 7 ∨ l = 8 ∨ l = 9 ∨ l = 10 ∨ l = 11 ∨ l = 12 ∨ l = 13 ∨ l = 14 ∨ l = 15 ∨ l = 16 := by omega
/-- How many addresses a prefix of length l has. -/
def psz (l : Int) : Int := 2 ^ (16 - l).toNat
theorem psz_pos (l : Int) : 0 < psz l := Int.pow_pos (by decide)
theorem psz_le {l : Int} (h0 : 0 ≤ l) (h1 : l ≤ 16) : psz l ≤ 65536 := by
  rcases len17 h0 h1 with rfl | rfl | rfl | rfl | rfl | rfl | rfl | rfl | rfl | rfl | rfl | rfl | rfl | rfl | rfl | rfl | rfl <;> decide
theorem psz_half {l : Int} (h0 : 0 ≤ l) (h1 : l ≤ 15) : psz l = 2 * psz (l + 1) := by
  rcases len17 h0 (by omega) with rfl | rfl | rfl | rfl | rfl | rfl | rfl | rfl | rfl | rfl | rfl | rfl | rfl | rfl | rfl | rfl | rfl <;> first | decide | omega
theorem psz_top {l : Int} (h0 : 0 ≤ l) (h1 : l ≤ 16) : 65536 = psz l * 2 ^ l.toNat := by
  rcases len17 h0 h1 with rfl | rfl | rfl | rfl | rfl | rfl | rfl | rfl | rfl | rfl | rfl | rfl | rfl | rfl | rfl | rfl | rfl <;> decide
theorem w64 {n : Int} (h0 : -9223372036854775808 ≤ n) (h1 : n ≤ 9223372036854775807) : wrap64 n = n := by unfold wrap64; omega
theorem shl_psz {l : Int} (h0 : 0 ≤ l) (h1 : l ≤ 16) : shl .i64 1 (16 - l) = psz l := by
  rcases len17 h0 h1 with rfl | rfl | rfl | rfl | rfl | rfl | rfl | rfl | rfl | rfl | rfl | rfl | rfl | rfl | rfl | rfl | rfl <;> decide
theorem u64w {n : Int} (h0 : 0 ≤ n) (h1 : n ≤ 16) : IntKind.u64.wrap n = n := by
  rcases len17 h0 h1 with rfl | rfl | rfl | rfl | rfl | rfl | rfl | rfl | rfl | rfl | rfl | rfl | rfl | rfl | rfl | rfl | rfl <;> decide
/-- A valid prefix. -/
def Pok (n l : Int) : Prop := 0 ≤ l ∧ l ≤ 16 ∧ 0 ≤ n ∧ n ≤ 65535 ∧ n % psz l = 0
instance (n l : Int) : Decidable (Pok n l) := by unfold Pok; infer_instance
theorem Pok.top {n l : Int} (h : Pok n l) : n + psz l ≤ 65536 := by
  obtain ⟨h0, h1, h2, h3, h4⟩ := h
  have e := psz_top h0 h1
  have p := psz_pos l
  have d := Int.emod_add_mul_ediv n (psz l)
  rw [h4, Int.zero_add] at d
  have q : n / psz l < 2 ^ l.toNat := by
    apply Int.ediv_lt_of_lt_mul p
    rw [Int.mul_comm]; omega
  have m : psz l * (n / psz l + 1) ≤ psz l * 2 ^ l.toNat := Int.mul_le_mul_of_nonneg_left (by omega) (by omega)
  rw [Int.mul_add] at m
  omega
theorem spec_In (a b c : Int) : spec_l01In.f a b c = some (decide (b ≤ a ∧ a ≤ c)) := by
  unfold spec_l01In.f
  by_cases h : b ≤ a <;> simp [h]
theorem spec_Addr (a : Int) : spec_l01Addr.f a = some (decide (0 ≤ a ∧ a ≤ 65535)) := by
  unfold spec_l01Addr.f; rw [spec_In]; rfl
theorem spec_Size {l : Int} (h0 : 0 ≤ l) (h1 : l ≤ 16) : spec_l01Size2.f l = some (psz l) := by
  unfold spec_l01Size2.f
  rw [w64 (by omega) (by omega), u64w (by omega) (by omega), if_pos (by omega), shl_psz h0 h1]
theorem impl_In (a b c : Int) : impl_within.f a b c = some (decide (b ≤ a ∧ a ≤ c)) := by
  unfold impl_within.f
  by_cases h : b ≤ a <;> simp [h]
theorem impl_Addr (a : Int) : impl_isAddr.f a = some (decide (0 ≤ a ∧ a ≤ 65535)) := by
  unfold impl_isAddr.f; rw [impl_In]; rfl
theorem impl_Size (n : Int) {l : Int} (h0 : 0 ≤ l) (h1 : l ≤ 16) : impl_Prefix_size.f n l = some (psz l) := by
  unfold impl_Prefix_size.f
  rw [w64 (by omega) (by omega), if_pos (by omega), shl_psz h0 h1]
/-- A loop that asks each index and ends at the first refusal. -/
theorem all_loop {F : Nat → Int → Option Bool} {n : Nat} {P : Nat → Prop} {e : Bool}
    (hs : ∀ (k i : Nat), i < n → (∀ j, j < i → P j) → (P i ∧ F (k + 1) i = F k ((i : Int) + 1)) ∨ (¬ P i ∧ F (k + 1) i = some false))
    (he : ∀ k : Nat, (∀ j, j < n → P j) → F (k + 1) n = some e) : ∀ (d k i : Nat), i + d = n → d < k → (∀ j, j < i → P j) →
    ∃ b, F k i = some b ∧ (b = true ↔ ((∀ j, j < n → P j) ∧ e = true)) := by
  intro d
  induction d with
  | zero =>
    intro k i hi hk hp
    obtain ⟨k, rfl⟩ : ∃ m, k = m + 1 := ⟨k - 1, by omega⟩
    obtain rfl : i = n := by omega
    exact ⟨e, he k hp, ⟨fun h => ⟨hp, h⟩, fun h => h.2⟩⟩
  | succ d ih =>
    intro k i hi hk hp
    obtain ⟨k, rfl⟩ : ∃ m, k = m + 1 := ⟨k - 1, by omega⟩
    rcases hs k i (by omega) hp with ⟨h1, h2⟩ | ⟨h1, h2⟩
    · have e1 : (i : Int) + 1 = ((i + 1 : Nat) : Int) := by omega
      rw [h2, e1]
      refine ih k (i + 1) (by omega) (by omega) (fun j hj => ?_)
      by_cases hji : j = i
      · rw [hji]; exact h1
      · exact hp j (by omega)
    · refine ⟨false, h2, ⟨(fun h => by cases h), fun h => absurd (h.1 i (by omega)) h1⟩⟩
/-- A loop that copies a list, element by element. -/
theorem copy_loop {α β : Type} {F : Nat → List α → List β → Int → Option (List β)} {cv : α → β} (z : α) {N : Nat}
    (hs : ∀ (k i : Nat) (x : List α) (y : List β), x.length ≤ N → i < x.length → i < y.length → F (k + 1) x y i = F k x (y.set i (cv (x.getD i z))) ((i : Int) + 1))
    (he : ∀ (k : Nat) (x : List α) (y : List β), F (k + 1) x y x.length = some y) (x : List α) (hN : x.length ≤ N) : ∀ (d k i : Nat) (y : List β), i + d = x.length → d < k → y.length = x.length →
    y.take i = (x.take i).map cv → F k x y i = some (x.map cv) := by
  intro d
  induction d with
  | zero =>
    intro k i y hi hk hl ht
    obtain ⟨k, rfl⟩ : ∃ m, k = m + 1 := ⟨k - 1, by omega⟩
    obtain rfl : i = x.length := by omega
    rw [he]
    rw [List.take_of_length_le (by omega), List.take_of_length_le (by omega)] at ht
    rw [ht]
  | succ d ih =>
    intro k i y hi hk hl ht
    obtain ⟨k, rfl⟩ : ∃ m, k = m + 1 := ⟨k - 1, by omega⟩
    have e1 : (i : Int) + 1 = ((i + 1 : Nat) : Int) := by omega
    rw [hs k i x y hN (by omega) (by omega), e1]
    refine ih k (i + 1) _ (by omega) (by omega) (by rw [List.length_set, hl]) ?_
    have hx : i < x.length := by omega
    have hy : i < y.length := by omega
    rw [List.take_succ_eq_append_getElem (by rw [List.length_set]; exact hy), List.take_succ_eq_append_getElem hx, List.map_append, List.take_set, ht]
    congr 1
    · rw [List.set_eq_of_length_le]
      simp; omega
    · simp [List.getD_eq_getElem?_getD, hx]
/-- Two equal lists, compared element by element. -/
theorem same_loop {α : Type} {F : Nat → List α → List α → Int → Option Bool} {N : Nat}
    (hs : ∀ (k i : Nat) (x : List α), x.length ≤ N → i < x.length → F (k + 1) x x i = F k x x ((i : Int) + 1))
    (he : ∀ (k : Nat) (x : List α), F (k + 1) x x x.length = some true) (x : List α) (hN : x.length ≤ N) : ∀ (d k i : Nat), i + d = x.length → d < k → F k x x i = some true := by
  intro d
  induction d with
  | zero =>
    intro k i hi hk
    obtain ⟨k, rfl⟩ : ∃ m, k = m + 1 := ⟨k - 1, by omega⟩
    obtain rfl : i = x.length := by omega
    exact he k x
  | succ d ih =>
    intro k i hi hk
    obtain ⟨k, rfl⟩ : ∃ m, k = m + 1 := ⟨k - 1, by omega⟩
    have e1 : (i : Int) + 1 = ((i + 1 : Nat) : Int) := by omega
    rw [hs k i x hN (by omega), e1]
    exact ih k (i + 1) (by omega) (by omega)
theorem psz_split {m l : Int} (h0 : 0 ≤ m) (h1 : m ≤ l) (h2 : l ≤ 16) : psz m = psz l * 2 ^ (l - m).toNat := by
  unfold psz
  rw [← Int.pow_add]
  congr 1
  omega
theorem psz_mod {a m l : Int} (h0 : 0 ≤ m) (h1 : m ≤ l) (h2 : l ≤ 16) (h : a % psz m = 0) : a % psz l = 0 := by
  rw [psz_split h0 h1 h2] at h
  have d := Int.emod_add_mul_ediv a (psz l * 2 ^ (l - m).toNat)
  rw [h, Int.zero_add, Int.mul_assoc] at d
  rw [← d]
  exact Int.mul_emod_right _ _
theorem mult_le {a b z : Int} (hz : 0 < z) (ha : a % z = 0) (hb : b % z = 0) (h : a < b + z) : a ≤ b := by
  have da := Int.emod_add_mul_ediv a z
  have db := Int.emod_add_mul_ediv b z
  rw [ha, Int.zero_add] at da
  rw [hb, Int.zero_add] at db
  have h2 : z * (a / z) < z * (b / z + 1) := by
    rw [Int.mul_add, da, db]
    omega
  have h3 : a / z < b / z + 1 := Int.lt_of_mul_lt_mul_left h2 (Int.le_of_lt hz)
  have h4 : z * (a / z) ≤ z * (b / z) := Int.mul_le_mul_of_nonneg_left (by omega) (Int.le_of_lt hz)
  rw [da, db] at h4
  exact h4
/-- A block is wanted as a whole. -/
def Whole (F T s l : Int) : Prop := F ≤ s ∧ s + psz l - 1 ≤ T
/-- No greater block around it is wanted as a whole. -/
def NF (F T s l : Int) : Prop := ∀ s' m, m < l → Pok s' m → s' ≤ s → s < s' + psz m → ¬ Whole F T s' m
theorem NF.child {F T s l h : Int} (p : Pok s l) (hl : l < 16) (hN : NF F T s l) (hw : ¬ Whole F T s l) (h0 : 0 ≤ h) (h1 : h < psz l) : NF F T (s + h) (l + 1) := by
  intro s' m hm p' a1 a2
  obtain ⟨b0, b1, b2, b3, b4⟩ := p
  obtain ⟨c0, c1, c2, c3, c4⟩ := p'
  have z := psz_pos l
  have al := psz_mod c0 (show m ≤ l by omega) b1 c4
  have le := mult_le z al b4 (show s' < s + psz l by omega)
  by_cases c : m = l
  · subst c
    have le2 := mult_le z b4 al (show s < s' + psz m by omega)
    have e : s' = s := by omega
    rw [e]
    exact hw
  · exact hN s' m (by omega) ⟨c0, c1, c2, c3, c4⟩ le (by omega)
/-- How many wanted addresses a block has. -/
def cntB (F T s l : Int) : Int := mx 0 (mn T (s + psz l - 1) - mx F s + 1)
theorem count_ok {F T s l : Int} (hF : 0 ≤ F ∧ F ≤ 65535) (hT : 0 ≤ T ∧ T ≤ 65535) (p : Pok s l) : impl_Cover_1.f s l [T] [F] = some (cntB F T s l) := by
  obtain ⟨b0, b1, b2, b3, b4⟩ := p
  have z := psz_pos l
  have z2 := psz_le b0 b1
  have e1 : rd [T] 0 = T := rfl
  have e2 : rd [F] 0 = F := rfl
  have m1 : -70000 ≤ mn T (s + psz l - 1) ∧ mn T (s + psz l - 1) ≤ 200000 := by unfold mn; split <;> omega
  have m2 : 0 ≤ mx F s ∧ mx F s ≤ 70000 := by unfold mx; split <;> omega
  unfold impl_Cover_1.f cntB
  rw [if_pos (by simp), impl_Size s b0 b1]
  simp only [Option.bind_some]
  rw [if_pos (by simp), e1, e2, w64 (n := s + psz l) (by omega) (by omega), w64 (n := s + psz l - 1) (by omega) (by omega), w64 (n := mn T (s + psz l - 1) - mx F s) (by omega) (by omega), w64 (n := mn T (s + psz l - 1) - mx F s + 1) (by omega) (by omega)]
theorem cnt_zero {F T s l : Int} (h : cntB F T s l = 0) : s + psz l - 1 < F ∨ T < s ∨ T < F := by
  have z := psz_pos l
  unfold cntB mx mn at h
  split at h <;> split at h <;> split at h <;> omega
theorem cnt_pos {F T s l : Int} (h : ¬ cntB F T s l = 0) : F ≤ s + psz l - 1 ∧ s ≤ T := by
  have z := psz_pos l
  unfold cntB mx mn at h
  split at h <;> split at h <;> split at h <;> omega
theorem cnt_full {F T s l : Int} : cntB F T s l = psz l ↔ Whole F T s l := by
  have z := psz_pos l
  unfold cntB mx mn Whole
  split <;> split <;> split <;> omega
/-- The reference takes the greatest block that begins at a and is wanted as a whole. -/
theorem pick_ok {T : Int} (hT : 0 ≤ T ∧ T ≤ 65535) {a : Int} (ha : 0 ≤ a ∧ a ≤ T) {acc : List S34} (hl : acc.length ≤ 1000000) {l : Int} (h0 : 0 ≤ l) (h1 : l ≤ 16) (g : a % psz l = 0 ∧ a + psz l - 1 ≤ T) (hn : ∀ j, 0 ≤ j → j < l → ¬ (a % psz j = 0 ∧ a + psz j - 1 ≤ T)) (k : Nat) : ∀ (d : Nat) (j : Int) (K : Nat), j + d = l → 0 ≤ j → K = k + d + 1 → spec_Cover.l1 K T acc a j = spec_Cover.l0 k T (acc ++ [(⟨a, l⟩ : S34)]) (a + psz l) := by
  intro d
  induction d with
  | zero =>
    intro j K hj hj0 hK
    subst hK
    have e : j = l := by omega
    subst e
    have z := psz_pos j
    have z2 := psz_le h0 h1
    simp only [spec_Cover.l1]
    rw [spec_Size h0 h1]
    simp only [Option.bind_some]
    rw [if_neg (by omega), Int.tmod_eq_emod_of_nonneg ha.1, if_pos g.1, w64 (n := a + psz j) (by omega) (by omega), w64 (n := a + psz j - 1) (by omega) (by omega), if_neg (by omega), if_pos (by omega)]
  | succ d ih =>
    intro j K hj hj0 hK
    obtain ⟨K, rfl⟩ : ∃ m, K = m + 1 := ⟨K - 1, by omega⟩
    have z := psz_pos j
    have z2 := psz_le hj0 (show j ≤ 16 by omega)
    have nx := ih (j + 1) K (by omega) (by omega) (by omega)
    have no := hn j hj0 (by omega)
    simp only [spec_Cover.l1]
    rw [spec_Size hj0 (by omega)]
    simp only [Option.bind_some]
    rw [if_neg (by omega), Int.tmod_eq_emod_of_nonneg ha.1, w64 (n := a + psz j) (by omega) (by omega), w64 (n := a + psz j - 1) (by omega) (by omega), w64 (n := j + 1) (by omega) (by omega)]
    by_cases c : a % psz j = 0
    · rw [if_pos c, if_pos (by omega)]
      exact nx
    · rw [if_neg c]
      exact nx
/-- One block, told by both. -/
theorem block_ok {F T : Int} (hF : 0 ≤ F ∧ F ≤ 65535) (hT : 0 ≤ T ∧ T ≤ 65535) (hFT : F ≤ T) : ∀ (d : Nat) (s l : Int), l + d = 16 → Pok s l → NF F T s l →
    ∃ (out : List S34) (c : Nat), (out.length : Int) ≤ psz l ∧ (c : Int) ≤ psz l * 20 ∧ (∀ (acc : List S34) (k : Nat), (acc.length : Int) + psz l ≤ 1000000 → d < k → impl_shortest.f k s l [T] [F] acc = some (acc ++ out)) ∧
      ((s + psz l - 1 < F ∨ T < s) → out = []) ∧
      (F ≤ s + psz l - 1 → s ≤ T → ∀ (acc : List S34) (k : Nat), (acc.length : Int) + psz l ≤ 1000000 → spec_Cover.l0 (k + c) T acc (mx F s) = spec_Cover.l0 k T (acc ++ out) (mn T (s + psz l - 1) + 1)) := by
  intro d
  induction d with
  | zero =>
    intro s l hl p hN
    have p' := p
    obtain ⟨b0, b1, b2, b3, b4⟩ := p'
    have e : psz l = 1 := by
      have : l = 16 := by omega
      rw [this]; decide
    by_cases c0 : cntB F T s l = 0
    · have z := cnt_zero c0
      refine ⟨[], 0, by simp; omega, by omega, fun acc k ha hk => ?_, fun _ => rfl, fun h1 h2 => by omega⟩
      obtain ⟨k, rfl⟩ : ∃ m, k = m + 1 := ⟨k - 1, by omega⟩
      simp only [impl_shortest.f]
      rw [count_ok hF hT p]
      simp only [Option.bind_some]
      rw [if_pos c0, List.append_nil]
    · have z := cnt_pos c0
      have w : Whole F T s l := by unfold Whole; omega
      refine ⟨[⟨s, l⟩], 18, by simp; omega, by omega, fun acc k ha hk => ?_, fun h => by omega, fun h1 h2 acc k ha => ?_⟩
      · obtain ⟨k, rfl⟩ : ∃ m, k = m + 1 := ⟨k - 1, by omega⟩
        simp only [impl_shortest.f]
        rw [count_ok hF hT p]
        simp only [Option.bind_some]
        rw [if_neg c0, impl_Size s b0 b1]
        simp only [Option.bind_some]
        rw [if_pos (cnt_full.2 w), if_pos (by omega)]
      · unfold Whole at w
        have em : mx F s = s := by unfold mx; split <;> omega
        have en : mn T (s + psz l - 1) + 1 = s + psz l := by unfold mn; split <;> omega
        have hl16 : l = 16 := by omega
        have q := pick_ok hT (a := s) (by omega) (acc := acc) (by omega) b0 b1 ⟨b4, by omega⟩ (fun j j0 j1 hj => hN s j j1 ⟨j0, by omega, b2, b3, hj.1⟩ (Int.le_refl _) (by have := psz_pos j; omega) ⟨w.1, hj.2⟩) k 16 0 (k + 17) (by omega) (by omega) (by omega)
        rw [em, en]
        have ek : k + 18 = (k + 17) + 1 := rfl
        rw [ek]
        simp only [spec_Cover.l0]
        rw [if_pos (by omega), q]
  | succ d ih =>
    intro s l hl p hN
    have p' := p
    obtain ⟨b0, b1, b2, b3, b4⟩ := p'
    have tp := p.top
    have hz := psz_half b0 (show l ≤ 15 by omega)
    have zp := psz_pos (l + 1)
    have z16 := psz_le b0 b1
    by_cases c0 : cntB F T s l = 0
    · have z := cnt_zero c0
      refine ⟨[], 0, by simp; omega, by omega, fun acc k ha hk => ?_, fun _ => rfl, fun h1 h2 => by omega⟩
      obtain ⟨k, rfl⟩ : ∃ m, k = m + 1 := ⟨k - 1, by omega⟩
      simp only [impl_shortest.f]
      rw [count_ok hF hT p]
      simp only [Option.bind_some]
      rw [if_pos c0, List.append_nil]
    · have z := cnt_pos c0
      by_cases w : Whole F T s l
      · have w' := w
        unfold Whole at w'
        refine ⟨[⟨s, l⟩], l.toNat + 2, by simp; omega, by omega, fun acc k ha hk => ?_, fun h => by omega, fun h1 h2 acc k ha => ?_⟩
        · obtain ⟨k, rfl⟩ : ∃ m, k = m + 1 := ⟨k - 1, by omega⟩
          simp only [impl_shortest.f]
          rw [count_ok hF hT p]
          simp only [Option.bind_some]
          rw [if_neg c0, impl_Size s b0 b1]
          simp only [Option.bind_some]
          rw [if_pos (cnt_full.2 w), if_pos (by omega)]
        · have em : mx F s = s := by unfold mx; split <;> omega
          have en : mn T (s + psz l - 1) + 1 = s + psz l := by unfold mn; split <;> omega
          have q := pick_ok hT (a := s) (by omega) (acc := acc) (by omega) b0 b1 ⟨b4, by omega⟩ (fun j j0 j1 hj => hN s j j1 ⟨j0, by omega, b2, b3, hj.1⟩ (Int.le_refl _) (by have := psz_pos j; omega) ⟨w'.1, hj.2⟩) k l.toNat 0 (k + l.toNat + 1) (by omega) (by omega) (by omega)
          rw [em, en]
          have ek : k + (l.toNat + 2) = (k + l.toNat + 1) + 1 := by omega
          rw [ek]
          simp only [spec_Cover.l0]
          rw [if_pos (by omega), q]
      · -- the halves
        have md := psz_mod (a := s) b0 (show l ≤ l + 1 by omega) (by omega) b4
        have p1 : Pok s (l + 1) := ⟨by omega, by omega, b2, b3, md⟩
        have md2 : (s + psz (l + 1)) % psz (l + 1) = 0 := by rw [Int.add_emod_right]; exact md
        have p2 : Pok (s + psz (l + 1)) (l + 1) := ⟨by omega, by omega, by omega, by omega, md2⟩
        have n1 := NF.child p (by omega) hN w (h := 0) (by omega) (by omega)
        rw [Int.add_zero] at n1
        have n2 := NF.child p (by omega) hN w (h := psz (l + 1)) (by omega) (by omega)
        obtain ⟨o1, c1, x1, x2, x3, x4, x5⟩ := ih s (l + 1) (by omega) p1 n1
        obtain ⟨o2, c2, y1, y2, y3, y4, y5⟩ := ih (s + psz (l + 1)) (l + 1) (by omega) p2 n2
        refine ⟨o1 ++ o2, (if F ≤ s + psz (l + 1) - 1 then c1 else 0) + (if s + psz (l + 1) ≤ T then c2 else 0), by rw [List.length_append]; omega, by split <;> split <;> omega, fun acc k ha hk => ?_, fun h => by omega, fun h1 h2 acc k ha => ?_⟩
        · obtain ⟨k, rfl⟩ : ∃ m, k = m + 1 := ⟨k - 1, by omega⟩
          have td : Int.tdiv (psz l) 2 = psz (l + 1) := by rw [Int.tdiv_eq_ediv_of_nonneg (by omega)]; omega
          have ne : ¬ cntB F T s l = psz l := fun h => w (cnt_full.1 h)
          have hv : impl_Prefix_halves.f s l = some (s, l + 1, s + psz (l + 1), l + 1) := by
            unfold impl_Prefix_halves.f
            rw [impl_Size s b0 b1]
            simp only [Option.bind_some]
            rw [td, w64 (n := l + 1) (by omega) (by omega), w64 (n := psz (l + 1)) (by omega) (by omega), w64 (n := s + psz (l + 1)) (by omega) (by omega)]
          simp only [impl_shortest.f]
          rw [count_ok hF hT p]
          simp only [Option.bind_some]
          rw [if_neg c0, impl_Size s b0 b1]
          simp only [Option.bind_some]
          rw [if_neg ne, hv]
          simp only [Option.bind_some]
          rw [x3 acc k (by omega) (by omega)]
          simp only [Option.bind_some]
          rw [y3 (acc ++ o1) k (by rw [List.length_append]; omega) (by omega)]
          simp only [Option.bind_some]
          rw [List.append_assoc]
        · by_cases f1 : F ≤ s + psz (l + 1) - 1
          · rw [if_pos f1]
            by_cases f2 : s + psz (l + 1) ≤ T
            · rw [if_pos f2]
              have u1 := x5 f1 (by omega) acc (k + c2) (by omega)
              have u2 := y5 (by omega) f2 (acc ++ o1) k (by rw [List.length_append]; omega)
              have ek : k + (c1 + c2) = k + c2 + c1 := by omega
              have e1 : mn T (s + psz (l + 1) - 1) + 1 = mx F (s + psz (l + 1)) := by unfold mn mx; split <;> split <;> omega
              have e2 : s + psz (l + 1) + psz (l + 1) - 1 = s + psz l - 1 := by omega
              rw [ek, u1, e1, u2, e2, List.append_assoc]
            · rw [if_neg f2, y4 (.inr (by omega)), List.append_nil]
              have u1 := x5 f1 (by omega) acc k (by omega)
              have e1 : mn T (s + psz (l + 1) - 1) = mn T (s + psz l - 1) := by unfold mn; split <;> split <;> omega
              rw [Nat.add_zero, u1, e1]
          · rw [if_neg f1, if_pos (by omega), x4 (.inl (by omega)), List.nil_append]
            have u2 := y5 (by omega) (by omega) acc k (by omega)
            have e1 : mx F (s + psz (l + 1)) = mx F s := by unfold mx; split <;> split <;> omega
            have e2 : s + psz (l + 1) + psz (l + 1) - 1 = s + psz l - 1 := by omega
            rw [e1, e2] at u2
            rw [Nat.zero_add, u2]
theorem both_Cover (F T : Int) : ∃ (r : List S34) (ok : Bool), r.length ≤ 65536 ∧ ∀ k, 1400000 < k → spec_Cover.f k F T = some (r, ok) ∧ impl_Cover.f k F T = some (r, ok) := by
  by_cases c : (0 ≤ F ∧ F ≤ 65535) ∧ (0 ≤ T ∧ T ≤ 65535)
  · obtain ⟨hF, hT⟩ := c
    by_cases c2 : T < F
    · refine ⟨[], false, Nat.zero_le _, fun k hk => ?_⟩
      obtain ⟨k, rfl⟩ : ∃ m, k = m + 1 := ⟨k - 1, by omega⟩
      unfold spec_Cover.f impl_Cover.f
      rw [spec_Addr, spec_Addr, impl_Addr, impl_Addr, decide_eq_true hF, decide_eq_true hT]
      simp only [Option.bind_some, if_true, spec_Cover.j0]
      rw [decide_eq_true c2, if_pos rfl, if_pos c2]
      exact ⟨rfl, rfl⟩
    · have e16 : psz 0 = 65536 := by decide
      obtain ⟨out, c, x1, x2, x3, _, x5⟩ := block_ok hF hT (by omega) 16 0 0 (by omega) ⟨by omega, by omega, by omega, by omega, by rw [e16]; rfl⟩ (fun s' m hm p' => by have := p'.1; omega)
      rw [e16] at x1 x2 x3 x5
      have em : mx F 0 = F := by unfold mx; split <;> omega
      have en : mn T (0 + 65536 - 1) + 1 = T + 1 := by unfold mn; split <;> omega
      refine ⟨out, true, by omega, fun k hk => ?_⟩
      obtain ⟨k, rfl⟩ : ∃ m, k = (m + 1 + c) + 1 := ⟨k - c - 2, by omega⟩
      have z1 := x3 [] (k + 1 + c + 1) (by simp) (by omega)
      have z2 := x5 (by omega) (by omega) [] (k + 1) (by simp)
      rw [em, en, List.nil_append] at z2
      rw [List.nil_append] at z1
      have z3 : spec_Cover.l0 (k + 1) T out (T + 1) = some (out, true) := by
        simp only [spec_Cover.l0]
        rw [if_neg (by omega)]
      rw [z3] at z2
      unfold spec_Cover.f impl_Cover.f
      rw [spec_Addr, spec_Addr, impl_Addr, impl_Addr, decide_eq_true hF, decide_eq_true hT]
      simp only [Option.bind_some, if_true, spec_Cover.j0]
      rw [decide_eq_false c2, if_neg (by decide), if_neg c2, z1, z2]
      exact ⟨rfl, rfl⟩
  · refine ⟨[], false, Nat.zero_le _, fun k hk => ?_⟩
    obtain ⟨k, rfl⟩ : ∃ m, k = m + 1 := ⟨k - 1, by omega⟩
    unfold spec_Cover.f impl_Cover.f
    rw [spec_Addr, spec_Addr, impl_Addr, impl_Addr]
    simp only [Option.bind_some, spec_Cover.j0]
    by_cases hF : 0 ≤ F ∧ F ≤ 65535
    · have hT : ¬ (0 ≤ T ∧ T ≤ 65535) := fun hT => c ⟨hF, hT⟩
      rw [decide_eq_true hF, decide_eq_false hT]
      simp
    · rw [decide_eq_false hF]
      simp
theorem eq_PrefixS {l : List S34} {k : Nat} (h : l.length ≤ 1048576) (hk : l.length < k) : laws_eqPrefixS.f k l l = some true := by
  unfold laws_eqPrefixS.f
  rw [if_pos rfl]
  refine same_loop (F := laws_eqPrefixS.l0) (N := 1048576) ?_ ?_ l h l.length k 0 (by omega) hk
  · intro k i x hN hx
    simp only [laws_eqPrefixS.l0]
    rw [if_pos (by omega), if_pos (by omega), if_pos (by omega)]
    unfold laws_eqPrefix.f
    simp only [if_true, Option.bind_some]
    rw [w64 (by omega) (by omega)]
  · intro k x
    simp only [laws_eqPrefixS.l0]
    rw [if_neg (by omega)]
theorem rd_getP {x : List S34} {j : Nat} : rd_T34 x j = x.getD j z34 := by
  unfold rd_T34
  rw [Int.toNat_natCast]
theorem rdP_set {x : List S34} {i j : Nat} (v : S34) (hi : i < x.length) : rd_T34 (x.set i v) j = if i = j then v else rd_T34 x j := by
  rw [rd_getP, rd_getP, List.getD_eq_getElem?_getD, List.getD_eq_getElem?_getD, List.getElem?_set]
  by_cases c : i = j
  · subst c; simp [hi]
  · simp [c]
theorem mark_PrefixS2 (a : Int) (h0 : 0 ≤ a) (ha : a ≤ 10485760) {l : List S34} {k : Nat} (h : l.length ≤ 1048576) (hk : l.length < k) :
    ∃ M, laws_markPrefixS.f k l a = some (a + 2 * l.length, M) ∧ M.length = l.length ∧ ∀ j : Nat, j < l.length → rd_T34 M j = (⟨a + 2 * (j : Int), a + 2 * (j : Int) + 1⟩ : S34) := by
  have key : ∀ (d k i : Nat) (x : List S34), i + d = x.length → d < k → x.length ≤ 1048576 → (∀ j : Nat, j < i → rd_T34 x j = (⟨a + 2 * (j : Int), a + 2 * (j : Int) + 1⟩ : S34)) →
      ∃ M, laws_markPrefixS.l0 k x (a + 2 * i) i = some (a + 2 * x.length, M) ∧ M.length = x.length ∧ ∀ j : Nat, j < x.length → rd_T34 M j = (⟨a + 2 * (j : Int), a + 2 * (j : Int) + 1⟩ : S34) := by
    intro d
    induction d with
    | zero =>
      intro k i x hi hk hx hj
      obtain ⟨k, rfl⟩ : ∃ m, k = m + 1 := ⟨k - 1, by omega⟩
      obtain rfl : i = x.length := by omega
      simp only [laws_markPrefixS.l0]
      rw [if_neg (by omega)]
      exact ⟨x, rfl, rfl, hj⟩
    | succ d ih =>
      intro k i x hi hk hx hj
      obtain ⟨k, rfl⟩ : ∃ m, k = m + 1 := ⟨k - 1, by omega⟩
      have hil : i < x.length := by omega
      have hfin : ∃ M, laws_markPrefixS.l0 k (x.set i (⟨a + 2 * (i : Int), a + 2 * (i : Int) + 1⟩ : S34)) (a + 2 * ((i + 1 : Nat) : Int)) ((i + 1 : Nat) : Int) = some (a + 2 * x.length, M) ∧ M.length = x.length ∧ ∀ j : Nat, j < x.length → rd_T34 M j = (⟨a + 2 * (j : Int), a + 2 * (j : Int) + 1⟩ : S34) := by
        have z := ih k (i + 1) (x.set i (⟨a + 2 * (i : Int), a + 2 * (i : Int) + 1⟩ : S34)) (by rw [List.length_set]; omega) (by omega) (by rw [List.length_set]; exact hx) (fun j hj2 => by
          rw [rdP_set _ hil]
          by_cases c : i = j
          · subst c; rw [if_pos rfl]
          · rw [if_neg c]; exact hj j (by omega))
        rw [List.length_set] at z; exact z
      simp only [laws_markPrefixS.l0, Option.bind_some]
      rw [if_pos (by omega), if_pos (by omega)]
      simp only [Int.toNat_natCast, List.set_set, rdP_set _ hil, if_true]
      have w1 : wrap64 (a + 2 * (i : Int) + 1) = a + 2 * (i : Int) + 1 := w64 (by omega) (by omega)
      have w2' : wrap64 (a + 2 * (i : Int) + 1 + 1) = a + 2 * ((i + 1 : Nat) : Int) := by rw [w64 (by omega) (by omega)]; omega
      have w4 : wrap64 ((i : Int) + 1) = ((i + 1 : Nat) : Int) := by rw [w64 (by omega) (by omega)]; omega
      rw [w1, w2', w4]
      exact hfin
  have z := key l.length k 0 l (by omega) hk h (fun j hj => by omega)
  have e : a + 2 * ((0 : Nat) : Int) = a := by omega
  rw [e] at z
  exact z
theorem held_PrefixS2 (a : Int) (h0 : 0 ≤ a) (ha : a ≤ 10485760) {M : List S34} {k : Nat} (h : M.length ≤ 1048576) (hk : M.length < k) (hM : ∀ j : Nat, j < M.length → rd_T34 M j = (⟨a + 2 * (j : Int), a + 2 * (j : Int) + 1⟩ : S34)) : laws_heldPrefixS.f k M a = some (a + 2 * M.length) := by
  have key : ∀ (d k i : Nat), i + d = M.length → d < k → laws_heldPrefixS.l0 k M (a + 2 * i) i = some (a + 2 * M.length) := by
    intro d
    induction d with
    | zero =>
      intro k i hi hk
      obtain ⟨k, rfl⟩ : ∃ m, k = m + 1 := ⟨k - 1, by omega⟩
      obtain rfl : i = M.length := by omega
      simp only [laws_heldPrefixS.l0]
      rw [if_neg (by omega)]
    | succ d ih =>
      intro k i hi hk
      obtain ⟨k, rfl⟩ : ∃ m, k = m + 1 := ⟨k - 1, by omega⟩
      have z := ih k (i + 1) (by omega) (by omega)
      have w1 : wrap64 (a + 2 * (i : Int) + 1) = a + 2 * (i : Int) + 1 := w64 (by omega) (by omega)
      have w2' : wrap64 (a + 2 * (i : Int) + 1 + 1) = a + 2 * ((i + 1 : Nat) : Int) := by rw [w64 (by omega) (by omega)]; omega
      have w4 : wrap64 ((i : Int) + 1) = ((i + 1 : Nat) : Int) := by rw [w64 (by omega) (by omega)]; omega
      have c1 : (i : Int) < (M.length : Int) := by clear w1 w2' w4 z; omega
      have c2 : (0 : Int) ≤ (i : Int) := by clear w1 w2' w4 z; omega
      simp only [laws_heldPrefixS.l0]
      rw [if_pos c1, if_pos c2, hM i (by clear w1 w2' w4 z; omega), w1, if_pos rfl, if_pos rfl, w2', w4]
      exact z
  have z := key M.length k 0 (by omega) hk
  have e : a + 2 * ((0 : Nat) : Int) = a := by omega
  rw [e] at z
  exact z
theorem FnExactCover : FnExactCover.Pure := by
  intro F T _ _
  obtain ⟨r, ok, hlen, hr⟩ := both_Cover F T
  obtain ⟨K, hK⟩ : ∃ K, K = 1500000 := ⟨_, rfl⟩
  refine ⟨K + 3, ?_⟩
  have hs := (hr (K + 3) (by omega)).1
  have hi := (hr (K + 3) (by omega)).2
  have hi2 := (hr (K + 2) (by omega)).2
  obtain ⟨M, m1, m2, m3⟩ := mark_PrefixS2 1 (by omega) (by omega) (l := r) (k := K + 2) (by omega) (by omega)
  have m5 := held_PrefixS2 1 (by omega) (by omega) (M := M) (k := K + 2) (by omega) (by omega) (by rw [m2]; exact m3)
  have m6 := held_PrefixS2 1 (by omega) (by omega) (M := M) (k := K + 1) (by omega) (by omega) (by rw [m2]; exact m3)
  unfold laws_FnExactCover.f
  rw [hs]
  simp only [Option.bind_some]
  rw [hi]
  simp only [Option.bind_some]
  rw [eq_PrefixS (by omega) (by omega)]
  simp only [Option.bind_some, if_true, bne_self_eq_false]
  simp only [laws_FnExactCover.j0]
  rw [if_neg (by decide), m1]
  simp only [Option.bind_some]
  rw [m5, m2]
  simp only [Option.bind_some]
  rw [if_neg (by omega), if_pos trivial, hi2]
  simp only [Option.bind_some]
  rw [eq_PrefixS (by omega) (by omega)]
  simp only [Option.bind_some, if_true, bne_self_eq_false]
  simp only [laws_FnExactCover.j1]
  rw [if_neg (by decide), m6, m2]
  simp only [Option.bind_some]
  rw [if_neg (by omega)]
  simp

end Go.Proofs.Ytflfbaofgfandaa.Pure
