/- The plain law of FnExactAggregate: the program's answer is the reference's. -/
import Derived.Test.YtjepmdngbafonaaStmtFnExactAggregate
namespace Go.Proofs.Ytjepmdngbafonaa.Pure
open Go.RowKit Go.Proofs.Ytjepmdngbafonaa.QFnExactAggregate Go.Proofs.YtjepmdngbafonaaA.PrintWords Go.Proofs.YtjepmdngbafonaaA.PrintLast Go.Proofs.YtjepmdngbafonaaA.PrintMore
set_option linter.unusedVariables false
set_option linter.unusedSimpArgs false

theorem len17 {l : Int} (h0 : 0 ≤ l) (h1 : l ≤ 16) : l = 0 ∨ l = 1 ∨ l = 2 ∨ l = 3 ∨ l = 4 ∨ l = 5 ∨ l = 6 ∨ l = 7 ∨ l = 8 ∨ l = 9 ∨ l = 10 ∨ l = 11 ∨ l = 12 ∨ l = 13 ∨ l = 14 ∨ l = 15 ∨ l = 16 := by omega
/-- How many addresses a prefix of length l has. -/
def psz (l : Int) : Int := 2 ^ (16 - l).toNat
theorem psz_pos (l : Int) : 0 < psz l := Int.pow_pos (by decide)
theorem psz_le {l : Int} (h0 : 0 ≤ l) (h1 : l ≤ 16) : psz l ≤ 65536 := by
  rcases len17 h0 h1 with rfl | rfl | rfl | rfl | rfl | rfl | rfl | rfl | rfl | rfl | rfl | rfl | rfl | rfl | rfl | rfl | rfl <;> decide
theorem psz_half {l : Int} (h0 : 0 ≤ l) (h1 : l ≤ 15) : psz l = 2 * psz (l + 1) := by
  rcases len17 h0 (by omega) with rfl | rfl | rfl | rfl | rfl | rfl | rfl | rfl | rfl | rfl | rfl | rfl | rfl | rfl | rfl | rfl | rfl <;> first | decide | omega
theorem psz_top {l : Int} (h0 : 0 ≤ l) (h1 : l ≤ 16) : 65536 = psz l * 2 ^ l.toNat := by
  rcases len17 h0 h1 with rfl | rfl | rfl | rfl | rfl | rfl | rfl | rfl | rfl | rfl | rfl | rfl | rfl | rfl | rfl | rfl | rfl <;> decide
theorem w64 {n : Int} (h0 : -9223372036854775808 ≤ n) (h1 : n ≤ 9223372036854775807) : wrap64 n = n := by unfold wrap64; omega
theorem shl_psz {l : Int} (h0 : 0 ≤ l) (h1 : l ≤ 16) : shl .i64 1 (16 - l) = psz l := by
  rcases len17 h0 h1 with rfl | rfl | rfl | rfl | rfl | rfl | rfl | rfl | rfl | rfl | rfl | rfl | rfl | rfl | rfl | rfl | rfl <;> decide
theorem u64w {n : Int} (h0 : 0 ≤ n) (h1 : n ≤ 16) : IntKind.u64.wrap n = n := by
  rcases len17 h0 h1 with rfl | rfl | rfl | rfl | rfl | rfl | rfl | rfl | rfl | rfl | rfl | rfl | rfl | rfl | rfl | rfl | rfl <;> decide
/-- A valid prefix. -/
def Pok (n l : Int) : Prop := 0 ≤ l ∧ l ≤ 16 ∧ 0 ≤ n ∧ n ≤ 65535 ∧ n % psz l = 0
instance (n l : Int) : Decidable (Pok n l) := by unfold Pok; infer_instance
theorem Pok.top {n l : Int} (h : Pok n l) : n + psz l ≤ 65536 := by
  obtain ⟨h0, h1, h2, h3, h4⟩ := h
  have e := psz_top h0 h1
  have p := psz_pos l
  have d := Int.emod_add_mul_ediv n (psz l)
  rw [h4, Int.zero_add] at d
  have q : n / psz l < 2 ^ l.toNat := by
    apply Int.ediv_lt_of_lt_mul p
    rw [Int.mul_comm]; omega
  have m : psz l * (n / psz l + 1) ≤ psz l * 2 ^ l.toNat := Int.mul_le_mul_of_nonneg_left (by omega) (by omega)
  rw [Int.mul_add] at m
  omega
theorem spec_In (a b c : Int) : spec_l01In.f a b c = some (decide (b ≤ a ∧ a ≤ c)) := by
  unfold spec_l01In.f
  by_cases h : b ≤ a <;> simp [h]
theorem spec_Addr (a : Int) : spec_l01Addr.f a = some (decide (0 ≤ a ∧ a ≤ 65535)) := by
  unfold spec_l01Addr.f; rw [spec_In]; rfl
theorem spec_Size {l : Int} (h0 : 0 ≤ l) (h1 : l ≤ 16) : spec_l01Size2.f l = some (psz l) := by
  unfold spec_l01Size2.f
  rw [w64 (by omega) (by omega), u64w (by omega) (by omega), if_pos (by omega), shl_psz h0 h1]
theorem spec_Pok (n l : Int) : spec_PrefixOk.f n l = some (decide (Pok n l)) := by
  unfold spec_PrefixOk.f
  rw [spec_In, spec_Addr]
  simp only [Option.bind_some, decide_eq_true_eq]
  by_cases hl : 0 ≤ l ∧ l ≤ 16
  · rw [if_pos hl]
    by_cases hn : 0 ≤ n ∧ n ≤ 65535
    · rw [if_pos hn, spec_Size hl.1 hl.2]
      have p := psz_pos l
      simp only [Option.bind_some]
      rw [if_neg (by omega), Int.tmod_eq_emod_of_nonneg hn.1]
      congr 1
      by_cases e : n % psz l = 0
      · rw [e]; simp [Pok, hl, hn, e]
      · simp [Pok, hl, hn, e]
    · rw [if_neg hn]; congr 1; symm; rw [decide_eq_false_iff_not]; unfold Pok; omega
  · rw [if_neg hl]; congr 1; symm; rw [decide_eq_false_iff_not]; unfold Pok; omega
theorem impl_In (a b c : Int) : impl_within.f a b c = some (decide (b ≤ a ∧ a ≤ c)) := by
  unfold impl_within.f
  by_cases h : b ≤ a <;> simp [h]
theorem impl_Addr (a : Int) : impl_isAddr.f a = some (decide (0 ≤ a ∧ a ≤ 65535)) := by
  unfold impl_isAddr.f; rw [impl_In]; rfl
theorem impl_Size (n : Int) {l : Int} (h0 : 0 ≤ l) (h1 : l ≤ 16) : impl_Prefix_size.f n l = some (psz l) := by
  unfold impl_Prefix_size.f
  rw [w64 (by omega) (by omega), if_pos (by omega), shl_psz h0 h1]
theorem impl_Pok (n l : Int) : impl_PrefixOk.f n l = some (decide (Pok n l)) := by
  unfold impl_PrefixOk.f
  rw [impl_In, impl_Addr]
  simp only [Option.bind_some, decide_eq_true_eq]
  by_cases hl : 0 ≤ l ∧ l ≤ 16
  · rw [if_pos hl]
    by_cases hn : 0 ≤ n ∧ n ≤ 65535
    · rw [if_pos hn, impl_Size n hl.1 hl.2]
      have p := psz_pos l
      simp only [Option.bind_some]
      rw [if_neg (by omega), Int.tmod_eq_emod_of_nonneg hn.1]
      congr 1
      by_cases e : n % psz l = 0
      · rw [e]; simp [Pok, hl, hn, e]
      · simp [Pok, hl, hn, e]
    · rw [if_neg hn]; congr 1; symm; rw [decide_eq_false_iff_not]; unfold Pok; omega
  · rw [if_neg hl]; congr 1; symm; rw [decide_eq_false_iff_not]; unfold Pok; omega
/-- A loop that asks each index and ends at the first refusal. -/
theorem all_loop {F : Nat → Int → Option Bool} {n : Nat} {P : Nat → Prop} {e : Bool}
    (hs : ∀ (k i : Nat), i < n → (∀ j, j < i → P j) → (P i ∧ F (k + 1) i = F k ((i : Int) + 1)) ∨ (¬ P i ∧ F (k + 1) i = some false))
    (he : ∀ k : Nat, (∀ j, j < n → P j) → F (k + 1) n = some e) : ∀ (d k i : Nat), i + d = n → d < k → (∀ j, j < i → P j) →
    ∃ b, F k i = some b ∧ (b = true ↔ ((∀ j, j < n → P j) ∧ e = true)) := by
  intro d
  induction d with
  | zero =>
    intro k i hi hk hp
    obtain ⟨k, rfl⟩ : ∃ m, k = m + 1 := ⟨k - 1, by omega⟩
    obtain rfl : i = n := by omega
    exact ⟨e, he k hp, ⟨fun h => ⟨hp, h⟩, fun h => h.2⟩⟩
  | succ d ih =>
    intro k i hi hk hp
    obtain ⟨k, rfl⟩ : ∃ m, k = m + 1 := ⟨k - 1, by omega⟩
    rcases hs k i (by omega) hp with ⟨h1, h2⟩ | ⟨h1, h2⟩
    · have e1 : (i : Int) + 1 = ((i + 1 : Nat) : Int) := by omega
      rw [h2, e1]
      refine ih k (i + 1) (by omega) (by omega) (fun j hj => ?_)
      by_cases hji : j = i
      · rw [hji]; exact h1
      · exact hp j (by omega)
    · refine ⟨false, h2, ⟨(fun h => by cases h), fun h => absurd (h.1 i (by omega)) h1⟩⟩
/-- A loop that copies a list, element by element. -/
theorem copy_loop {α β : Type} {F : Nat → List α → List β → Int → Option (List β)} {cv : α → β} (z : α) {N : Nat}
    (hs : ∀ (k i : Nat) (x : List α) (y : List β), x.length ≤ N → i < x.length → i < y.length → F (k + 1) x y i = F k x (y.set i (cv (x.getD i z))) ((i : Int) + 1))
    (he : ∀ (k : Nat) (x : List α) (y : List β), F (k + 1) x y x.length = some y) (x : List α) (hN : x.length ≤ N) : ∀ (d k i : Nat) (y : List β), i + d = x.length → d < k → y.length = x.length →
    y.take i = (x.take i).map cv → F k x y i = some (x.map cv) := by
  intro d
  induction d with
  | zero =>
    intro k i y hi hk hl ht
    obtain ⟨k, rfl⟩ : ∃ m, k = m + 1 := ⟨k - 1, by omega⟩
    obtain rfl : i = x.length := by omega
    rw [he]
    rw [List.take_of_length_le (by omega), List.take_of_length_le (by omega)] at ht
    rw [ht]
  | succ d ih =>
    intro k i y hi hk hl ht
    obtain ⟨k, rfl⟩ : ∃ m, k = m + 1 := ⟨k - 1, by omega⟩
    have e1 : (i : Int) + 1 = ((i + 1 : Nat) : Int) := by omega
    rw [hs k i x y hN (by omega) (by omega), e1]
    refine ih k (i + 1) _ (by omega) (by omega) (by rw [List.length_set, hl]) ?_
    have hx : i < x.length := by omega
    have hy : i < y.length := by omega
    rw [List.take_succ_eq_append_getElem (by rw [List.length_set]; exact hy), List.take_succ_eq_append_getElem hx, List.map_append, List.take_set, ht]
    congr 1
    · rw [List.set_eq_of_length_le]
      simp; omega
    · simp [List.getD_eq_getElem?_getD, hx]
/-- Two equal lists, compared element by element. -/
theorem same_loop {α : Type} {F : Nat → List α → List α → Int → Option Bool} {N : Nat}
    (hs : ∀ (k i : Nat) (x : List α), x.length ≤ N → i < x.length → F (k + 1) x x i = F k x x ((i : Int) + 1))
    (he : ∀ (k : Nat) (x : List α), F (k + 1) x x x.length = some true) (x : List α) (hN : x.length ≤ N) : ∀ (d k i : Nat), i + d = x.length → d < k → F k x x i = some true := by
  intro d
  induction d with
  | zero =>
    intro k i hi hk
    obtain ⟨k, rfl⟩ : ∃ m, k = m + 1 := ⟨k - 1, by omega⟩
    obtain rfl : i = x.length := by omega
    exact he k x
  | succ d ih =>
    intro k i hi hk
    obtain ⟨k, rfl⟩ : ∃ m, k = m + 1 := ⟨k - 1, by omega⟩
    have e1 : (i : Int) + 1 = ((i + 1 : Nat) : Int) := by omega
    rw [hs k i x hN (by omega), e1]
    exact ih k (i + 1) (by omega) (by omega)
/-- The same where what stands behind the loop wants m rounds more. -/
theorem all_loopm (m : Nat) {F : Nat → Int → Option Bool} {n : Nat} {P : Nat → Prop} {e : Bool}
    (hs : ∀ (k i : Nat), i < n → (∀ j, j < i → P j) → (P i ∧ F (k + 1) i = F k ((i : Int) + 1)) ∨ (¬ P i ∧ F (k + 1) i = some false))
    (he : ∀ k : Nat, m ≤ k → (∀ j, j < n → P j) → F (k + 1) n = some e) : ∀ (d k i : Nat), i + d = n → d + m < k → (∀ j, j < i → P j) →
    ∃ b, F k i = some b ∧ (b = true ↔ ((∀ j, j < n → P j) ∧ e = true)) := by
  intro d
  induction d with
  | zero =>
    intro k i hi hk hp
    obtain ⟨k, rfl⟩ : ∃ m, k = m + 1 := ⟨k - 1, by omega⟩
    obtain rfl : i = n := by omega
    exact ⟨e, he k (by omega) hp, ⟨fun h => ⟨hp, h⟩, fun h => h.2⟩⟩
  | succ d ih =>
    intro k i hi hk hp
    obtain ⟨k, rfl⟩ : ∃ m, k = m + 1 := ⟨k - 1, by omega⟩
    rcases hs k i (by omega) hp with ⟨h1, h2⟩ | ⟨h1, h2⟩
    · have e1 : (i : Int) + 1 = ((i + 1 : Nat) : Int) := by omega
      rw [h2, e1]
      refine ih k (i + 1) (by omega) (by omega) (fun j hj => ?_)
      by_cases hji : j = i
      · rw [hji]; exact h1
      · exact hp j (by omega)
    · refine ⟨false, h2, ⟨(fun h => by cases h), fun h => absurd (h.1 i (by omega)) h1⟩⟩
theorem psz_split {m l : Int} (h0 : 0 ≤ m) (h1 : m ≤ l) (h2 : l ≤ 16) : psz m = psz l * 2 ^ (l - m).toNat := by
  unfold psz
  rw [← Int.pow_add]
  congr 1
  omega
theorem psz_mod {a m l : Int} (h0 : 0 ≤ m) (h1 : m ≤ l) (h2 : l ≤ 16) (h : a % psz m = 0) : a % psz l = 0 := by
  rw [psz_split h0 h1 h2] at h
  have d := Int.emod_add_mul_ediv a (psz l * 2 ^ (l - m).toNat)
  rw [h, Int.zero_add, Int.mul_assoc] at d
  rw [← d]
  exact Int.mul_emod_right _ _
theorem mult_le {a b z : Int} (hz : 0 < z) (ha : a % z = 0) (hb : b % z = 0) (h : a < b + z) : a ≤ b := by
  have da := Int.emod_add_mul_ediv a z
  have db := Int.emod_add_mul_ediv b z
  rw [ha, Int.zero_add] at da
  rw [hb, Int.zero_add] at db
  have h2 : z * (a / z) < z * (b / z + 1) := by
    rw [Int.mul_add, da, db]
    omega
  have h3 : a / z < b / z + 1 := Int.lt_of_mul_lt_mul_left h2 (Int.le_of_lt hz)
  have h4 : z * (a / z) ≤ z * (b / z) := Int.mul_le_mul_of_nonneg_left (by omega) (Int.le_of_lt hz)
  rw [da, db] at h4
  exact h4
/-- How many of the n addresses from s on are told true. -/
def cu (B : Int → Bool) (s : Int) : Nat → Nat
  | 0 => 0
  | n + 1 => cu B s n + (if B (s + n) = true then 1 else 0)
theorem cu_le (B : Int → Bool) (s : Int) : ∀ n, cu B s n ≤ n
  | 0 => Nat.le_refl _
  | n + 1 => by
    have := cu_le B s n
    unfold cu
    split <;> omega
theorem cu_zero (B : Int → Bool) (s : Int) : ∀ n, cu B s n = 0 ↔ ∀ i : Nat, i < n → B (s + i) = false
  | 0 => ⟨fun _ i h => by omega, fun _ => rfl⟩
  | n + 1 => by
    have ih := cu_zero B s n
    unfold cu
    cases hb : B (s + n) with
    | true =>
      rw [if_pos rfl]
      exact ⟨fun h => by omega, fun h => by rw [h n (by omega)] at hb; cases hb⟩
    | false =>
      rw [if_neg (by decide), Nat.add_zero, ih]
      refine ⟨fun h i hi => ?_, fun h i hi => h i (by omega)⟩
      by_cases e : i = n
      · rw [e]; exact hb
      · exact h i (by omega)
theorem cu_full (B : Int → Bool) (s : Int) : ∀ n, cu B s n = n ↔ ∀ i : Nat, i < n → B (s + i) = true
  | 0 => ⟨fun _ i h => by omega, fun _ => rfl⟩
  | n + 1 => by
    have ih := cu_full B s n
    have le := cu_le B s n
    unfold cu
    cases hb : B (s + n) with
    | false =>
      rw [if_neg (by decide)]
      exact ⟨fun h => by omega, fun h => by rw [h n (by omega)] at hb; cases hb⟩
    | true =>
      rw [if_pos rfl]
      refine ⟨fun h i hi => ?_, fun h => by rw [ih.2 (fun i hi => h i (by omega))]⟩
      by_cases e : i = n
      · rw [e]; exact hb
      · exact ih.1 (by omega) i (by omega)
theorem cu_add (B : Int → Bool) (s : Int) (m : Nat) : ∀ n, cu B s (m + n) = cu B s m + cu B (s + m) n
  | 0 => rfl
  | n + 1 => by
    have ih := cu_add B s m n
    show cu B s (m + n) + (if B (s + ((m + n : Nat) : Int)) = true then 1 else 0) = cu B s m + (cu B (s + m) n + (if B (s + m + (n : Int)) = true then 1 else 0))
    have e : s + ((m + n : Nat) : Int) = s + m + (n : Int) := by omega
    rw [ih, e]
    omega
theorem cu_congr {B C : Int → Bool} {s : Int} : ∀ {n : Nat}, (∀ i : Nat, i < n → B (s + i) = C (s + i)) → cu B s n = cu C s n
  | 0, _ => rfl
  | n + 1, h => by
    have ih := cu_congr (n := n) (fun i hi => h i (by omega))
    unfold cu
    rw [ih, h n (by omega)]
theorem cu_or {B C : Int → Bool} {s : Int} : ∀ {n : Nat}, (∀ i : Nat, i < n → ¬ (B (s + i) = true ∧ C (s + i) = true)) → cu (fun a => B a || C a) s n = cu B s n + cu C s n
  | 0, _ => rfl
  | n + 1, h => by
    have ih := cu_or (n := n) (fun i hi => h i (by omega))
    have hn := h n (by omega)
    show cu (fun a => B a || C a) s n + (if (B (s + n) || C (s + n)) = true then 1 else 0) = (cu B s n + (if B (s + n) = true then 1 else 0)) + (cu C s n + (if C (s + n) = true then 1 else 0))
    rw [ih]
    cases hb : B (s + n) <;> cases hc : C (s + n)
    · simp
    · simp; omega
    · simp; omega
    · exact absurd ⟨hb, hc⟩ hn
theorem cu_seg (s x : Int) (hx : s ≤ x) : ∀ (n : Nat) (y : Int), x ≤ y → y ≤ s + n → (cu (fun a => decide (x ≤ a ∧ a < y)) s n : Int) = y - x
  | 0, y, h1, h2 => by
    have e : y = x := by omega
    rw [e]
    show ((0 : Nat) : Int) = x - x
    omega
  | n + 1, y, h1, h2 => by
    show ((cu (fun a => decide (x ≤ a ∧ a < y)) s n + (if decide (x ≤ s + n ∧ s + n < y) = true then 1 else 0) : Nat) : Int) = y - x
    by_cases c : y ≤ s + n
    · rw [if_neg (by simp; omega), Nat.add_zero]
      exact cu_seg s x hx n y h1 c
    · have e : cu (fun a => decide (x ≤ a ∧ a < y)) s n = cu (fun a => decide (x ≤ a ∧ a < s + n)) s n := cu_congr (fun i hi => by
        show decide _ = decide _
        rw [decide_eq_decide]
        omega)
      rw [e]
      by_cases c2 : x ≤ s + n
      · rw [if_pos (by simp; omega)]
        have ih := cu_seg s x hx n (s + n) c2 (by omega)
        rw [Int.natCast_add, ih]
        omega
      · have e2 : cu (fun a => decide (x ≤ a ∧ a < s + n)) s n = 0 := (cu_zero _ s n).2 (fun i hi => decide_eq_false (by omega))
        rw [e2, if_neg (by simp; omega)]
        omega
/-- How many addresses of a block are told true. -/
def cz (B : Int → Bool) (s l : Int) : Int := (cu B s (psz l).toNat : Nat)
theorem psz_nat (l : Int) : ((psz l).toNat : Int) = psz l := Int.toNat_of_nonneg (Int.le_of_lt (psz_pos l))
theorem cz_le (B : Int → Bool) (s l : Int) : 0 ≤ cz B s l ∧ cz B s l ≤ psz l := by
  have h := cu_le B s (psz l).toNat
  have e := psz_nat l
  unfold cz
  omega
theorem cz_zero {B : Int → Bool} {s l : Int} : cz B s l = 0 ↔ ∀ a, s ≤ a → a < s + psz l → B a = false := by
  have e := psz_nat l
  have h := cu_zero B s (psz l).toNat
  unfold cz
  refine ⟨fun h0 a h1 h2 => ?_, fun h0 => ?_⟩
  · have z := h.1 (by omega) (a - s).toNat (by omega)
    have e2 : s + ((a - s).toNat : Int) = a := by omega
    rw [e2] at z
    exact z
  · rw [h.2 (fun i hi => h0 _ (by omega) (by omega))]
    rfl
theorem cz_full {B : Int → Bool} {s l : Int} : cz B s l = psz l ↔ ∀ a, s ≤ a → a < s + psz l → B a = true := by
  have e := psz_nat l
  have h := cu_full B s (psz l).toNat
  unfold cz
  refine ⟨fun h0 a h1 h2 => ?_, fun h0 => ?_⟩
  · have z := h.1 (by omega) (a - s).toNat (by omega)
    have e2 : s + ((a - s).toNat : Int) = a := by omega
    rw [e2] at z
    exact z
  · rw [h.2 (fun i hi => h0 _ (by omega) (by omega))]
    exact e
theorem cz_half (B : Int → Bool) (s : Int) {l : Int} (h0 : 0 ≤ l) (h1 : l ≤ 15) : cz B s l = cz B s (l + 1) + cz B (s + psz (l + 1)) (l + 1) := by
  have e := psz_nat (l + 1)
  have h := psz_half h0 h1
  have e2 : (psz l).toNat = (psz (l + 1)).toNat + (psz (l + 1)).toNat := by omega
  unfold cz
  rw [e2, cu_add, e]
  omega
theorem cz_congr {B C : Int → Bool} {s l : Int} (h : ∀ a, s ≤ a → a < s + psz l → B a = C a) : cz B s l = cz C s l := by
  have e := psz_nat l
  unfold cz
  rw [cu_congr (C := C) (fun i hi => h _ (by omega) (by omega))]
theorem cz_or {B C : Int → Bool} {s l : Int} (h : ∀ a, s ≤ a → a < s + psz l → ¬ (B a = true ∧ C a = true)) : cz (fun a => B a || C a) s l = cz B s l + cz C s l := by
  have e := psz_nat l
  unfold cz
  rw [cu_or (fun i hi => h _ (by omega) (by omega))]
  omega
theorem cz_seg {s l x y : Int} (h1 : s ≤ x) (h2 : x ≤ y) (h3 : y ≤ s + psz l) : cz (fun a => decide (x ≤ a ∧ a < y)) s l = y - x := by
  have e := psz_nat l
  unfold cz
  exact cu_seg s x h1 _ y h2 (by omega)
/-- Two blocks: one in the other, or apart. -/
theorem dy_in {a m s l : Int} (p : Pok a m) (q : Pok s l) (h : m ≤ l) (h2 : s < a + psz m) : s + psz l ≤ a + psz m := by
  obtain ⟨a0, a1, a2, a3, a4⟩ := p
  obtain ⟨b0, b1, b2, b3, b4⟩ := q
  have z := psz_pos l
  have am : (a + psz m) % psz m = 0 := by rw [Int.add_emod_right]; exact a4
  have al := psz_mod a0 h b1 am
  rcases Int.lt_or_le (a + psz m) (s + psz l) with c | c
  · have := mult_le z al b4 c
    omega
  · exact c
theorem dy_apart {a m s l : Int} (p : Pok a m) (q : Pok s l) (h1 : ¬ (m ≤ l ∧ a ≤ s ∧ s < a + psz m)) (h2 : ¬ (l ≤ m ∧ s ≤ a ∧ a < s + psz l)) : a + psz m ≤ s ∨ s + psz l ≤ a := by
  obtain ⟨a0, a1, a2, a3, a4⟩ := p
  obtain ⟨b0, b1, b2, b3, b4⟩ := q
  rcases Int.le_total m l with c | c
  · have al := psz_mod a0 c b1 a4
    rcases Int.lt_or_le a (s + psz l) with d | d
    · have := mult_le (psz_pos l) al b4 d
      omega
    · exact .inr d
  · have bl := psz_mod b0 c a1 b4
    rcases Int.lt_or_le s (a + psz m) with d | d
    · have := mult_le (psz_pos m) bl a4 d
      omega
    · exact .inl d
/-- An address is a prefix's. -/
def inP (q : S28) (a : Int) : Bool := decide (q.f0 ≤ a ∧ a < q.f0 + psz q.f1)
/-- An address is some prefix's of a list. -/
def Bof (T : List S28) (a : Int) : Bool := T.any (fun q => inP q a)
theorem Bof_nil (a : Int) : Bof [] a = false := rfl
theorem Bof_snoc (T : List S28) (q : S28) (a : Int) : Bof (T ++ [q]) a = (Bof T a || inP q a) := by
  unfold Bof
  simp
theorem Bof_iff {T : List S28} {a : Int} : Bof T a = true ↔ ∃ q ∈ T, q.f0 ≤ a ∧ a < q.f0 + psz q.f1 := by
  unfold Bof inP
  rw [List.any_eq_true]
  simp only [decide_eq_true_eq]
theorem Bof_perm {S T : List S28} (h : ∀ q, q ∈ S ↔ q ∈ T) (a : Int) : Bof S a = Bof T a := by
  rw [Bool.eq_iff_iff, Bof_iff, Bof_iff]
  exact ⟨fun ⟨q, h1, h2⟩ => ⟨q, (h q).1 h1, h2⟩, fun ⟨q, h1, h2⟩ => ⟨q, (h q).2 h1, h2⟩⟩
def POk (q : S28) : Prop := Pok q.f0 q.f1
/-- p has all addresses of q. -/
def cov (p q : S28) : Prop := p.f1 ≤ q.f1 ∧ p.f0 ≤ q.f0 ∧ q.f0 < p.f0 + psz p.f1
instance (p q : S28) : Decidable (cov p q) := by unfold cov; infer_instance
theorem impl_cov {a m s l : Int} (p : Pok a m) : impl_Prefix_covers.f a m s l = some (decide (m ≤ l ∧ a ≤ s ∧ s < a + psz m)) := by
  obtain ⟨a0, a1, a2, a3, a4⟩ := p
  have z := psz_le a0 a1
  have z0 := psz_pos m
  unfold impl_Prefix_covers.f impl_Prefix_has.f
  by_cases c : m ≤ l
  · rw [if_pos c, impl_Size a a0 a1]
    simp only [Option.bind_some]
    rw [impl_In, w64 (n := a + psz m) (by omega) (by omega), w64 (n := a + psz m - 1) (by omega) (by omega)]
    simp only [Option.bind_some]
    congr 1
    rw [decide_eq_decide]
    omega
  · rw [if_neg c]
    congr 1
    exact (decide_eq_false (by omega)).symm
theorem cov_sub {p q : S28} (hp : POk p) (hq : POk q) (h : cov p q) {a : Int} (h1 : inP q a = true) : inP p a = true := by
  have z := dy_in hp hq h.1 h.2.2
  unfold inP at h1 ⊢
  have h1 := of_decide_eq_true h1
  refine decide_eq_true ?_
  unfold cov at h
  omega
/-- The order in which the program sorts. -/
def leP (p q : S28) : Prop := p.f0 < q.f0 ∨ p.f0 = q.f0 ∧ p.f1 ≤ q.f1
def apP (p q : S28) : Prop := p.f0 + psz p.f1 ≤ q.f0
/-- The tops: a prefix goes in where the last one doesn't have it. -/
def topF (T : List S28) (p : S28) : List S28 :=
  if T.length = 0 then T ++ [p] else if cov (T.getLastD z28) p then T else T ++ [p]
theorem tops_ok : ∀ (R T : List S28), (∀ q ∈ T, POk q) → (∀ q ∈ R, POk q) → T.Pairwise apP → R.Pairwise leP → (∀ T0 t, T = T0 ++ [t] → ∀ p ∈ R, leP t p) →
    (∀ q ∈ R.foldl topF T, POk q) ∧ (R.foldl topF T).Pairwise apP ∧ (∀ a, Bof (R.foldl topF T) a = (Bof T a || Bof R a)) ∧ (R.foldl topF T).length ≤ T.length + R.length := by
  intro R
  induction R with
  | nil =>
    intro T h1 h2 h3 h4 h5
    exact ⟨h1, h3, fun a => by rw [Bof_nil, Bool.or_false]; rfl, Nat.le_refl _⟩
  | cons p R ih =>
    intro T h1 h2 h3 h4 h5
    have hp := h2 p (by simp)
    have h4' := List.pairwise_cons.1 h4
    have hB : ∀ (T : List S28) (a : Int), (Bof T a || Bof (p :: R) a) = (Bof (T ++ [p]) a || Bof R a) := fun T a => by
      rw [Bof_snoc, Bool.or_assoc]
      rfl
    have snoc : T.Pairwise apP → (∀ q ∈ T, apP q p) → (∀ q ∈ R.foldl topF (T ++ [p]), POk q) ∧ (R.foldl topF (T ++ [p])).Pairwise apP ∧ (∀ a, Bof (R.foldl topF (T ++ [p])) a = (Bof T a || Bof (p :: R) a)) ∧ (R.foldl topF (T ++ [p])).length ≤ T.length + (p :: R).length := fun g1 g2 => by
      obtain ⟨k1, k2, k3, k4⟩ := ih (T ++ [p]) (fun q hq => by
        rcases List.mem_append.1 hq with h | h
        · exact h1 q h
        · rw [List.mem_singleton.1 h]; exact hp) (fun q hq => h2 q (by simp [hq])) (List.pairwise_append.2 ⟨g1, List.pairwise_singleton _ _, fun a ha b hb => by rw [List.mem_singleton.1 hb]; exact g2 a ha⟩) h4'.2 (fun T0 t e q hq => by
        have e2 := (List.append_inj' e rfl).2
        injection e2 with e2
        rw [← e2]
        exact h4'.1 q hq)
      refine ⟨k1, k2, fun a => by rw [k3, hB], ?_⟩
      rw [List.length_append, List.length_singleton] at k4
      rw [List.length_cons]
      omega
    rw [List.foldl_cons]
    rcases List.eq_nil_or_concat T with rfl | ⟨T0, t, rfl⟩
    · have e : topF [] p = [] ++ [p] := rfl
      rw [e]
      exact snoc h3 (fun q hq => by cases hq)
    · have ht := h1 t (by simp)
      have e : topF (T0 ++ [t]) p = if cov t p then T0 ++ [t] else T0 ++ [t] ++ [p] := by
        unfold topF
        rw [if_neg (by simp)]
        simp
      rw [List.concat_eq_append] at *
      rw [e]
      by_cases c : cov t p
      · rw [if_pos c]
        obtain ⟨k1, k2, k3, k4⟩ := ih (T0 ++ [t]) h1 (fun q hq => h2 q (by simp [hq])) h3 h4'.2 (fun T1 t1 e1 q hq => h5 T1 t1 e1 q (by simp [hq]))
        refine ⟨k1, k2, fun a => ?_, by rw [List.length_cons]; omega⟩
        rw [k3, hB, Bof_snoc (T0 ++ [t]) p a]
        cases hi : inP p a with
        | false => rw [Bool.or_false]
        | true =>
          have : Bof (T0 ++ [t]) a = true := by rw [Bof_snoc, cov_sub ht hp c hi, Bool.or_true]
          rw [this]; rfl
      · rw [if_neg c]
        have le := h5 T0 t rfl p (by simp)
        have ap : apP t p := by
          unfold leP at le
          unfold apP
          have d := dy_apart ht hp (fun h => c ⟨h.1, h.2.1, h.2.2⟩)
          obtain ⟨a0, a1, a2, a3, a4⟩ := ht
          obtain ⟨b0, b1, b2, b3, b4⟩ := hp
          have z := psz_pos p.f1
          rcases d (fun h => by
            rcases le with h6 | h6
            · omega
            · exact c ⟨h6.2, by omega, by have := psz_pos t.f1; omega⟩) with h | h
          · exact h
          · omega
        refine snoc h3 (fun q hq => ?_)
        rcases List.mem_append.1 hq with h | h
        · have q1 := (List.pairwise_append.1 h3).2.2 q h t (by simp)
          unfold apP at q1 ap ⊢
          have z := psz_pos t.f1
          omega
        · rw [List.mem_singleton.1 h]; exact ap
theorem wn1 {i : Nat} (h : i < 9223372036854775807) : wrap64 ((i : Int) + 1) = ((i + 1 : Nat) : Int) := by rw [w64 (by omega) (by omega)]; omega
/-- The program's count of a block. -/
theorem count_loop {T : List S28} (hT : ∀ q ∈ T, POk q) (hA : T.Pairwise apP) (hl : T.length ≤ 1000) {s l : Int} (p : Pok s l) : ∀ (d i k : Nat), i + d = T.length → d < k → (∀ j : Nat, (h : j < T.length) → j < i → ¬ cov T[j] ⟨s, l⟩) →
    impl_Aggregate_2.l0 k (cz (Bof (T.take i)) s l) T T.length i s l = some (cz (Bof T) s l) := by
  intro d
  have p' := p
  obtain ⟨b0, b1, b2, b3, b4⟩ := p'
  have zl := psz_le b0 b1
  induction d with
  | zero =>
    intro i k hi hk hn
    obtain ⟨k, rfl⟩ : ∃ m, k = m + 1 := ⟨k - 1, by omega⟩
    obtain rfl : i = T.length := by omega
    simp only [impl_Aggregate_2.l0]
    rw [if_neg (by omega), List.take_length]
  | succ d ih =>
    intro i k hi hk hn
    obtain ⟨k, rfl⟩ : ∃ m, k = m + 1 := ⟨k - 1, by omega⟩
    have hil : i < T.length := by omega
    have er : rd_T28 T (i : Int) = T[i] := by
      unfold rd_T28
      rw [Int.toNat_natCast, List.getD_eq_getElem?_getD, List.getElem?_eq_getElem hil]
      rfl
    have hq : POk T[i] := hT _ (List.getElem_mem hil)
    have hq' := hq
    obtain ⟨a0, a1, a2, a3, a4⟩ := hq'
    have zq := psz_le a0 a1
    have zc := cz_le (Bof (T.take i)) s l
    have et : T.take (i + 1) = T.take i ++ [T[i]] := List.take_succ_eq_append_getElem hil
    have eB : ∀ a, Bof (T.take (i + 1)) a = (Bof (T.take i) a || inP T[i] a) := fun a => by rw [et, Bof_snoc]
    have w4 := Aside0.mk (wn1 (i := i) (by omega))
    simp only [impl_Aggregate_2.l0]
    rw [if_pos (by omega), if_pos (by omega), if_pos (by omega), er, impl_cov hq, impl_cov p]
    simp only [Option.bind_some]
    by_cases c1 : cov T[i] ⟨s, l⟩
    · have c1' := c1
      unfold cov at c1'
      rw [decide_eq_true c1', if_pos rfl, impl_Size s b0 b1]
      simp only [Option.bind_some]
      congr 1
      refine (cz_full.2 (fun a h1 h2 => Bof_iff.2 ⟨T[i], List.getElem_mem hil, ?_⟩)).symm
      have z := dy_in hq p c1'.1 c1'.2.2
      dsimp only at c1'
      omega
    · have c1' := c1
      unfold cov at c1'
      dsimp only at c1'
      rw [decide_eq_false c1', if_neg (by decide), w4.out]
      have hn' : ∀ j : Nat, (h : j < T.length) → j < i + 1 → ¬ cov T[j] ⟨s, l⟩ := fun j h hj => by
        by_cases e : j = i
        · subst e; exact c1
        · exact hn j h (by omega)
      have nx := ih (i + 1) k (by omega) (by omega) hn'
      by_cases c2 : l ≤ T[i].f1 ∧ s ≤ T[i].f0 ∧ T[i].f0 < s + psz l
      · rw [decide_eq_true c2, if_pos rfl, impl_Size _ a0 a1]
        simp only [Option.bind_some]
        have zi := dy_in p hq c2.1 c2.2.2
        have e2 : cz (Bof (T.take (i + 1))) s l = cz (Bof (T.take i)) s l + psz T[i].f1 := by
          have e3 : cz (Bof (T.take (i + 1))) s l = cz (fun a => Bof (T.take i) a || inP T[i] a) s l := cz_congr (fun a _ _ => eB a)
          rw [e3, cz_or (fun a h1 h2 h3 => ?_)]
          · have e4 : cz (inP T[i]) s l = T[i].f0 + psz T[i].f1 - T[i].f0 := cz_seg c2.2.1 (by have := psz_pos T[i].f1; omega) zi
            rw [e4]
            omega
          · obtain ⟨q, hq1, hq2⟩ := Bof_iff.1 h3.1
            have h4 := of_decide_eq_true h3.2
            obtain ⟨j, hj, rfl⟩ := List.mem_iff_getElem.1 hq1
            rw [List.length_take] at hj
            rw [List.getElem_take] at hq2
            have ap := List.pairwise_iff_getElem.1 hA j i (by omega) hil (by omega)
            unfold apP at ap
            omega
        have zc2 := cz_le (Bof (T.take (i + 1))) s l
        rw [w64 (n := cz (Bof (T.take i)) s l + psz T[i].f1) (by omega) (by omega), ← e2]
        exact nx
      · rw [decide_eq_false c2, if_neg (by decide)]
        have ap := dy_apart hq p c1' c2
        have e2 : cz (Bof (T.take (i + 1))) s l = cz (Bof (T.take i)) s l := cz_congr (fun a h1 h2 => by
          rw [eB]
          have : inP T[i] a = false := decide_eq_false (by omega)
          rw [this, Bool.or_false])
        rw [← e2]
        exact nx
theorem count_ok {T : List S28} (hT : ∀ q ∈ T, POk q) (hA : T.Pairwise apP) (hl : T.length ≤ 1000) {s l : Int} (p : Pok s l) {k : Nat} (hk : T.length < k) : impl_Aggregate_2.f k s l [T] = some (cz (Bof T) s l) := by
  unfold impl_Aggregate_2.f
  rw [if_pos (by simp)]
  have z := count_loop hT hA hl p T.length 0 k (by omega) hk (fun j _ h => by omega)
  have e : cz (Bof (T.take 0)) s l = 0 := cz_zero.2 (fun a _ _ => rfl)
  rw [e] at z
  exact z
/-- The greatest blocks within a block that are told true as a whole. -/
def blk (B : Int → Bool) : Nat → Int → Int → List S28
  | 0, s, l => if cz B s l = 0 then [] else [⟨s, l⟩]
  | d + 1, s, l => if cz B s l = 0 then [] else if cz B s l = psz l then [⟨s, l⟩] else blk B d s (l + 1) ++ blk B d (s + psz (l + 1)) (l + 1)
theorem blk_len (B : Int → Bool) : ∀ (d : Nat) (s l : Int), l + d = 16 → 0 ≤ l → ((blk B d s l).length : Int) ≤ psz l := by
  intro d
  induction d with
  | zero =>
    intro s l h h0
    have z := psz_pos l
    unfold blk
    split
    · simp; omega
    · simp; omega
  | succ d ih =>
    intro s l h h0
    have z := psz_pos l
    have z2 := psz_half h0 (show l ≤ 15 by omega)
    have i1 := ih s (l + 1) (by omega) (by omega)
    have i2 := ih (s + psz (l + 1)) (l + 1) (by omega) (by omega)
    unfold blk
    split
    · simp; omega
    · split
      · simp; omega
      · rw [List.length_append]; omega
theorem Pok.left {s l : Int} (p : Pok s l) (h : l ≤ 15) : Pok s (l + 1) := by
  obtain ⟨b0, b1, b2, b3, b4⟩ := p
  exact ⟨by omega, by omega, b2, b3, psz_mod b0 (show l ≤ l + 1 by omega) (by omega) b4⟩
theorem Pok.right {s l : Int} (p : Pok s l) (h : l ≤ 15) : Pok (s + psz (l + 1)) (l + 1) := by
  have tp := p.top
  have p1 := p.left h
  obtain ⟨b0, b1, b2, b3, b4⟩ := p
  have hz := psz_half b0 h
  have zp := psz_pos (l + 1)
  exact ⟨by omega, by omega, by omega, by omega, by rw [Int.add_emod_right]; exact p1.2.2.2.2⟩
theorem halves_ok {s l : Int} (p : Pok s l) (h : l ≤ 15) : impl_Prefix_halves.f s l = some (s, l + 1, s + psz (l + 1), l + 1) := by
  have tp := p.top
  obtain ⟨b0, b1, b2, b3, b4⟩ := p
  have hz := psz_half b0 h
  have zp := psz_pos (l + 1)
  have td : Int.tdiv (psz l) 2 = psz (l + 1) := by rw [Int.tdiv_eq_ediv_of_nonneg (by omega)]; omega
  unfold impl_Prefix_halves.f
  rw [impl_Size s b0 b1]
  simp only [Option.bind_some]
  rw [td, w64 (n := l + 1) (by omega) (by omega), w64 (n := psz (l + 1)) (by omega) (by omega), w64 (n := s + psz (l + 1)) (by omega) (by omega)]
theorem short_ok {T : List S28} (hT : ∀ q ∈ T, POk q) (hA : T.Pairwise apP) (hl : T.length ≤ 1000) : ∀ (d : Nat) (s l : Int) (acc : List S28) (k : Nat), l + d = 16 → Pok s l → (acc.length : Int) + psz l ≤ 1000000 → d + T.length + 1 < k →
    impl_shortest.f k s l [T] acc = some (acc ++ blk (Bof T) d s l) := by
  intro d
  induction d with
  | zero =>
    intro s l acc k h p ha hk
    obtain ⟨k, rfl⟩ : ∃ m, k = m + 1 := ⟨k - 1, by omega⟩
    have p' := p
    obtain ⟨b0, b1, b2, b3, b4⟩ := p'
    have e1 : psz l = 1 := by
      have : l = 16 := by omega
      rw [this]; decide
    have zc := cz_le (Bof T) s l
    simp only [impl_shortest.f]
    rw [count_ok hT hA hl p (by omega)]
    simp only [Option.bind_some]
    unfold blk
    by_cases c : cz (Bof T) s l = 0
    · rw [if_pos c, if_pos c, List.append_nil]
    · rw [if_neg c, if_neg c, impl_Size s b0 b1]
      simp only [Option.bind_some]
      rw [if_pos (by omega), if_pos (by omega)]
  | succ d ih =>
    intro s l acc k h p ha hk
    obtain ⟨k, rfl⟩ : ∃ m, k = m + 1 := ⟨k - 1, by omega⟩
    have p' := p
    obtain ⟨b0, b1, b2, b3, b4⟩ := p'
    have zp := psz_pos l
    simp only [impl_shortest.f]
    rw [count_ok hT hA hl p (by omega)]
    simp only [Option.bind_some]
    unfold blk
    by_cases c : cz (Bof T) s l = 0
    · rw [if_pos c, if_pos c, List.append_nil]
    · rw [if_neg c, if_neg c, impl_Size s b0 b1]
      simp only [Option.bind_some]
      by_cases c2 : cz (Bof T) s l = psz l
      · rw [if_pos c2, if_pos c2, if_pos (by omega)]
      · have z2 := psz_half b0 (show l ≤ 15 by omega)
        have i1 := ih s (l + 1) acc k (by omega) (p.left (by omega)) (by omega) (by omega)
        have l1 := blk_len (Bof T) d s (l + 1) (by omega) (by omega)
        have i2 := ih (s + psz (l + 1)) (l + 1) (acc ++ blk (Bof T) d s (l + 1)) k (by omega) (p.right (by omega)) (by rw [List.length_append]; omega) (by omega)
        rw [if_neg c2, if_neg c2, halves_ok p (by omega)]
        simp only [Option.bind_some]
        rw [i1]
        simp only [Option.bind_some]
        rw [i2]
        simp only [Option.bind_some]
        rw [List.append_assoc]
theorem rdP_at {T : List S28} {i : Nat} (h : i < T.length) : rd_T28 T (i : Int) = T[i] := by
  unfold rd_T28
  rw [Int.toNat_natCast, List.getD_eq_getElem?_getD, List.getElem?_eq_getElem h]
  rfl
theorem last_ok {T : List S28} (h : T.length ≠ 0) (hl : T.length ≤ 1000) : rd_T28 T (wrap64 ((T.length : Int) - 1)) = T.getLastD z28 ∧ T.getLastD z28 ∈ T := by
  have w : wrap64 ((T.length : Int) - 1) = ((T.length - 1 : Nat) : Int) := by rw [w64 (by omega) (by omega)]; omega
  rcases List.eq_nil_or_concat T with rfl | ⟨T0, t, rfl⟩
  · exact absurd rfl h
  · rw [List.concat_eq_append] at *
    rw [w, rdP_at (by simp)]
    simp
theorem index_ok {l : List S28} (hl : l.length ≤ 1000) : ∀ (d i k : Nat), i + d = l.length → d < k →
    ∃ v, slices_IndexFunc_impl_Prefix_impl_Prefix.l0 k l l.length i = some v ∧ (v ≥ 0 ↔ ¬ ∀ j : Nat, (h : j < l.length) → i ≤ j → POk l[j]) := by
  intro d
  induction d with
  | zero =>
    intro i k hi hk
    obtain ⟨k, rfl⟩ : ∃ m, k = m + 1 := ⟨k - 1, by omega⟩
    simp only [slices_IndexFunc_impl_Prefix_impl_Prefix.l0]
    rw [if_neg (by omega)]
    exact ⟨-1, rfl, ⟨fun h => by omega, fun h => absurd (fun j hj hij => by omega) h⟩⟩
  | succ d ih =>
    intro i k hi hk
    obtain ⟨k, rfl⟩ : ∃ m, k = m + 1 := ⟨k - 1, by omega⟩
    have hil : i < l.length := by omega
    simp only [slices_IndexFunc_impl_Prefix_impl_Prefix.l0]
    rw [if_pos (by omega), if_pos (by omega), if_pos (by omega), rdP_at hil]
    unfold impl_Aggregate_1.f
    rw [impl_Pok]
    simp only [Option.bind_some]
    by_cases c : Pok l[i].f0 l[i].f1
    · rw [decide_eq_true c, if_neg (by decide), wn1 (by omega)]
      obtain ⟨v, h1, h2⟩ := ih (i + 1) k (by omega) (by omega)
      refine ⟨v, h1, h2.trans (not_congr ⟨fun h j hj hij => ?_, fun h j hj hij => h j hj (by omega)⟩)⟩
      by_cases e : j = i
      · subst e; exact c
      · exact h j hj (by omega)
    · rw [decide_eq_false c, if_pos (by decide)]
      exact ⟨i, rfl, ⟨fun _ h => c (h i hil (Nat.le_refl _)), fun _ => by omega⟩⟩
theorem contains_ok {l : List S28} (hl : l.length ≤ 1000) {k : Nat} (hk : l.length < k) : ∃ b, slices_ContainsFunc_impl_Prefix_impl_Prefix.f k l = some b ∧ (b = false ↔ ∀ q ∈ l, POk q) := by
  obtain ⟨v, h1, h2⟩ := index_ok hl l.length 0 k (by omega) hk
  have e0 : ((0 : Nat) : Int) = 0 := rfl
  rw [e0] at h1
  refine ⟨decide (v ≥ 0), ?_, ?_⟩
  · unfold slices_ContainsFunc_impl_Prefix_impl_Prefix.f slices_IndexFunc_impl_Prefix_impl_Prefix.f
    rw [h1]
    rfl
  · rw [decide_eq_false_iff_not, h2]
    rw [Classical.not_not]
    refine ⟨fun h q hq => ?_, fun h j hj _ => h _ (List.getElem_mem hj)⟩
    obtain ⟨j, hj, rfl⟩ := List.mem_iff_getElem.1 hq
    exact h j hj (Nat.zero_le _)
theorem sort_ok {l : List S28} (hl : l.length ≤ 1000) (hp : ∀ q ∈ l, POk q) : ∃ M, slices_SortFunc_impl_Prefix_impl_Prefix.f l = some M ∧ (∀ q, q ∈ M ↔ q ∈ l) ∧ M.length = l.length ∧ M.Pairwise leP := by
  have hi : l.all sf_in = true := List.all_eq_true.2 (fun q hq => by
    obtain ⟨b0, b1, b2, b3, b4⟩ := hp q hq
    exact decide_eq_true ⟨b2, b3, b0, b1⟩)
  refine ⟨l.mergeSort fun x y => !sf_lt y x, ?_, fun q => (List.mergeSort_perm l _).mem_iff, List.length_mergeSort l, ?_⟩
  · unfold slices_SortFunc_impl_Prefix_impl_Prefix.f
    rw [if_pos ⟨hi, by omega⟩]
  · refine (List.pairwise_mergeSort (le := fun x y => !sf_lt y x) ?_ ?_ l).imp ?_
    · intro a b c h1 h2
      unfold sf_lt at *
      simp only [Bool.not_eq_true', decide_eq_false_iff_not] at *
      omega
    · intro a b
      unfold sf_lt
      rw [Bool.or_eq_true]
      simp only [Bool.not_eq_true', decide_eq_false_iff_not]
      omega
    · intro a b h
      unfold sf_lt at h
      simp only [Bool.not_eq_true', decide_eq_false_iff_not] at h
      unfold leP
      omega
theorem tops_loop {M : List S28} (hM : M.length ≤ 1000) {R : List S28} {C : Nat} : ∀ (d i k : Nat) (T : List S28), i + d = M.length → d + C < k → T.length ≤ i → (∀ q ∈ T, POk q) → (∀ q ∈ M, POk q) → (∀ k', C ≤ k' → impl_shortest.f k' 0 0 [(M.drop i).foldl topF T] [] = some R) →
    impl_Aggregate.l0 k M M.length i T = some (R, true) := by
  intro d
  induction d with
  | zero =>
    intro i k T hi hk hT h1 h2 hR
    obtain ⟨k, rfl⟩ : ∃ m, k = m + 1 := ⟨k - 1, by omega⟩
    simp only [impl_Aggregate.l0]
    have z := hR k (by omega)
    rw [List.drop_of_length_le (by omega)] at z
    rw [if_neg (by omega)]
    rw [List.foldl_nil] at z
    rw [z]
    rfl
  | succ d ih =>
    intro i k T hi hk hT h1 h2 hR
    obtain ⟨k, rfl⟩ : ∃ m, k = m + 1 := ⟨k - 1, by omega⟩
    have hil : i < M.length := by omega
    rw [List.drop_eq_getElem_cons hil, List.foldl_cons] at hR
    have hq := h2 _ (List.getElem_mem hil)
    have hs : ∀ q ∈ T ++ [M[i]], POk q := fun q hq2 => by
      rcases List.mem_append.1 hq2 with h | h
      · exact h1 q h
      · rw [List.mem_singleton.1 h]; exact hq
    simp only [impl_Aggregate.l0]
    rw [if_pos (by omega), if_pos (by omega), if_pos (by omega), rdP_at hil, wn1 (by omega)]
    by_cases c : T.length = 0
    · have e : topF T M[i] = T ++ [M[i]] := by unfold topF; rw [if_pos c]
      rw [e] at hR
      rw [if_pos (by omega), if_pos (by omega)]
      exact ih (i + 1) k (T ++ [M[i]]) (by omega) (by omega) (by rw [List.length_append, List.length_singleton]; omega) hs h2 hR
    · obtain ⟨e1, e2⟩ := last_ok c (by omega)
      have w : wrap64 ((T.length : Int) - 1) = (T.length : Int) - 1 := w64 (by omega) (by omega)
      have f1 : (0 : Int) ≤ wrap64 ((T.length : Int) - 1) := by rw [w]; clear w; omega
      have f2 : wrap64 ((T.length : Int) - 1) < (T.length : Int) := by rw [w]; clear w; omega
      clear w
      have e : topF T M[i] = if cov (T.getLastD z28) M[i] then T else T ++ [M[i]] := by unfold topF; rw [if_neg c]
      rw [if_neg (by clear f1 f2; omega), if_pos f1, if_pos f2, e1, impl_cov (h1 _ e2)]
      clear f1 f2
      simp only [Option.bind_some]
      by_cases c2 : cov (T.getLastD z28) M[i]
      · rw [e, if_pos c2] at hR
        have c2' := c2
        unfold cov at c2'
        rw [decide_eq_true c2', if_pos rfl]
        exact ih (i + 1) k T (by omega) (by omega) (by omega) h1 h2 hR
      · rw [e, if_neg c2] at hR
        have c2' := c2
        unfold cov at c2'
        rw [decide_eq_false c2', if_neg (by decide), if_pos (by omega)]
        exact ih (i + 1) k (T ++ [M[i]]) (by omega) (by omega) (by rw [List.length_append, List.length_singleton]; omega) hs h2 hR
theorem impl_agg {l : List S28} (hl : l.length ≤ 300) (hp : ∀ q ∈ l, POk q) {k : Nat} (hk : 1000 < k) : impl_Aggregate.f k l = some (blk (Bof l) 16 0 0, true) := by
  obtain ⟨b, g1, g2⟩ := contains_ok (l := l) (by omega) (k := k) (by omega)
  obtain ⟨M, m1, m2, m3, m4⟩ := sort_ok (l := l) (by omega) hp
  have hMp : ∀ q ∈ M, POk q := fun q hq => hp q ((m2 q).1 hq)
  obtain ⟨t1, t2, t3, t4⟩ := tops_ok M [] (fun q hq => by cases hq) hMp List.Pairwise.nil m4 (fun T0 t e => by simp at e)
  rw [List.length_nil] at t4
  have eB : Bof (M.foldl topF []) = Bof l := funext (fun a => by rw [t3, Bof_nil, Bool.false_or]; exact Bof_perm m2 a)
  have e16 : psz 0 = 65536 := by decide
  have hR : ∀ k', 400 ≤ k' → impl_shortest.f k' 0 0 [(M.drop 0).foldl topF []] [] = some (blk (Bof l) 16 0 0) := fun k' hk' => by
    have z := short_ok t1 t2 (by omega) 16 0 0 [] k' (by omega) ⟨by omega, by omega, by omega, by omega, by rw [e16]; rfl⟩ (by rw [e16, List.length_nil]; omega) (by omega)
    rw [eB, List.nil_append] at z
    rw [List.drop_zero]
    exact z
  obtain ⟨k, rfl⟩ : ∃ m, k = m + 1 := ⟨k - 1, by omega⟩
  have z := tops_loop (M := M) (by omega) (C := 400) M.length 0 k [] (by omega) (by omega) (Nat.le_refl _) (fun q hq => by cases hq) hMp hR
  have hcl : slices_Clone_impl_Prefix_impl_Prefix.f l = some l := by
    unfold slices_Clone_impl_Prefix_impl_Prefix.f
    rw [if_pos (by omega)]
  unfold impl_Aggregate.f
  rw [if_neg (by omega), g1]
  simp only [Option.bind_some, impl_Aggregate.j0]
  rw [g2.2 hp, if_neg (by decide), hcl]
  simp only [Option.bind_some]
  rw [m1]
  simp only [Option.bind_some]
  rw [← m3]
  exact z
theorem impl_agg_no {l : List S28} (h : ¬ (l.length ≤ 300 ∧ ∀ q ∈ l, POk q)) {k : Nat} (hk : 1000 < k) : impl_Aggregate.f k l = some ([], false) := by
  obtain ⟨k, rfl⟩ : ∃ m, k = m + 1 := ⟨k - 1, by omega⟩
  unfold impl_Aggregate.f
  by_cases c : l.length ≤ 300
  · obtain ⟨b, g1, g2⟩ := contains_ok (l := l) (by omega) (k := k + 1) (by omega)
    rw [if_neg (by omega), g1]
    simp only [Option.bind_some, impl_Aggregate.j0]
    cases b with
    | false => exact absurd ⟨c, g2.1 rfl⟩ h
    | true => rw [if_pos rfl]
  · rw [if_pos (by omega)]
    simp only [impl_Aggregate.j0]
    rw [if_pos trivial]
theorem rdb_set {o : List Bool} {i j : Int} (v : Bool) (h0 : 0 ≤ i) (h1 : i < o.length) (hj : 0 ≤ j) : rdOf false (o.set i.toNat v) j = if i = j then v else rdOf false o j := by
  unfold rdOf
  rw [List.getD_eq_getElem?_getD, List.getD_eq_getElem?_getD, List.getElem?_set]
  by_cases c : i = j
  · subst c
    rw [if_pos rfl, if_pos rfl, if_pos (by omega)]
    rfl
  · rw [if_neg (by omega), if_neg c]
theorem rdb_rep (n : Nat) (a : Int) : rdOf false (List.replicate n false) a = false := by
  unfold rdOf
  rw [List.getD_eq_getElem?_getD, List.getElem?_replicate]
  split <;> rfl
/-- The marks are right for a list of prefixes. -/
def Mk (M : List Bool) (B : Int → Bool) : Prop := M.length = 65536 ∧ ∀ a, 0 ≤ a → a < 65536 → rdOf false M a = B a
theorem mark_in {l : List S28} (hl : l.length ≤ 1000) {i : Nat} (hi : i < l.length) (hp : POk l[i]) (B : Int → Bool) : ∀ (d : Nat) (x : Int) (M : List Bool), x + d = psz l[i].f1 → 0 ≤ x → Mk M (fun a => B a || decide (l[i].f0 ≤ a ∧ a < l[i].f0 + x)) →
    ∃ M', Mk M' (fun a => B a || inP l[i] a) ∧ ∀ k, spec_l01Marks.l1 (k + d + 1) l M i x = spec_l01Marks.l0 k l M' ((i + 1 : Nat) : Int) := by
  have tp := hp.top
  obtain ⟨b0, b1, b2, b3, b4⟩ := hp
  have zl := psz_le b0 b1
  intro d
  induction d with
  | zero =>
    intro x M hx h0 hM
    refine ⟨M, ⟨hM.1, fun a a0 a1 => ?_⟩, fun k => ?_⟩
    · rw [hM.2 a a0 a1]
      have e : x = psz l[i].f1 := by omega
      rw [e]
      rfl
    · simp only [spec_l01Marks.l1]
      rw [if_pos (by omega), if_pos (by omega), rdP_at hi, spec_Size b0 b1]
      simp only [Option.bind_some]
      rw [if_neg (by omega), wn1 (by omega)]
  | succ d ih =>
    intro x M hx h0 hM
    obtain ⟨m1, m2⟩ := hM
    obtain ⟨M', g1, g2⟩ := ih (x + 1) (M.set (l[i].f0 + x).toNat true) (by omega) (by omega) ⟨by rw [List.length_set]; exact m1, fun a a0 a1 => by
      rw [rdb_set true (by omega) (by rw [m1]; omega) a0, m2 a a0 a1]
      show (if l[i].f0 + x = a then true else (B a || decide (l[i].f0 ≤ a ∧ a < l[i].f0 + x))) = (B a || decide (l[i].f0 ≤ a ∧ a < l[i].f0 + (x + 1)))
      by_cases c : l[i].f0 + x = a
      · have e : decide (l[i].f0 ≤ a ∧ a < l[i].f0 + (x + 1)) = true := decide_eq_true (by omega)
        rw [if_pos c, e, Bool.or_true]
      · rw [if_neg c]
        congr 1
        rw [decide_eq_decide]
        omega⟩
    refine ⟨M', g1, fun k => ?_⟩
    obtain ⟨K, hK⟩ : ∃ K, K = k + d + 1 := ⟨_, rfl⟩
    have ek : k + (d + 1) + 1 = K + 1 := by omega
    rw [ek]
    simp only [spec_l01Marks.l1]
    rw [if_pos (by omega), if_pos (by omega), rdP_at hi, spec_Size b0 b1]
    simp only [Option.bind_some]
    rw [if_pos (by omega), w64 (n := l[i].f0 + x) (by omega) (by omega), if_pos (by omega), if_pos (by rw [m1]; omega), w64 (n := x + 1) (by omega) (by omega), hK]
    exact g2 k
theorem Bof_take {l : List S28} {i : Nat} (hi : i < l.length) (a : Int) : Bof (l.take (i + 1)) a = (Bof (l.take i) a || inP l[i] a) := by
  rw [List.take_succ_eq_append_getElem hi, Bof_snoc]
theorem marks_loop {l : List S28} (hl : l.length ≤ 1000) {C : Nat} (hC : 65538 ≤ C) : ∀ (d i : Nat) (M : List Bool), i + d = l.length → (∀ j : Nat, (h : j < l.length) → j < i → POk l[j]) → Mk M (Bof (l.take i)) →
    ((∀ q ∈ l, POk q) → ∃ M', Mk M' (Bof l) ∧ ∀ k, d * C < k → spec_l01Marks.l0 k l M i = some (M', true)) ∧ ((¬ ∀ q ∈ l, POk q) → ∀ k, d * C < k → spec_l01Marks.l0 k l M i = some ([], false)) := by
  intro d
  induction d with
  | zero =>
    intro i M hi hp hM
    have hall : ∀ q ∈ l, POk q := fun q hq => by
      obtain ⟨j, hj, rfl⟩ := List.mem_iff_getElem.1 hq
      exact hp j hj (by omega)
    refine ⟨fun _ => ⟨M, ?_, fun k hk => ?_⟩, fun h => absurd hall h⟩
    · rw [List.take_of_length_le (by omega)] at hM
      exact hM
    · obtain ⟨k, rfl⟩ : ∃ m, k = m + 1 := ⟨k - 1, by omega⟩
      simp only [spec_l01Marks.l0]
      rw [if_neg (by omega)]
  | succ d ih =>
    intro i M hi hp hM
    have hil : i < l.length := by omega
    have eC : (d + 1) * C = d * C + C := Nat.succ_mul _ _
    by_cases c : Pok l[i].f0 l[i].f1
    · have zl := psz_le c.1 c.2.1
      have zp := psz_pos l[i].f1
      obtain ⟨n, hn⟩ : ∃ n, n = (psz l[i].f1).toNat := ⟨_, rfl⟩
      obtain ⟨M1, g1, g2⟩ := mark_in hl hil c (Bof (l.take i)) n 0 M (by omega) (by omega) ⟨hM.1, fun a a0 a1 => by
        have e : decide (l[i].f0 ≤ a ∧ a < l[i].f0 + 0) = false := decide_eq_false (by omega)
        rw [hM.2 a a0 a1]
        show Bof (l.take i) a = (Bof (l.take i) a || decide (l[i].f0 ≤ a ∧ a < l[i].f0 + 0))
        rw [e, Bool.or_false]⟩
      have hB : (fun a => Bof (l.take i) a || inP l[i] a) = Bof (l.take (i + 1)) := funext (fun a => (Bof_take hil a).symm)
      rw [hB] at g1
      have nx := ih (i + 1) M1 (by omega) (fun j hj hji => by
        by_cases e : j = i
        · subst e; exact c
        · exact hp j hj (by omega)) g1
      have step : ∀ k, (d + 1) * C < k → ∃ k', d * C < k' ∧ spec_l01Marks.l0 k l M i = spec_l01Marks.l0 k' l M1 ((i + 1 : Nat) : Int) := fun k hk => by
        refine ⟨k - (n + 1) - 1, by omega, ?_⟩
        obtain ⟨m, rfl⟩ : ∃ m, k = (m + n + 1) + 1 := ⟨k - n - 2, by omega⟩
        have ek : m + n + 1 + 1 - (n + 1) - 1 = m := by omega
        rw [ek, ← g2 m]
        simp only [spec_l01Marks.l0]
        rw [if_pos (by omega), if_pos (by omega), rdP_at hil, spec_Pok]
        simp only [Option.bind_some]
        rw [decide_eq_true c, if_pos rfl]
      refine ⟨fun h => ?_, fun h k hk => ?_⟩
      · obtain ⟨M', n1, n2⟩ := nx.1 h
        refine ⟨M', n1, fun k hk => ?_⟩
        obtain ⟨k', h1, h2⟩ := step k hk
        rw [h2, n2 k' h1]
      · obtain ⟨k', h1, h2⟩ := step k hk
        rw [h2, nx.2 h k' h1]
    · refine ⟨fun h => absurd (h _ (List.getElem_mem hil)) c, fun _ k hk => ?_⟩
      obtain ⟨k, rfl⟩ : ∃ m, k = m + 1 := ⟨k - 1, by omega⟩
      simp only [spec_l01Marks.l0]
      rw [if_pos (by omega), if_pos (by omega), rdP_at hil, spec_Pok]
      simp only [Option.bind_some]
      rw [decide_eq_false c, if_neg (by decide)]
theorem marks_ok {l : List S28} (hl : l.length ≤ 300) (hp : ∀ q ∈ l, POk q) : ∃ M, Mk M (Bof l) ∧ ∀ k, 20000000 < k → spec_l01Marks.f k l = some (M, true) := by
  obtain ⟨n, hn⟩ : ∃ n, n = 65536 := ⟨_, rfl⟩
  obtain ⟨M, h1, h2⟩ := (marks_loop (l := l) (by omega) (C := 65540) (by omega) l.length 0 (List.replicate n false) (by omega) (fun j _ h => by omega) ⟨by rw [List.length_replicate, hn], fun a _ _ => by rw [rdb_rep]; rfl⟩).1 hp
  refine ⟨M, h1, fun k hk => ?_⟩
  unfold spec_l01Marks.f
  rw [if_neg (by omega), ← hn, if_pos (by omega)]
  exact h2 k (by omega)
theorem marks_no {l : List S28} (h : ¬ (l.length ≤ 300 ∧ ∀ q ∈ l, POk q)) {k : Nat} (hk : 20000000 < k) : spec_l01Marks.f k l = some ([], false) := by
  obtain ⟨n, hn⟩ : ∃ n, n = 65536 := ⟨_, rfl⟩
  unfold spec_l01Marks.f
  by_cases c : l.length ≤ 300
  · have z := (marks_loop (l := l) (by omega) (C := 65540) (by omega) l.length 0 (List.replicate n false) (by omega) (fun j _ h => by omega) ⟨by rw [List.length_replicate, hn], fun a _ _ => by rw [rdb_rep]; rfl⟩).2 (fun hp => h ⟨c, hp⟩) k (by omega)
    rw [if_neg (by omega), ← hn, if_pos (by omega)]
    exact z
  · rw [if_pos (by omega)]
/-- A prefix, of the laws' type and of the program's. -/
def cvP (x : S92) : S28 := ⟨x.f0, x.f1⟩
theorem sz_PrefixS {l : List S92} (h : l.length ≤ 9223372036854775807) : laws_szPrefixS.f l 1048576 = some (if l.length ≤ 1048576 then 1048576 - (l.length : Int) else -1) := by
  unfold laws_szPrefixS.f
  rw [w64 (by omega) (by omega)]
  by_cases hl : l.length ≤ 1048576
  · rw [if_neg (by omega), if_pos hl]
  · rw [if_pos (by omega), if_neg hl]
theorem to_PrefixS {l : List S92} {k : Nat} (h : l.length ≤ 1048576) (hk : l.length < k) : laws_toPrefixS.f k l = some (l.map cvP) := by
  unfold laws_toPrefixS.f
  rw [if_pos (by omega), if_pos (by omega)]
  refine copy_loop (F := laws_toPrefixS.l0) (cv := cvP) z92 (N := 1048576) ?_ ?_ l h l.length k 0 _ (by omega) hk (by simp) (by simp)
  · intro k i x y hN hx hy
    simp only [laws_toPrefixS.l0]
    rw [if_pos (by omega), if_pos (by omega)]
    unfold laws_toPrefix.f
    simp only [Option.bind_some]
    rw [if_pos (by omega), w64 (by omega) (by omega)]
    simp [rd_T92, cvP]
  · intro k x y
    simp only [laws_toPrefixS.l0]
    rw [if_neg (by omega)]
theorem eq_PrefixS {l : List S28} {k : Nat} (h : l.length ≤ 1048576) (hk : l.length < k) : laws_eqPrefixS.f k l l = some true := by
  unfold laws_eqPrefixS.f
  rw [if_pos rfl]
  refine same_loop (F := laws_eqPrefixS.l0) (N := 1048576) ?_ ?_ l h l.length k 0 (by omega) hk
  · intro k i x hN hx
    simp only [laws_eqPrefixS.l0]
    rw [if_pos (by omega), if_pos (by omega), if_pos (by omega)]
    unfold laws_eqPrefix.f
    simp only [if_true, Option.bind_some]
    rw [w64 (by omega) (by omega)]
  · intro k x
    simp only [laws_eqPrefixS.l0]
    rw [if_neg (by omega)]
/-- A row tells of each block of length m whether it is told true as a whole. -/
def RowF (B : Int → Bool) (r : List Bool) (m : Int) : Prop := (r.length : Int) * psz m = 65536 ∧ ∀ i : Int, 0 ≤ i → i < r.length → rdOf false r i = decide (cz B (i * psz m) m = psz m)
theorem row16 {M : List Bool} {B : Int → Bool} (h : Mk M B) : RowF B M 16 := by
  have e : psz 16 = 1 := by decide
  refine ⟨by rw [h.1, e]; rfl, fun i h0 h1 => ?_⟩
  rw [e, Int.mul_one]
  have hl := h.1
  rw [h.2 i h0 (by omega), Bool.eq_iff_iff, decide_eq_true_iff]
  have z := cz_full (B := B) (s := i) (l := 16)
  rw [e] at z
  rw [z]
  exact ⟨fun hb a a0 a1 => by rw [show a = i by omega]; exact hb, fun hb => hb i (by omega) (by omega)⟩
theorem row_half {B : Int → Bool} {below : List Bool} {n : Int} (h0 : 0 ≤ n) (h1 : n ≤ 15) (hb : RowF B below (n + 1)) {i : Int} (hi0 : 0 ≤ i) (hi1 : 2 * i + 1 < below.length) : (rdOf false below (2 * i) && rdOf false below (2 * i + 1)) = decide (cz B (i * psz n) n = psz n) := by
  have hz := psz_half h0 h1
  have zp := psz_pos (n + 1)
  have e1 : 2 * i * psz (n + 1) = i * psz n := by rw [hz, Int.mul_comm 2 i, Int.mul_assoc]
  have e2 : (2 * i + 1) * psz (n + 1) = i * psz n + psz (n + 1) := by rw [Int.add_mul, e1, Int.one_mul]
  rw [hb.2 (2 * i) (by omega) (by omega), hb.2 (2 * i + 1) (by omega) (by omega), e1, e2, Bool.eq_iff_iff, Bool.and_eq_true, decide_eq_true_iff, decide_eq_true_iff, decide_eq_true_iff, cz_half B _ h0 h1]
  have z1 := cz_le B (i * psz n) (n + 1)
  have z2 := cz_le B (i * psz n + psz (n + 1)) (n + 1)
  omega
theorem row_in {B : Int → Bool} {x3 : List (List Bool)} (h3 : x3.length = 17) {below : List Bool} {n : Int} (h0 : 0 ≤ n) (h1 : n ≤ 15) (hb : RowF B below (n + 1)) {m : Nat} (hm : below.length = 2 * m) (hm2 : m ≤ 65536) :
    ∀ (d i : Nat) (row : List Bool), i + d = m → row.length = m → (∀ j : Int, 0 ≤ j → j < i → rdOf false row j = decide (cz B (j * psz n) n = psz n)) → ∃ row', RowF B row' n ∧ ∀ k, spec_l01Blocks.l1 (k + d + 1) x3 n below row i = spec_l01Blocks.l0 k (x3.set n.toNat row') (n - 1) := by
  intro d
  induction d with
  | zero =>
    intro i row hi hr hj
    refine ⟨row, ⟨?_, fun j j0 j1 => hj j j0 (by omega)⟩, fun k => ?_⟩
    · have e := hb.1
      have hz := psz_half h0 h1
      rw [hm, Int.natCast_mul, Int.mul_comm ((2 : Nat) : Int) (m : Int), Int.mul_assoc] at e
      rw [hr, hz]
      exact e
    · simp only [spec_l01Blocks.l1]
      rw [if_neg (by omega), if_pos h0, if_pos (by rw [h3]; omega), w64 (n := n - 1) (by omega) (by omega)]
  | succ d ih =>
    intro i row hi hr hj
    have hil : i < m := by omega
    obtain ⟨v, hv⟩ : ∃ v, v = (rdOf false below (2 * (i : Int)) && rdOf false below (2 * (i : Int) + 1)) := ⟨_, rfl⟩
    have hv2 := row_half h0 h1 hb (i := (i : Int)) (by omega) (by omega)
    rw [← hv] at hv2
    obtain ⟨row', g1, g2⟩ := ih (i + 1) (row.set ((i : Int)).toNat v) (by omega) (by rw [List.length_set]; exact hr) (fun j j0 j1 => by
      rw [rdb_set v (by omega) (by omega) j0]
      by_cases c : (i : Int) = j
      · rw [if_pos c, ← c]; exact hv2
      · rw [if_neg c]; exact hj j j0 (by omega))
    refine ⟨row', g1, fun k => ?_⟩
    obtain ⟨K, hK⟩ : ∃ K, K = k + d + 1 := ⟨_, rfl⟩
    have ek : k + (d + 1) + 1 = K + 1 := by omega
    have g3 := g2 k
    rw [← hK] at g3
    rw [ek]
    simp only [spec_l01Blocks.l1]
    rw [if_pos (by omega), w64 (n := 2 * (i : Int)) (by omega) (by omega), if_pos (by omega), if_pos (by omega), wn1 (by omega)]
    cases h2 : rdOf false below (2 * (i : Int)) with
    | false =>
      rw [h2, Bool.false_and] at hv
      rw [if_neg (by decide), if_pos (by omega), ← hv]
      exact g3
    | true =>
      rw [h2, Bool.true_and] at hv
      rw [if_pos rfl, w64 (n := 2 * (i : Int) + 1) (by omega) (by omega), if_pos (by omega), if_pos (by omega), if_pos (by omega), ← hv]
      exact g3
/-- All rows from m on. -/
def FullF (B : Int → Bool) (x3 : List (List Bool)) (n : Int) : Prop := x3.length = 17 ∧ ∀ m, n < m → m ≤ 16 → RowF B (rd_L4 x3 m) m
theorem rdL_set {x3 : List (List Bool)} {n m : Int} {r : List Bool} (h0 : 0 ≤ n) (h1 : n < x3.length) (hm : 0 ≤ m) : rd_L4 (x3.set n.toNat r) m = if n = m then r else rd_L4 x3 m := by
  unfold rd_L4
  rw [List.getD_eq_getElem?_getD, List.getD_eq_getElem?_getD, List.getElem?_set]
  by_cases c : n = m
  · subst c
    rw [if_pos rfl, if_pos rfl, if_pos (by omega)]
    rfl
  · rw [if_neg (by omega), if_neg c]
theorem row_len {B : Int → Bool} {r : List Bool} {m : Int} (h0 : 1 ≤ m) (h1 : m ≤ 16) (h : RowF B r m) : ∃ q : Nat, r.length = 2 * q ∧ q ≤ 32768 := by
  have e := h.1
  rcases len17 (show 0 ≤ m by omega) h1 with rfl | rfl | rfl | rfl | rfl | rfl | rfl | rfl | rfl | rfl | rfl | rfl | rfl | rfl | rfl | rfl | rfl
  · omega
  all_goals (unfold psz at e; simp only [Int.reduceSub, Int.reduceToNat, Int.reducePow] at e; exact ⟨r.length / 2, by omega, by omega⟩)
theorem rows_ok {B : Int → Bool} {K : Nat} (hK : 32780 ≤ K) : ∀ (d : Nat) (x3 : List (List Bool)) (n : Int), n + 1 = d → n ≤ 15 → FullF B x3 n → ∃ x3' C, C ≤ d * K ∧ FullF B x3' (-1) ∧ ∀ k, spec_l01Blocks.l0 (k + C + 1) x3 n = spec_l01Blocks.l2 k x3' [] 0 := by
  intro d
  induction d with
  | zero =>
    intro x3 n hn h1 hF
    refine ⟨x3, 0, Nat.zero_le _, ?_, fun k => ?_⟩
    · rw [show n = -1 by omega] at hF; exact hF
    · simp only [spec_l01Blocks.l0]
      rw [if_neg (by omega)]
  | succ d ih =>
    intro x3 n hn h1 hF
    have h0 : 0 ≤ n := by omega
    have hb := hF.2 (n + 1) (by omega) (by omega)
    obtain ⟨q, q1, q2⟩ := row_len (by omega) (by omega) hb
    obtain ⟨row', g1, g2⟩ := row_in hF.1 h0 h1 hb q1 (by omega) q 0 (List.replicate q false) (by omega) (List.length_replicate ..) (fun j j0 j1 => by omega)
    obtain ⟨x3', C, c1, c2, c3⟩ := ih (x3.set n.toNat row') (n - 1) (by omega) (by omega) ⟨by rw [List.length_set]; exact hF.1, fun m m0 m1 => by
      have h3 := hF.1
      rw [rdL_set h0 (by omega) (by omega)]
      by_cases c : n = m
      · rw [if_pos c, ← c]; exact g1
      · rw [if_neg c]; exact hF.2 m (by omega) m1⟩
    have eK : (d + 1) * K = d * K + K := Nat.succ_mul _ _
    refine ⟨x3', C + 1 + q + 1, by omega, c2, fun k => ?_⟩
    have z := c3 k
    have z2 := g2 (k + C + 1)
    rw [z] at z2
    obtain ⟨J, hJ⟩ : ∃ J, J = k + C + 1 + q + 1 := ⟨_, rfl⟩
    have ek : k + (C + 1 + q + 1) + 1 = J + 1 := by omega
    rw [← hJ] at z2
    have h3 := hF.1
    have w1 : wrap64 (n + 1) = n + 1 := w64 (by omega) (by omega)
    have e2 : ((rd_L4 x3 (n + 1)).length : Int) / 2 = q := by rw [q1]; omega
    have w2 : wrap64 (q : Int) = q := w64 (by omega) (by omega)
    rw [ek]
    simp only [spec_l01Blocks.l0]
    rw [if_pos h0, w1, if_pos (by clear w1 w2; omega), if_pos (by clear w1 w2; omega), e2, w2, if_pos (by clear w1 w2; omega), if_pos (by clear w1 w2; omega), Int.toNat_natCast]
    exact z2
/-- A block that begins at a is told true as a whole. -/
def hit (B : Int → Bool) (a m : Int) : Prop := a % psz m = 0 ∧ cz B a m = psz m
theorem full_at {B : Int → Bool} {x3 : List (List Bool)} (hF : FullF B x3 (-1)) {m a : Int} (m0 : 0 ≤ m) (m1 : m ≤ 16) (a0 : 0 ≤ a) (a1 : a < 65536) (h : a % psz m = 0) :
    Aside0 (wrap64 (Int.tdiv a (psz m)) = a / psz m) ∧ 0 ≤ a / psz m ∧ a / psz m < (rd_L4 x3 m).length ∧ rdOf false (rd_L4 x3 m) (a / psz m) = decide (cz B a m = psz m) := by
  obtain ⟨e1, e2⟩ := hF.2 m (by omega) m1
  have zp := psz_pos m
  have d := Int.emod_add_mul_ediv a (psz m)
  rw [h, Int.zero_add] at d
  have q0 : 0 ≤ a / psz m := Int.ediv_nonneg a0 (by omega)
  have q1 : a / psz m ≤ a := Int.ediv_le_self _ a0
  have lt : a / psz m < (rd_L4 x3 m).length := by
    refine Int.lt_of_mul_lt_mul_left (a := psz m) ?_ (by omega)
    rw [d, Int.mul_comm, e1]
    exact a1
  refine ⟨⟨by rw [Int.tdiv_eq_ediv_of_nonneg a0]; exact w64 (by omega) (by omega)⟩, q0, lt, ?_⟩
  rw [e2 _ q0 lt, Int.mul_comm, d]
theorem l3_skip {B : Int → Bool} {x3 : List (List Bool)} (hF : FullF B x3 (-1)) {acc : List S28} {a m : Int} (a0 : 0 ≤ a) (a1 : a < 65536) (m0 : 0 ≤ m) (m1 : m < 16) (h : ¬ hit B a m) (k : Nat) : spec_l01Blocks.l3 (k + 1) x3 acc a m = spec_l01Blocks.l3 k x3 acc a (m + 1) := by
  have h3 := hF.1
  have zp := psz_pos m
  simp only [spec_l01Blocks.l3]
  rw [if_pos m1, spec_Size m0 (by omega)]
  simp only [Option.bind_some]
  rw [if_neg (by omega), Int.tmod_eq_emod_of_nonneg a0]
  clear zp
  by_cases c : a % psz m = 0
  · obtain ⟨f1, f2, f3, f4⟩ := full_at hF m0 (by omega) a0 a1 c
    have f5 : ¬ cz B a m = psz m := fun e => h ⟨c, e⟩
    rw [if_pos c, if_pos m0, if_pos (by omega), f1.out, if_pos f2, if_pos f3, f4, decide_eq_false f5, if_neg (by decide), w64 (n := m + 1) (by omega) (by omega)]
  · rw [if_neg c, w64 (n := m + 1) (by omega) (by omega)]
theorem l3_hit {B : Int → Bool} {x3 : List (List Bool)} (hF : FullF B x3 (-1)) {acc : List S28} {a m : Int} (a0 : 0 ≤ a) (a1 : a < 65536) (m0 : 0 ≤ m) (m1 : m ≤ 16) (h : hit B a m) (k : Nat) : spec_l01Blocks.l3 (k + 1) x3 acc a m = spec_l01Blocks.j4 k x3 acc a m := by
  have h3 := hF.1
  have zp := psz_pos m
  simp only [spec_l01Blocks.l3]
  by_cases c : m < 16
  · obtain ⟨f1, f2, f3, f4⟩ := full_at hF m0 m1 a0 a1 h.1
    rw [if_pos c, spec_Size m0 m1]
    simp only [Option.bind_some]
    rw [if_neg (by omega), Int.tmod_eq_emod_of_nonneg a0, if_pos h.1, if_pos m0, if_pos (by omega), f1.out, if_pos f2, if_pos f3, f4, decide_eq_true h.2, if_pos rfl]
  · rw [if_neg c]
theorem j4_hit {B : Int → Bool} {x3 : List (List Bool)} (hF : FullF B x3 (-1)) {acc : List S28} (ha : acc.length ≤ 1000000) {a m : Int} (a0 : 0 ≤ a) (a1 : a < 65536) (m0 : 0 ≤ m) (m1 : m ≤ 16) (h : hit B a m) (k : Nat) : spec_l01Blocks.j4 (k + 1) x3 acc a m = spec_l01Blocks.l2 k x3 (acc ++ [(⟨a, m⟩ : S28)]) (a + psz m) := by
  have h3 := hF.1
  have zp := psz_pos m
  have zl := psz_le m0 m1
  obtain ⟨f1, f2, f3, f4⟩ := full_at hF m0 m1 a0 a1 h.1
  simp only [spec_l01Blocks.j4]
  rw [if_pos m0, if_pos (by omega), spec_Size m0 m1]
  simp only [Option.bind_some]
  rw [if_neg (by omega), f1.out, if_pos f2, if_pos f3, f4, decide_eq_true h.2, if_pos rfl, if_pos (by omega), w64 (n := a + psz m) (by omega) (by omega)]
theorem j4_none {B : Int → Bool} {x3 : List (List Bool)} (hF : FullF B x3 (-1)) {acc : List S28} {a : Int} (a0 : 0 ≤ a) (a1 : a < 65536) (h : ¬ hit B a 16) (k : Nat) : spec_l01Blocks.j4 (k + 1) x3 acc a 16 = spec_l01Blocks.l2 k x3 acc (a + 1) := by
  have h3 := hF.1
  have e1 : a % psz 16 = 0 := by
    have : psz 16 = 1 := by decide
    rw [this]; omega
  have zp := psz_pos 16
  obtain ⟨f1, f2, f3, f4⟩ := full_at hF (m := 16) (by omega) (by omega) a0 a1 e1
  have f5 : ¬ cz B a 16 = psz 16 := fun e => h ⟨e1, e⟩
  simp only [spec_l01Blocks.j4]
  rw [if_pos (by omega), if_pos (by omega), spec_Size (by omega) (by omega)]
  simp only [Option.bind_some]
  rw [if_neg (by omega), f1.out, if_pos f2, if_pos f3, f4, decide_eq_false f5, if_neg (by decide), w64 (n := a + 1) (by omega) (by omega)]
theorem l3_to {B : Int → Bool} {x3 : List (List Bool)} (hF : FullF B x3 (-1)) {acc : List S28} {a l : Int} (a0 : 0 ≤ a) (a1 : a < 65536) (l1 : l ≤ 16) (k : Nat) : ∀ (d : Nat) (m : Int), m + d = l → 0 ≤ m → (∀ j, m ≤ j → j < l → ¬ hit B a j) → spec_l01Blocks.l3 (k + d) x3 acc a m = spec_l01Blocks.l3 k x3 acc a l := by
  intro d
  induction d with
  | zero =>
    intro m h m0 hn
    rw [show m = l by omega]
    rfl
  | succ d ih =>
    intro m h m0 hn
    have z := l3_skip hF (acc := acc) a0 a1 m0 (show m < 16 by omega) (hn m (Int.le_refl _) (by omega)) (k + d)
    rw [show k + (d + 1) = k + d + 1 by omega, z]
    exact ih (m + 1) (by omega) (by omega) (fun j j0 j1 => hn j (by omega) j1)
theorem scan_none {B : Int → Bool} {x3 : List (List Bool)} (hF : FullF B x3 (-1)) {acc : List S28} {a : Int} (a0 : 0 ≤ a) (a1 : a < 65536) (h : ∀ j, 0 ≤ j → j ≤ 16 → ¬ hit B a j) (k : Nat) : spec_l01Blocks.l2 (k + 19) x3 acc a = spec_l01Blocks.l2 k x3 acc (a + 1) := by
  have z := l3_to hF (acc := acc) a0 a1 (l := 16) (by omega) (k + 2) 16 0 (by omega) (by omega) (fun j j0 j1 => h j j0 (by omega))
  obtain ⟨K, hK⟩ : ∃ K, K = k + 2 + 16 := ⟨_, rfl⟩
  rw [← hK] at z
  rw [show k + 19 = K + 1 by omega]
  simp only [spec_l01Blocks.l2]
  rw [if_pos a1, z, show k + 2 = (k + 1) + 1 by omega]
  simp only [spec_l01Blocks.l3]
  rw [if_neg (by omega)]
  exact j4_none hF a0 a1 (h 16 (by omega) (by omega)) k
theorem scan_hit {B : Int → Bool} {x3 : List (List Bool)} (hF : FullF B x3 (-1)) {acc : List S28} (ha : acc.length ≤ 1000000) {a l : Int} (a0 : 0 ≤ a) (a1 : a < 65536) (l0 : 0 ≤ l) (l1 : l ≤ 16) (h : hit B a l) (hn : ∀ j, 0 ≤ j → j < l → ¬ hit B a j) (k : Nat) : spec_l01Blocks.l2 (k + (l.toNat + 3)) x3 acc a = spec_l01Blocks.l2 k x3 (acc ++ [(⟨a, l⟩ : S28)]) (a + psz l) := by
  have z := l3_to hF (acc := acc) a0 a1 l1 (k + 2) l.toNat 0 (by omega) (by omega) (fun j j0 j1 => hn j j0 j1)
  obtain ⟨K, hK⟩ : ∃ K, K = k + 2 + l.toNat := ⟨_, rfl⟩
  rw [← hK] at z
  rw [show k + (l.toNat + 3) = K + 1 by omega]
  simp only [spec_l01Blocks.l2]
  rw [if_pos a1, z, show k + 2 = (k + 1) + 1 by omega, l3_hit hF a0 a1 l0 l1 h (k + 1)]
  exact j4_hit hF ha a0 a1 l0 l1 h k
theorem scan_run {B : Int → Bool} {x3 : List (List Bool)} (hF : FullF B x3 (-1)) {acc : List S28} (k : Nat) : ∀ (n : Nat) (a : Int), 0 ≤ a → a + n ≤ 65536 → (∀ b, a ≤ b → b < a + n → B b = false) → spec_l01Blocks.l2 (k + 19 * n) x3 acc a = spec_l01Blocks.l2 k x3 acc (a + n) := by
  intro n
  induction n with
  | zero =>
    intro a a0 a1 h
    rw [show a + ((0 : Nat) : Int) = a by omega]
    rfl
  | succ n ih =>
    intro a a0 a1 h
    have z := scan_none hF (acc := acc) a0 (by omega) (fun j j0 j1 hj => by
      have z := cz_full.1 hj.2 a (Int.le_refl _) (by have := psz_pos j; omega)
      rw [h a (Int.le_refl _) (by omega)] at z
      cases z) (k + 19 * n)
    rw [show k + 19 * (n + 1) = k + 19 * n + 19 by omega, z, ih (a + 1) (by omega) (by omega) (fun b b0 b1 => h b (by omega) (by omega))]
    congr 1
    omega
/-- No greater block around it is told true as a whole. -/
def NFb (B : Int → Bool) (s l : Int) : Prop := ∀ s' m, m < l → Pok s' m → s' ≤ s → s < s' + psz m → ¬ cz B s' m = psz m
theorem NFb.child {B : Int → Bool} {s l h : Int} (p : Pok s l) (hN : NFb B s l) (hw : ¬ cz B s l = psz l) (h0 : 0 ≤ h) (h1 : h < psz l) : NFb B (s + h) (l + 1) := by
  intro s' m hm p' a1 a2
  obtain ⟨b0, b1, b2, b3, b4⟩ := p
  obtain ⟨c0, c1, c2, c3, c4⟩ := p'
  have z := psz_pos l
  have al := psz_mod c0 (show m ≤ l by omega) b1 c4
  have le := mult_le z al b4 (show s' < s + psz l by omega)
  by_cases c : m = l
  · subst c
    have le2 := mult_le z b4 al (show s < s' + psz m by omega)
    have e : s' = s := by omega
    rw [e]
    exact hw
  · exact hN s' m (by omega) ⟨c0, c1, c2, c3, c4⟩ le (by omega)
theorem scan_ok {B : Int → Bool} {x3 : List (List Bool)} (hF : FullF B x3 (-1)) : ∀ (d : Nat) (s l : Int), l + d = 16 → Pok s l → NFb B s l → ∃ c : Nat, (c : Int) ≤ psz l * 20 ∧ ∀ (acc : List S28) (k : Nat), (acc.length : Int) + psz l ≤ 1000000 →
    spec_l01Blocks.l2 (k + c) x3 acc s = spec_l01Blocks.l2 k x3 (acc ++ blk B d s l) (s + psz l) := by
  have none_ : ∀ (d : Nat) (s l : Int), Pok s l → cz B s l = 0 → blk B d s l = [] → ∃ c : Nat, (c : Int) ≤ psz l * 20 ∧ ∀ (acc : List S28) (k : Nat), (acc.length : Int) + psz l ≤ 1000000 → spec_l01Blocks.l2 (k + c) x3 acc s = spec_l01Blocks.l2 k x3 (acc ++ blk B d s l) (s + psz l) := fun d s l p c0 e => by
    have tp := p.top
    have en := psz_nat l
    have zp := psz_pos l
    refine ⟨19 * (psz l).toNat, by omega, fun acc k ha => ?_⟩
    have z := scan_run hF (acc := acc) k (psz l).toNat s p.2.2.1 (by omega) (fun b b0 b1 => cz_zero.1 c0 b b0 (by omega))
    rw [e, List.append_nil, z, en]
  have hit_ : ∀ (d : Nat) (s l : Int), Pok s l → NFb B s l → cz B s l = psz l → blk B d s l = [⟨s, l⟩] → ∃ c : Nat, (c : Int) ≤ psz l * 20 ∧ ∀ (acc : List S28) (k : Nat), (acc.length : Int) + psz l ≤ 1000000 → spec_l01Blocks.l2 (k + c) x3 acc s = spec_l01Blocks.l2 k x3 (acc ++ blk B d s l) (s + psz l) := fun d s l p hN c1 e => by
    have tp := p.top
    have zp := psz_pos l
    have p' := p
    obtain ⟨b0, b1, b2, b3, b4⟩ := p'
    refine ⟨l.toNat + 3, by omega, fun acc k ha => ?_⟩
    rw [e]
    exact scan_hit hF (by omega) b2 (by omega) b0 b1 ⟨b4, c1⟩ (fun j j0 j1 hj => hN s j j1 ⟨j0, by omega, b2, b3, hj.1⟩ (Int.le_refl _) (by have := psz_pos j; omega) hj.2) k
  intro d
  induction d with
  | zero =>
    intro s l hl p hN
    have e1 : psz l = 1 := by
      have : l = 16 := by omega
      rw [this]; decide
    have zc := cz_le B s l
    by_cases c0 : cz B s l = 0
    · exact none_ 0 s l p c0 (by unfold blk; rw [if_pos c0])
    · exact hit_ 0 s l p hN (by omega) (by unfold blk; rw [if_neg c0])
  | succ d ih =>
    intro s l hl p hN
    by_cases c0 : cz B s l = 0
    · exact none_ (d + 1) s l p c0 (by unfold blk; rw [if_pos c0])
    · by_cases c1 : cz B s l = psz l
      · exact hit_ (d + 1) s l p hN c1 (by unfold blk; rw [if_neg c0, if_pos c1])
      · have hz := psz_half p.1 (show l ≤ 15 by omega)
        have zp := psz_pos (l + 1)
        have n1 := NFb.child p hN c1 (h := 0) (by omega) (by omega)
        rw [Int.add_zero] at n1
        have n2 := NFb.child p hN c1 (h := psz (l + 1)) (by omega) (by omega)
        obtain ⟨k1, x1, x2⟩ := ih s (l + 1) (by omega) (p.left (by omega)) n1
        obtain ⟨k2, y1, y2⟩ := ih (s + psz (l + 1)) (l + 1) (by omega) (p.right (by omega)) n2
        have bl := blk_len B d s (l + 1) (by omega) (by have := p.1; omega)
        refine ⟨k2 + k1, by omega, fun acc k ha => ?_⟩
        have u1 := x2 acc (k + k2) (by omega)
        have u2 := y2 (acc ++ blk B d s (l + 1)) k (by rw [List.length_append]; omega)
        have e : blk B (d + 1) s l = blk B d s (l + 1) ++ blk B d (s + psz (l + 1)) (l + 1) := by
          show (if cz B s l = 0 then [] else if cz B s l = psz l then [⟨s, l⟩] else blk B d s (l + 1) ++ blk B d (s + psz (l + 1)) (l + 1)) = _
          rw [if_neg c0, if_neg c1]
        rw [show k + (k2 + k1) = k + k2 + k1 by omega, u1, u2, e, List.append_assoc]
        congr 1
        omega
theorem spec_blocks {M : List Bool} {B : Int → Bool} (hM : Mk M B) {d : Nat} (hd : d = 16) : ∀ k, 2000000 < k → spec_l01Blocks.f k M = some (blk B d 0 0) := by
  have e16 : psz 0 = 65536 := by decide
  obtain ⟨K, hK⟩ : ∃ K, K = 32780 := ⟨_, rfl⟩
  have f0 : FullF B ((List.replicate 17 [] : List (List Bool)).set (16 : Int).toNat M) 15 := ⟨by rw [List.length_set, List.length_replicate], fun m m0 m1 => by
    rw [rdL_set (by omega) (by rw [List.length_replicate]; omega) (by omega), if_pos (by omega), show m = 16 by omega]
    exact row16 hM⟩
  obtain ⟨x3, C, c1, c2, c3⟩ := rows_ok (B := B) (K := K) (by omega) 16 _ 15 (by omega) (by omega) f0
  obtain ⟨c, s1, s2⟩ := scan_ok c2 d 0 0 (by omega) ⟨by omega, by omega, by omega, by omega, by rw [e16]; rfl⟩ (fun s' m hm p' => by have := p'.1; omega)
  rw [e16] at s1 s2
  intro k hk
  obtain ⟨k, rfl⟩ : ∃ m, k = (m + 1 + c) + C + 1 := ⟨k - C - c - 2, by omega⟩
  have z1 := c3 (k + 1 + c)
  have z2 := s2 [] (k + 1) (by simp)
  have z3 : spec_l01Blocks.l2 (k + 1) x3 ([] ++ blk B d 0 0) (0 + 65536) = some (blk B d 0 0) := by
    simp only [spec_l01Blocks.l2]
    rw [if_neg (by omega), List.nil_append]
  unfold spec_l01Blocks.f
  rw [if_pos (by omega), Option.bind_some, if_pos (by rw [List.length_replicate]; omega), z1, z2, z3]
theorem rd_getP {x : List S28} {j : Nat} : rd_T28 x j = x.getD j z28 := by
  unfold rd_T28
  rw [Int.toNat_natCast]
theorem rdP_set {x : List S28} {i j : Nat} (v : S28) (hi : i < x.length) : rd_T28 (x.set i v) j = if i = j then v else rd_T28 x j := by
  rw [rd_getP, rd_getP, List.getD_eq_getElem?_getD, List.getD_eq_getElem?_getD, List.getElem?_set]
  by_cases c : i = j
  · subst c; simp [hi]
  · simp [c]
theorem mark_PrefixS2 (a : Int) (h0 : 0 ≤ a) (ha : a ≤ 10485760) {l : List S28} {k : Nat} (h : l.length ≤ 1048576) (hk : l.length < k) :
    ∃ M, laws_markPrefixS.f k l a = some (a + 2 * l.length, M) ∧ M.length = l.length ∧ ∀ j : Nat, j < l.length → rd_T28 M j = (⟨a + 2 * (j : Int), a + 2 * (j : Int) + 1⟩ : S28) := by
  have key : ∀ (d k i : Nat) (x : List S28), i + d = x.length → d < k → x.length ≤ 1048576 → (∀ j : Nat, j < i → rd_T28 x j = (⟨a + 2 * (j : Int), a + 2 * (j : Int) + 1⟩ : S28)) →
      ∃ M, laws_markPrefixS.l0 k x (a + 2 * i) i = some (a + 2 * x.length, M) ∧ M.length = x.length ∧ ∀ j : Nat, j < x.length → rd_T28 M j = (⟨a + 2 * (j : Int), a + 2 * (j : Int) + 1⟩ : S28) := by
    intro d
    induction d with
    | zero =>
      intro k i x hi hk hx hj
      obtain ⟨k, rfl⟩ : ∃ m, k = m + 1 := ⟨k - 1, by omega⟩
      obtain rfl : i = x.length := by omega
      simp only [laws_markPrefixS.l0]
      rw [if_neg (by omega)]
      exact ⟨x, rfl, rfl, hj⟩
    | succ d ih =>
      intro k i x hi hk hx hj
      obtain ⟨k, rfl⟩ : ∃ m, k = m + 1 := ⟨k - 1, by omega⟩
      have hil : i < x.length := by omega
      have hfin : ∃ M, laws_markPrefixS.l0 k (x.set i (⟨a + 2 * (i : Int), a + 2 * (i : Int) + 1⟩ : S28)) (a + 2 * ((i + 1 : Nat) : Int)) ((i + 1 : Nat) : Int) = some (a + 2 * x.length, M) ∧ M.length = x.length ∧ ∀ j : Nat, j < x.length → rd_T28 M j = (⟨a + 2 * (j : Int), a + 2 * (j : Int) + 1⟩ : S28) := by
        have z := ih k (i + 1) (x.set i (⟨a + 2 * (i : Int), a + 2 * (i : Int) + 1⟩ : S28)) (by rw [List.length_set]; omega) (by omega) (by rw [List.length_set]; exact hx) (fun j hj2 => by
          rw [rdP_set _ hil]
          by_cases c : i = j
          · subst c; rw [if_pos rfl]
          · rw [if_neg c]; exact hj j (by omega))
        rw [List.length_set] at z; exact z
      simp only [laws_markPrefixS.l0, Option.bind_some]
      rw [if_pos (by omega), if_pos (by omega)]
      simp only [Int.toNat_natCast, List.set_set, rdP_set _ hil, if_true]
      have w1 : wrap64 (a + 2 * (i : Int) + 1) = a + 2 * (i : Int) + 1 := w64 (by omega) (by omega)
      have w2' : wrap64 (a + 2 * (i : Int) + 1 + 1) = a + 2 * ((i + 1 : Nat) : Int) := by rw [w64 (by omega) (by omega)]; omega
      have w4 : wrap64 ((i : Int) + 1) = ((i + 1 : Nat) : Int) := by rw [w64 (by omega) (by omega)]; omega
      rw [w1, w2', w4]
      exact hfin
  have z := key l.length k 0 l (by omega) hk h (fun j hj => by omega)
  have e : a + 2 * ((0 : Nat) : Int) = a := by omega
  rw [e] at z
  exact z
theorem held_PrefixS2 (a : Int) (h0 : 0 ≤ a) (ha : a ≤ 10485760) {M : List S28} {k : Nat} (h : M.length ≤ 1048576) (hk : M.length < k) (hM : ∀ j : Nat, j < M.length → rd_T28 M j = (⟨a + 2 * (j : Int), a + 2 * (j : Int) + 1⟩ : S28)) : laws_heldPrefixS.f k M a = some (a + 2 * M.length) := by
  have key : ∀ (d k i : Nat), i + d = M.length → d < k → laws_heldPrefixS.l0 k M (a + 2 * i) i = some (a + 2 * M.length) := by
    intro d
    induction d with
    | zero =>
      intro k i hi hk
      obtain ⟨k, rfl⟩ : ∃ m, k = m + 1 := ⟨k - 1, by omega⟩
      obtain rfl : i = M.length := by omega
      simp only [laws_heldPrefixS.l0]
      rw [if_neg (by omega)]
    | succ d ih =>
      intro k i hi hk
      obtain ⟨k, rfl⟩ : ∃ m, k = m + 1 := ⟨k - 1, by omega⟩
      have z := ih k (i + 1) (by omega) (by omega)
      have w1 : wrap64 (a + 2 * (i : Int) + 1) = a + 2 * (i : Int) + 1 := w64 (by omega) (by omega)
      have w2' : wrap64 (a + 2 * (i : Int) + 1 + 1) = a + 2 * ((i + 1 : Nat) : Int) := by rw [w64 (by omega) (by omega)]; omega
      have w4 : wrap64 ((i : Int) + 1) = ((i + 1 : Nat) : Int) := by rw [w64 (by omega) (by omega)]; omega
      have c1 : (i : Int) < (M.length : Int) := by clear w1 w2' w4 z; omega
      have c2 : (0 : Int) ≤ (i : Int) := by clear w1 w2' w4 z; omega
      simp only [laws_heldPrefixS.l0]
      rw [if_pos c1, if_pos c2, hM i (by clear w1 w2' w4 z; omega), w1, if_pos rfl, if_pos rfl, w2', w4]
      exact z
  have z := key M.length k 0 (by omega) hk
  have e : a + 2 * ((0 : Nat) : Int) = a := by omega
  rw [e] at z
  exact z
theorem both_Agg (l : List S28) : ∃ (r : List S28) (ok : Bool), r.length ≤ 65536 ∧ ∀ k, 30000000 < k → spec_Aggregate.f k l = some (r, ok) ∧ impl_Aggregate.f k l = some (r, ok) := by
  by_cases c : l.length ≤ 300 ∧ ∀ q ∈ l, POk q
  · obtain ⟨c1, c2⟩ := c
    obtain ⟨M, m1, m2⟩ := marks_ok c1 c2
    have e16 : psz 0 = 65536 := by decide
    have bl := blk_len (Bof l) 16 0 0 (by omega) (by omega)
    rw [e16] at bl
    refine ⟨blk (Bof l) 16 0 0, true, by omega, fun k hk => ⟨?_, impl_agg c1 c2 (by omega)⟩⟩
    unfold spec_Aggregate.f
    rw [m2 k (by omega)]
    simp only [Option.bind_some]
    rw [if_pos trivial, spec_blocks m1 (d := 16) rfl k (by omega)]
    rfl
  · refine ⟨[], false, Nat.zero_le _, fun k hk => ⟨?_, impl_agg_no c (by omega)⟩⟩
    unfold spec_Aggregate.f
    rw [marks_no c (by omega)]
    rfl
theorem FnExactAggregate : FnExactAggregate.Pure := by
  intro l hw
  have hm : l.length ≤ 9223372036854775807 := hw.1
  obtain ⟨K, hK⟩ : ∃ K, K = l.length + 40000000 := ⟨_, rfl⟩
  refine ⟨K + 3, ?_⟩
  unfold laws_FnExactAggregate.f
  rw [sz_PrefixS hm]
  simp only [Option.bind_some]
  by_cases hl : l.length ≤ 1048576
  · have hn : (l.map cvP).length = l.length := List.length_map ..
    obtain ⟨r, ok, hlen, hr⟩ := both_Agg (l.map cvP)
    have hs := (hr (K + 3) (by omega)).1
    have hi := (hr (K + 3) (by omega)).2
    have hi2 := (hr (K + 1) (by omega)).2
    obtain ⟨M1, m1, _⟩ := mark_PrefixS2 1 (by omega) (by omega) (l := l.map cvP) (k := K + 2) (by omega) (by omega)
    obtain ⟨M2, m2, m3, m4⟩ := mark_PrefixS2 1 (by omega) (by omega) (l := r) (k := K + 1) (by omega) (by omega)
    have m5 := held_PrefixS2 1 (by omega) (by omega) (M := M2) (k := K + 1) (by omega) (by omega) (by rw [m3]; exact m4)
    have m6 := held_PrefixS2 1 (by omega) (by omega) (M := M2) (k := K) (by omega) (by omega) (by rw [m3]; exact m4)
    rw [if_pos hl, if_neg (by omega), to_PrefixS hl (by omega)]
    simp only [Option.bind_some]
    rw [hs]
    simp only [Option.bind_some]
    rw [hi]
    simp only [Option.bind_some]
    rw [eq_PrefixS (by omega) (by omega)]
    simp only [Option.bind_some, if_true, bne_self_eq_false]
    simp only [laws_FnExactAggregate.j0]
    rw [if_neg (by decide), to_PrefixS hl (by omega)]
    simp only [Option.bind_some]
    rw [eq_PrefixS (by omega) (by omega)]
    simp only [Option.bind_some, if_true]
    rw [m1]
    simp only [Option.bind_some]
    rw [if_neg (by omega), eq_PrefixS (by omega) (by omega)]
    simp only [Option.bind_some, if_true, bne_self_eq_false]
    simp only [laws_FnExactAggregate.j1]
    rw [if_neg (by decide), m2]
    simp only [Option.bind_some]
    rw [m5, m3]
    simp only [Option.bind_some]
    rw [if_neg (by omega), if_pos trivial, to_PrefixS hl (by omega)]
    simp only [Option.bind_some]
    rw [hi2]
    simp only [Option.bind_some]
    rw [eq_PrefixS (by omega) (by omega)]
    simp only [Option.bind_some, if_true, bne_self_eq_false]
    simp only [laws_FnExactAggregate.j2]
    rw [if_neg (by decide), m6, m3]
    simp only [Option.bind_some]
    rw [if_neg (by omega)]
    simp
  · rw [if_neg hl]; rfl

end Go.Proofs.Ytjepmdngbafonaa.Pure
