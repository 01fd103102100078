/- The plain law of FnAggregate: the program's answer is the reference's. -/
import Derived.Test.YtjepmdngbafonaaStmtFnAggregate
namespace Go.Proofs.Ytjepmdngbafonaa.Pure
open Go.RowKit Go.Proofs.Ytjepmdngbafonaa.QFnAggregate Go.Proofs.YtjepmdngbafonaaB.PrintWords Go.Proofs.YtjepmdngbafonaaB.PrintLast Go.Proofs.YtjepmdngbafonaaB.PrintMore
set_option linter.unusedVariables false
set_option linter.unusedSimpArgs false

theorem len17 {l : Int} (h0 : 0 ≤ l) (h1 : l ≤ 16) : l = 0 ∨ l = 1 ∨ l = 2 ∨ l = 3 ∨ l = 4 ∨ l = 5 ∨ l = 6 ∨ l = 7 ∨ l = 8 ∨ l = 9 ∨ l = 10 ∨ l = 11 ∨ l = 12 ∨ l = 13 ∨ l = 14 ∨ l = 15 ∨ l = 16 := by omega
/-- How many addresses a prefix of length l has. -/
def psz (l : Int) : Int := 2 ^ (16 - l).toNat
theorem psz_pos (l : Int) : 0 < psz l := Int.pow_pos (by decide)
theorem psz_le {l : Int} (h0 : 0 ≤ l) (h1 : l ≤ 16) : psz l ≤ 65536 := by
  rcases len17 h0 h1 with rfl | rfl | rfl | rfl | rfl | rfl | rfl | rfl | rfl | rfl | rfl | rfl | rfl | rfl | rfl | rfl | rfl <;> decide
theorem psz_half {l : Int} (h0 : 0 ≤ l) (h1 : l ≤ 15) : psz l = 2 * psz (l + 1) := by
  rcases len17 h0 (by omega) with rfl | rfl | rfl | rfl | rfl | rfl | rfl | rfl | rfl | rfl | rfl | rfl | rfl | rfl | rfl | rfl | rfl <;> first | decide | omega
theorem psz_top {l : Int} (h0 : 0 ≤ l) (h1 : l ≤ 16) : 65536 = psz l * 2 ^ l.toNat := by
  rcases len17 h0 h1 with rfl | rfl | rfl | rfl | rfl | rfl | rfl | rfl | rfl | rfl | rfl | rfl | rfl | rfl | rfl | rfl | rfl <;> decide
theorem w64 {n : Int} (h0 : -9223372036854775808 ≤ n) (h1 : n ≤ 9223372036854775807) : wrap64 n = n := by unfold wrap64; omega
theorem shl_psz {l : Int} (h0 : 0 ≤ l) (h1 : l ≤ 16) : shl .i64 1 (16 - l) = psz l := by
  rcases len17 h0 h1 with rfl | rfl | rfl | rfl | rfl | rfl | rfl | rfl | rfl | rfl | rfl | rfl | rfl | rfl | rfl | rfl | rfl <;> decide
theorem u64w {n : Int} (h0 : 0 ≤ n) (h1 : n ≤ 16) : IntKind.u64.wrap n = n := by
  rcases len17 h0 h1 with rfl | rfl | rfl | rfl | rfl | rfl | rfl | rfl | rfl | rfl | rfl | rfl | rfl | rfl | rfl | rfl | rfl <;> decide
/-- A valid prefix. -/
def Pok (n l : Int) : Prop := 0 ≤ l ∧ l ≤ 16 ∧ 0 ≤ n ∧ n ≤ 65535 ∧ n % psz l = 0
instance (n l : Int) : Decidable (Pok n l) := by unfold Pok; infer_instance
theorem Pok.top {n l : Int} (h : Pok n l) : n + psz l ≤ 65536 := by
  obtain ⟨h0, h1, h2, h3, h4⟩ := h
  have e := psz_top h0 h1
  have p := psz_pos l
  have d := Int.emod_add_mul_ediv n (psz l)
  rw [h4, Int.zero_add] at d
  have q : n / psz l < 2 ^ l.toNat := by
    apply Int.ediv_lt_of_lt_mul p
    rw [Int.mul_comm]; omega
  have m : psz l * (n / psz l + 1) ≤ psz l * 2 ^ l.toNat := Int.mul_le_mul_of_nonneg_left (by omega) (by omega)
  rw [Int.mul_add] at m
  omega
theorem spec_In (a b c : Int) : spec_l01In.f a b c = some (decide (b ≤ a ∧ a ≤ c)) := by
  unfold spec_l01In.f
  by_cases h : b ≤ a <;> simp [h]
theorem spec_Addr (a : Int) : spec_l01Addr.f a = some (decide (0 ≤ a ∧ a ≤ 65535)) := by
  unfold spec_l01Addr.f; rw [spec_In]; rfl
theorem spec_Size {l : Int} (h0 : 0 ≤ l) (h1 : l ≤ 16) : spec_l01Size2.f l = some (psz l) := by
  unfold spec_l01Size2.f
  rw [w64 (by omega) (by omega), u64w (by omega) (by omega), if_pos (by omega), shl_psz h0 h1]
theorem spec_Pok (n l : Int) : spec_PrefixOk.f n l = some (decide (Pok n l)) := by
  unfold spec_PrefixOk.f
  rw [spec_In, spec_Addr]
  simp only [Option.bind_some, decide_eq_true_eq]
  by_cases hl : 0 ≤ l ∧ l ≤ 16
  · rw [if_pos hl]
    by_cases hn : 0 ≤ n ∧ n ≤ 65535
    · rw [if_pos hn, spec_Size hl.1 hl.2]
      have p := psz_pos l
      simp only [Option.bind_some]
      rw [if_neg (by omega), Int.tmod_eq_emod_of_nonneg hn.1]
      congr 1
      by_cases e : n % psz l = 0
      · rw [e]; simp [Pok, hl, hn, e]
      · simp [Pok, hl, hn, e]
    · rw [if_neg hn]; congr 1; symm; rw [decide_eq_false_iff_not]; unfold Pok; omega
  · rw [if_neg hl]; congr 1; symm; rw [decide_eq_false_iff_not]; unfold Pok; omega
theorem impl_In (a b c : Int) : impl_within.f a b c = some (decide (b ≤ a ∧ a ≤ c)) := by
  unfold impl_within.f
  by_cases h : b ≤ a <;> simp [h]
theorem impl_Addr (a : Int) : impl_isAddr.f a = some (decide (0 ≤ a ∧ a ≤ 65535)) := by
  unfold impl_isAddr.f; rw [impl_In]; rfl
theorem impl_Size (n : Int) {l : Int} (h0 : 0 ≤ l) (h1 : l ≤ 16) : impl_Prefix_size.f n l = some (psz l) := by
  unfold impl_Prefix_size.f
  rw [w64 (by omega) (by omega), if_pos (by omega), shl_psz h0 h1]
theorem impl_Pok (n l : Int) : impl_PrefixOk.f n l = some (decide (Pok n l)) := by
  unfold impl_PrefixOk.f
  rw [impl_In, impl_Addr]
  simp only [Option.bind_some, decide_eq_true_eq]
  by_cases hl : 0 ≤ l ∧ l ≤ 16
  · rw [if_pos hl]
    by_cases hn : 0 ≤ n ∧ n ≤ 65535
    · rw [if_pos hn, impl_Size n hl.1 hl.2]
      have p := psz_pos l
      simp only [Option.bind_some]
      rw [if_neg (by omega), Int.tmod_eq_emod_of_nonneg hn.1]
      congr 1
      by_cases e : n % psz l = 0
      · rw [e]; simp [Pok, hl, hn, e]
      · simp [Pok, hl, hn, e]
    · rw [if_neg hn]; congr 1; symm; rw [decide_eq_false_iff_not]; unfold Pok; omega
  · rw [if_neg hl]; congr 1; symm; rw [decide_eq_false_iff_not]; unfold Pok; omega
/-- A loop that asks each index and ends at the first refusal. -/
theorem all_loop {F : Nat → Int → Option Bool} {n : Nat} {P : Nat → Prop} {e : Bool}
    (hs : ∀ (k i : Nat), i < n → (∀ j, j < i → P j) → (P i ∧ F (k + 1) i = F k ((i : Int) + 1)) ∨ (¬ P i ∧ F (k + 1) i = some false))
    (he : ∀ k : Nat, (∀ j, j < n → P j) → F (k + 1) n = some e) : ∀ (d k i : Nat), i + d = n → d < k → (∀ j, j < i → P j) →
    ∃ b, F k i = some b ∧ (b = true ↔ ((∀ j, j < n → P j) ∧ e = true)) := by
  intro d
  induction d with
  | zero =>
    intro k i hi hk hp
    obtain ⟨k, rfl⟩ : ∃ m, k = m + 1 := ⟨k - 1, by omega⟩
    obtain rfl : i = n := by omega
    exact ⟨e, he k hp, ⟨fun h => ⟨hp, h⟩, fun h => h.2⟩⟩
  | succ d ih =>
    intro k i hi hk hp
    obtain ⟨k, rfl⟩ : ∃ m, k = m + 1 := ⟨k - 1, by omega⟩
    rcases hs k i (by omega) hp with ⟨h1, h2⟩ | ⟨h1, h2⟩
    · have e1 : (i : Int) + 1 = ((i + 1 : Nat) : Int) := by omega
      rw [h2, e1]
      refine ih k (i + 1) (by omega) (by omega) (fun j hj => ?_)
      by_cases hji : j = i
      · rw [hji]; exact h1
      · exact hp j (by omega)
    · refine ⟨false, h2, ⟨(fun h => by cases h), fun h => absurd (h.1 i (by omega)) h1⟩⟩
/-- A loop that copies a list, element by element. -/
theorem copy_loop {α β : Type} {F : Nat → List α → List β → Int → Option (List β)} {cv : α → β} (z : α) {N : Nat}
    (hs : ∀ (k i : Nat) (x : List α) (y : List β), x.length ≤ N → i < x.length → i < y.length → F (k + 1) x y i = F k x (y.set i (cv (x.getD i z))) ((i : Int) + 1))
    (he : ∀ (k : Nat) (x : List α) (y : List β), F (k + 1) x y x.length = some y) (x : List α) (hN : x.length ≤ N) : ∀ (d k i : Nat) (y : List β), i + d = x.length → d < k → y.length = x.length →
    y.take i = (x.take i).map cv → F k x y i = some (x.map cv) := by
  intro d
  induction d with
  | zero =>
    intro k i y hi hk hl ht
    obtain ⟨k, rfl⟩ : ∃ m, k = m + 1 := ⟨k - 1, by omega⟩
    obtain rfl : i = x.length := by omega
    rw [he]
    rw [List.take_of_length_le (by omega), List.take_of_length_le (by omega)] at ht
    rw [ht]
  | succ d ih =>
    intro k i y hi hk hl ht
    obtain ⟨k, rfl⟩ : ∃ m, k = m + 1 := ⟨k - 1, by omega⟩
    have e1 : (i : Int) + 1 = ((i + 1 : Nat) : Int) := by omega
    rw [hs k i x y hN (by omega) (by omega), e1]
    refine ih k (i + 1) _ (by omega) (by omega) (by rw [List.length_set, hl]) ?_
    have hx : i < x.length := by omega
    have hy : i < y.length := by omega
    rw [List.take_succ_eq_append_getElem (by rw [List.length_set]; exact hy), List.take_succ_eq_append_getElem hx, List.map_append, List.take_set, ht]
    congr 1
    · rw [List.set_eq_of_length_le]
      simp; omega
    · simp [List.getD_eq_getElem?_getD, hx]
/-- Two equal lists, compared element by element. -/
theorem same_loop {α : Type} {F : Nat → List α → List α → Int → Option Bool} {N : Nat}
    (hs : ∀ (k i : Nat) (x : List α), x.length ≤ N → i < x.length → F (k + 1) x x i = F k x x ((i : Int) + 1))
    (he : ∀ (k : Nat) (x : List α), F (k + 1) x x x.length = some true) (x : List α) (hN : x.length ≤ N) : ∀ (d k i : Nat), i + d = x.length → d < k → F k x x i = some true := by
  intro d
  induction d with
  | zero =>
    intro k i hi hk
    obtain ⟨k, rfl⟩ : ∃ m, k = m + 1 := ⟨k - 1, by omega⟩
    obtain rfl : i = x.length := by omega
    exact he k x
  | succ d ih =>
    intro k i hi hk
    obtain ⟨k, rfl⟩ : ∃ m, k = m + 1 := ⟨k - 1, by omega⟩
    have e1 : (i : Int) + 1 = ((i + 1 : Nat) : Int) := by omega
    rw [hs k i x hN (by omega), e1]
    exact ih k (i + 1) (by omega) (by omega)
/-- The same where what stands behind the loop wants m rounds more. -/
theorem all_loopm (m : Nat) {F : Nat → Int → Option Bool} {n : Nat} {P : Nat → Prop} {e : Bool}
    (hs : ∀ (k i : Nat), i < n → (∀ j, j < i → P j) → (P i ∧ F (k + 1) i = F k ((i : Int) + 1)) ∨ (¬ P i ∧ F (k + 1) i = some false))
    (he : ∀ k : Nat, m ≤ k → (∀ j, j < n → P j) → F (k + 1) n = some e) : ∀ (d k i : Nat), i + d = n → d + m < k → (∀ j, j < i → P j) →
    ∃ b, F k i = some b ∧ (b = true ↔ ((∀ j, j < n → P j) ∧ e = true)) := by
  intro d
  induction d with
  | zero =>
    intro k i hi hk hp
    obtain ⟨k, rfl⟩ : ∃ m, k = m + 1 := ⟨k - 1, by omega⟩
    obtain rfl : i = n := by omega
    exact ⟨e, he k (by omega) hp, ⟨fun h => ⟨hp, h⟩, fun h => h.2⟩⟩
  | succ d ih =>
    intro k i hi hk hp
    obtain ⟨k, rfl⟩ : ∃ m, k = m + 1 := ⟨k - 1, by omega⟩
    rcases hs k i (by omega) hp with ⟨h1, h2⟩ | ⟨h1, h2⟩
    · have e1 : (i : Int) + 1 = ((i + 1 : Nat) : Int) := by omega
      rw [h2, e1]
      refine ih k (i + 1) (by omega) (by omega) (fun j hj => ?_)
      by_cases hji : j = i
      · rw [hji]; exact h1
      · exact hp j (by omega)
    · refine ⟨false, h2, ⟨(fun h => by cases h), fun h => absurd (h.1 i (by omega)) h1⟩⟩
theorem psz_split {m l : Int} (h0 : 0 ≤ m) (h1 : m ≤ l) (h2 : l ≤ 16) : psz m = psz l * 2 ^ (l - m).toNat := by
  unfold psz
  rw [← Int.pow_add]
  congr 1
  omega
theorem psz_mod {a m l : Int} (h0 : 0 ≤ m) (h1 : m ≤ l) (h2 : l ≤ 16) (h : a % psz m = 0) : a % psz l = 0 := by
  rw [psz_split h0 h1 h2] at h
  have d := Int.emod_add_mul_ediv a (psz l * 2 ^ (l - m).toNat)
  rw [h, Int.zero_add, Int.mul_assoc] at d
  rw [← d]
  exact Int.mul_emod_right _ _
theorem mult_le {a b z : Int} (hz : 0 < z) (ha : a % z = 0) (hb : b % z = 0) (h : a < b + z) : a ≤ b := by
  have da := Int.emod_add_mul_ediv a z
  have db := Int.emod_add_mul_ediv b z
  rw [ha, Int.zero_add] at da
  rw [hb, Int.zero_add] at db
  have h2 : z * (a / z) < z * (b / z + 1) := by
    rw [Int.mul_add, da, db]
    omega
  have h3 : a / z < b / z + 1 := Int.lt_of_mul_lt_mul_left h2 (Int.le_of_lt hz)
  have h4 : z * (a / z) ≤ z * (b / z) := Int.mul_le_mul_of_nonneg_left (by omega) (Int.le_of_lt hz)
  rw [da, db] at h4
  exact h4
/-- How many of the n addresses from s on are told true. -/
def cu (B : Int → Bool) (s : Int) : Nat → Nat
  | 0 => 0
  | n + 1 => cu B s n + (if B (s + n) = true then 1 else 0)
theorem cu_le (B : Int → Bool) (s : Int) : ∀ n, cu B s n ≤ n
  | 0 => Nat.le_refl _
  | n + 1 => by
    have := cu_le B s n
    unfold cu
    split <;> omega
theorem cu_zero (B : Int → Bool) (s : Int) : ∀ n, cu B s n = 0 ↔ ∀ i : Nat, i < n → B (s + i) = false
  | 0 => ⟨fun _ i h => by omega, fun _ => rfl⟩
  | n + 1 => by
    have ih := cu_zero B s n
    unfold cu
    cases hb : B (s + n) with
    | true =>
      rw [if_pos rfl]
      exact ⟨fun h => by omega, fun h => by rw [h n (by omega)] at hb; cases hb⟩
    | false =>
      rw [if_neg (by decide), Nat.add_zero, ih]
      refine ⟨fun h i hi => ?_, fun h i hi => h i (by omega)⟩
      by_cases e : i = n
      · rw [e]; exact hb
      · exact h i (by omega)
theorem cu_full (B : Int → Bool) (s : Int) : ∀ n, cu B s n = n ↔ ∀ i : Nat, i < n → B (s + i) = true
  | 0 => ⟨fun _ i h => by omega, fun _ => rfl⟩
  | n + 1 => by
    have ih := cu_full B s n
    have le := cu_le B s n
    unfold cu
    cases hb : B (s + n) with
    | false =>
      rw [if_neg (by decide)]
      exact ⟨fun h => by omega, fun h => by rw [h n (by omega)] at hb; cases hb⟩
    | true =>
      rw [if_pos rfl]
      refine ⟨fun h i hi => ?_, fun h => by rw [ih.2 (fun i hi => h i (by omega))]⟩
      by_cases e : i = n
      · rw [e]; exact hb
      · exact ih.1 (by omega) i (by omega)
theorem cu_add (B : Int → Bool) (s : Int) (m : Nat) : ∀ n, cu B s (m + n) = cu B s m + cu B (s + m) n
  | 0 => rfl
  | n + 1 => by
    have ih := cu_add B s m n
    show cu B s (m + n) + (if B (s + ((m + n : Nat) : Int)) = true then 1 else 0) = cu B s m + (cu B (s + m) n + (if B (s + m + (n : Int)) = true then 1 else 0))
    have e : s + ((m + n : Nat) : Int) = s + m + (n : Int) := by omega
    rw [ih, e]
    omega
theorem cu_congr {B C : Int → Bool} {s : Int} : ∀ {n : Nat}, (∀ i : Nat, i < n → B (s + i) = C (s + i)) → cu B s n = cu C s n
  | 0, _ => rfl
  | n + 1, h => by
    have ih := cu_congr (n := n) (fun i hi => h i (by omega))
    unfold cu
    rw [ih, h n (by omega)]
theorem cu_or {B C : Int → Bool} {s : Int} : ∀ {n : Nat}, (∀ i : Nat, i < n → ¬ (B (s + i) = true ∧ C (s + i) = true)) → cu (fun a => B a || C a) s n = cu B s n + cu C s n
  | 0, _ => rfl
  | n + 1, h => by
    have ih := cu_or (n := n) (fun i hi => h i (by omega))
    have hn := h n (by omega)
    show cu (fun a => B a || C a) s n + (if (B (s + n) || C (s + n)) = true then 1 else 0) = (cu B s n + (if B (s + n) = true then 1 else 0)) + (cu C s n + (if C (s + n) = true then 1 else 0))
    rw [ih]
    cases hb : B (s + n) <;> cases hc : C (s + n)
    · simp
    · simp; omega
    · simp; omega
    · exact absurd ⟨hb, hc⟩ hn
theorem cu_seg (s x : Int) (hx : s ≤ x) : ∀ (n : Nat) (y : Int), x ≤ y → y ≤ s + n → (cu (fun a => decide (x ≤ a ∧ a < y)) s n : Int) = y - x
  | 0, y, h1, h2 => by
    have e : y = x := by omega
    rw [e]
    show ((0 : Nat) : Int) = x - x
    omega
  | n + 1, y, h1, h2 => by
    show ((cu (fun a => decide (x ≤ a ∧ a < y)) s n + (if decide (x ≤ s + n ∧ s + n < y) = true then 1 else 0) : Nat) : Int) = y - x
    by_cases c : y ≤ s + n
    · rw [if_neg (by simp; omega), Nat.add_zero]
      exact cu_seg s x hx n y h1 c
    · have e : cu (fun a => decide (x ≤ a ∧ a < y)) s n = cu (fun a => decide (x ≤ a ∧ a < s + n)) s n := cu_congr (fun i hi => by
        show decide _ = decide _
        rw [decide_eq_decide]
        omega)
      rw [e]
      by_cases c2 : x ≤ s + n
      · rw [if_pos (by simp; omega)]
        have ih := cu_seg s x hx n (s + n) c2 (by omega)
        rw [Int.natCast_add, ih]
        omega
      · have e2 : cu (fun a => decide (x ≤ a ∧ a < s + n)) s n = 0 := (cu_zero _ s n).2 (fun i hi => decide_eq_false (by omega))
        rw [e2, if_neg (by simp; omega)]
        omega
/-- How many addresses of a block are told true. -/
def cz (B : Int → Bool) (s l : Int) : Int := (cu B s (psz l).toNat : Nat)
theorem psz_nat (l : Int) : ((psz l).toNat : Int) = psz l := Int.toNat_of_nonneg (Int.le_of_lt (psz_pos l))
theorem cz_le (B : Int → Bool) (s l : Int) : 0 ≤ cz B s l ∧ cz B s l ≤ psz l := by
  have h := cu_le B s (psz l).toNat
  have e := psz_nat l
  unfold cz
  omega
theorem cz_zero {B : Int → Bool} {s l : Int} : cz B s l = 0 ↔ ∀ a, s ≤ a → a < s + psz l → B a = false := by
  have e := psz_nat l
  have h := cu_zero B s (psz l).toNat
  unfold cz
  refine ⟨fun h0 a h1 h2 => ?_, fun h0 => ?_⟩
  · have z := h.1 (by omega) (a - s).toNat (by omega)
    have e2 : s + ((a - s).toNat : Int) = a := by omega
    rw [e2] at z
    exact z
  · rw [h.2 (fun i hi => h0 _ (by omega) (by omega))]
    rfl
theorem cz_full {B : Int → Bool} {s l : Int} : cz B s l = psz l ↔ ∀ a, s ≤ a → a < s + psz l → B a = true := by
  have e := psz_nat l
  have h := cu_full B s (psz l).toNat
  unfold cz
  refine ⟨fun h0 a h1 h2 => ?_, fun h0 => ?_⟩
  · have z := h.1 (by omega) (a - s).toNat (by omega)
    have e2 : s + ((a - s).toNat : Int) = a := by omega
    rw [e2] at z
    exact z
  · rw [h.2 (fun i hi => h0 _ (by omega) (by omega))]
    exact e
theorem cz_half (B : Int → Bool) (s : Int) {l : Int} (h0 : 0 ≤ l) (h1 : l ≤ 15) : cz B s l = cz B s (l + 1) + cz B (s + psz (l + 1)) (l + 1) := by
  have e := psz_nat (l + 1)
  have h := psz_half h0 h1
  have e2 : (psz l).toNat = (psz (l + 1)).toNat + (psz (l + 1)).toNat := by omega
  unfold cz
  rw [e2, cu_add, e]
  omega
theorem cz_congr {B C : Int → Bool} {s l : Int} (h : ∀ a, s ≤ a → a < s + psz l → B a = C a) : cz B s l = cz C s l := by
  have e := psz_nat l
  unfold cz
  rw [cu_congr (C := C) (fun i hi => h _ (by omega) (by omega))]
theorem cz_or {B C : Int → Bool} {s l : Int} (h : ∀ a, s ≤ a → a < s + psz l → ¬ (B a = true ∧ C a = true)) : cz (fun a => B a || C a) s l = cz B s l + cz C s l := by
  have e := psz_nat l
  unfold cz
  rw [cu_or (fun i hi => h _ (by omega) (by omega))]
  omega
theorem cz_seg {s l x y : Int} (h1 : s ≤ x) (h2 : x ≤ y) (h3 : y ≤ s + psz l) : cz (fun a => decide (x ≤ a ∧ a < y)) s l = y - x := by
  have e := psz_nat l
  unfold cz
  exact cu_seg s x h1 _ y h2 (by omega)
/-- Two blocks: one in the other, or apart. -/
theorem dy_in {a m s l : Int} (p : Pok a m) (q : Pok s l) (h : m ≤ l) (h2 : s < a + psz m) : s + psz l ≤ a + psz m := by
  obtain ⟨a0, a1, a2, a3, a4⟩ := p
  obtain ⟨b0, b1, b2, b3, b4⟩ := q
  have z := psz_pos l
  have am : (a + psz m) % psz m = 0 := by rw [Int.add_emod_right]; exact a4
  have al := psz_mod a0 h b1 am
  rcases Int.lt_or_le (a + psz m) (s + psz l) with c | c
  · have := mult_le z al b4 c
    omega
  · exact c
theorem dy_apart {a m s l : Int} (p : Pok a m) (q : Pok s l) (h1 : ¬ (m ≤ l ∧ a ≤ s ∧ s < a + psz m)) (h2 : ¬ (l ≤ m ∧ s ≤ a ∧ a < s + psz l)) : a + psz m ≤ s ∨ s + psz l ≤ a := by
  obtain ⟨a0, a1, a2, a3, a4⟩ := p
  obtain ⟨b0, b1, b2, b3, b4⟩ := q
  rcases Int.le_total m l with c | c
  · have al := psz_mod a0 c b1 a4
    rcases Int.lt_or_le a (s + psz l) with d | d
    · have := mult_le (psz_pos l) al b4 d
      omega
    · exact .inr d
  · have bl := psz_mod b0 c a1 b4
    rcases Int.lt_or_le s (a + psz m) with d | d
    · have := mult_le (psz_pos m) bl a4 d
      omega
    · exact .inl d
/-- An address is a prefix's. -/
def inP (q : S28) (a : Int) : Bool := decide (q.f0 ≤ a ∧ a < q.f0 + psz q.f1)
/-- An address is some prefix's of a list. -/
def Bof (T : List S28) (a : Int) : Bool := T.any (fun q => inP q a)
theorem Bof_nil (a : Int) : Bof [] a = false := rfl
theorem Bof_snoc (T : List S28) (q : S28) (a : Int) : Bof (T ++ [q]) a = (Bof T a || inP q a) := by
  unfold Bof
  simp
theorem Bof_iff {T : List S28} {a : Int} : Bof T a = true ↔ ∃ q ∈ T, q.f0 ≤ a ∧ a < q.f0 + psz q.f1 := by
  unfold Bof inP
  rw [List.any_eq_true]
  simp only [decide_eq_true_eq]
theorem Bof_perm {S T : List S28} (h : ∀ q, q ∈ S ↔ q ∈ T) (a : Int) : Bof S a = Bof T a := by
  rw [Bool.eq_iff_iff, Bof_iff, Bof_iff]
  exact ⟨fun ⟨q, h1, h2⟩ => ⟨q, (h q).1 h1, h2⟩, fun ⟨q, h1, h2⟩ => ⟨q, (h q).2 h1, h2⟩⟩
def POk (q : S28) : Prop := Pok q.f0 q.f1
/-- p has all addresses of q. -/
def cov (p q : S28) : Prop := p.f1 ≤ q.f1 ∧ p.f0 ≤ q.f0 ∧ q.f0 < p.f0 + psz p.f1
instance (p q : S28) : Decidable (cov p q) := by unfold cov; infer_instance
theorem impl_cov {a m s l : Int} (p : Pok a m) : impl_Prefix_covers.f a m s l = some (decide (m ≤ l ∧ a ≤ s ∧ s < a + psz m)) := by
  obtain ⟨a0, a1, a2, a3, a4⟩ := p
  have z := psz_le a0 a1
  have z0 := psz_pos m
  unfold impl_Prefix_covers.f impl_Prefix_has.f
  by_cases c : m ≤ l
  · rw [if_pos c, impl_Size a a0 a1]
    simp only [Option.bind_some]
    rw [impl_In, w64 (n := a + psz m) (by omega) (by omega), w64 (n := a + psz m - 1) (by omega) (by omega)]
    simp only [Option.bind_some]
    congr 1
    rw [decide_eq_decide]
    omega
  · rw [if_neg c]
    congr 1
    exact (decide_eq_false (by omega)).symm
theorem cov_sub {p q : S28} (hp : POk p) (hq : POk q) (h : cov p q) {a : Int} (h1 : inP q a = true) : inP p a = true := by
  have z := dy_in hp hq h.1 h.2.2
  unfold inP at h1 ⊢
  have h1 := of_decide_eq_true h1
  refine decide_eq_true ?_
  unfold cov at h
  omega
/-- The order in which the program sorts. -/
def leP (p q : S28) : Prop := p.f0 < q.f0 ∨ p.f0 = q.f0 ∧ p.f1 ≤ q.f1
def apP (p q : S28) : Prop := p.f0 + psz p.f1 ≤ q.f0
/-- The tops: a prefix goes in where the last one doesn't have it. -/
def topF (T : List S28) (p : S28) : List S28 :=
  if T.length = 0 then T ++ [p] else if cov (T.getLastD z28) p then T else T ++ [p]
theorem tops_ok : ∀ (R T : List S28), (∀ q ∈ T, POk q) → (∀ q ∈ R, POk q) → T.Pairwise apP → R.Pairwise leP → (∀ T0 t, T = T0 ++ [t] → ∀ p ∈ R, leP t p) →
    (∀ q ∈ R.foldl topF T, POk q) ∧ (R.foldl topF T).Pairwise apP ∧ (∀ a, Bof (R.foldl topF T) a = (Bof T a || Bof R a)) ∧ (R.foldl topF T).length ≤ T.length + R.length := by
  intro R
  induction R with
  | nil =>
    intro T h1 h2 h3 h4 h5
    exact ⟨h1, h3, fun a => by rw [Bof_nil, Bool.or_false]; rfl, Nat.le_refl _⟩
  | cons p R ih =>
    intro T h1 h2 h3 h4 h5
    have hp := h2 p (by simp)
    have h4' := List.pairwise_cons.1 h4
    have hB : ∀ (T : List S28) (a : Int), (Bof T a || Bof (p :: R) a) = (Bof (T ++ [p]) a || Bof R a) := fun T a => by
      rw [Bof_snoc, Bool.or_assoc]
      rfl
    have snoc : T.Pairwise apP → (∀ q ∈ T, apP q p) → (∀ q ∈ R.foldl topF (T ++ [p]), POk q) ∧ (R.foldl topF (T ++ [p])).Pairwise apP ∧ (∀ a, Bof (R.foldl topF (T ++ [p])) a = (Bof T a || Bof (p :: R) a)) ∧ (R.foldl topF (T ++ [p])).length ≤ T.length + (p :: R).length := fun g1 g2 => by
      obtain ⟨k1, k2, k3, k4⟩ := ih (T ++ [p]) (fun q hq => by
        rcases List.mem_append.1 hq with h | h
        · exact h1 q h
        · rw [List.mem_singleton.1 h]; exact hp) (fun q hq => h2 q (by simp [hq])) (List.pairwise_append.2 ⟨g1, List.pairwise_singleton _ _, fun a ha b hb => by rw [List.mem_singleton.1 hb]; exact g2 a ha⟩) h4'.2 (fun T0 t e q hq => by
        have e2 := (List.append_inj' e rfl).2
        injection e2 with e2
        rw [← e2]
        exact h4'.1 q hq)
      refine ⟨k1, k2, fun a => by rw [k3, hB], ?_⟩
      rw [List.length_append, List.length_singleton] at k4
      rw [List.length_cons]
      omega
    rw [List.foldl_cons]
    rcases List.eq_nil_or_concat T with rfl | ⟨T0, t, rfl⟩
    · have e : topF [] p = [] ++ [p] := rfl
      rw [e]
      exact snoc h3 (fun q hq => by cases hq)
    · have ht := h1 t (by simp)
      have e : topF (T0 ++ [t]) p = if cov t p then T0 ++ [t] else T0 ++ [t] ++ [p] := by
        unfold topF
        rw [if_neg (by simp)]
        simp
      rw [List.concat_eq_append] at *
      rw [e]
      by_cases c : cov t p
      · rw [if_pos c]
        obtain ⟨k1, k2, k3, k4⟩ := ih (T0 ++ [t]) h1 (fun q hq => h2 q (by simp [hq])) h3 h4'.2 (fun T1 t1 e1 q hq => h5 T1 t1 e1 q (by simp [hq]))
        refine ⟨k1, k2, fun a => ?_, by rw [List.length_cons]; omega⟩
        rw [k3, hB, Bof_snoc (T0 ++ [t]) p a]
        cases hi : inP p a with
        | false => rw [Bool.or_false]
        | true =>
          have : Bof (T0 ++ [t]) a = true := by rw [Bof_snoc, cov_sub ht hp c hi, Bool.or_true]
          rw [this]; rfl
      · rw [if_neg c]
        have le := h5 T0 t rfl p (by simp)
        have ap : apP t p := by
          unfold leP at le
          unfold apP
          have d := dy_apart ht hp (fun h => c ⟨h.1, h.2.1, h.2.2⟩)
          obtain ⟨a0, a1, a2, a3, a4⟩ := ht
          obtain ⟨b0, b1, b2, b3, b4⟩ := hp
          have z := psz_pos p.f1
          rcases d (fun h => by
            rcases le with h6 | h6
            · omega
            · exact c ⟨h6.2, by omega, by have := psz_pos t.f1; omega⟩) with h | h
          · exact h
          · omega
        refine snoc h3 (fun q hq => ?_)
        rcases List.mem_append.1 hq with h | h
        · have q1 := (List.pairwise_append.1 h3).2.2 q h t (by simp)
          unfold apP at q1 ap ⊢
          have z := psz_pos t.f1
          omega
        · rw [List.mem_singleton.1 h]; exact ap
theorem wn1 {i : Nat} (h : i < 9223372036854775807) : wrap64 ((i : Int) + 1) = ((i + 1 : Nat) : Int) := by rw [w64 (by omega) (by omega)]; omega
/-- The program's count of a block. -/
theorem count_loop {T : List S28} (hT : ∀ q ∈ T, POk q) (hA : T.Pairwise apP) (hl : T.length ≤ 1000) {s l : Int} (p : Pok s l) : ∀ (d i k : Nat), i + d = T.length → d < k → (∀ j : Nat, (h : j < T.length) → j < i → ¬ cov T[j] ⟨s, l⟩) →
    impl_Aggregate_2.l0 k (cz (Bof (T.take i)) s l) T T.length i s l = some (cz (Bof T) s l) := by
  intro d
  have p' := p
  obtain ⟨b0, b1, b2, b3, b4⟩ := p'
  have zl := psz_le b0 b1
  induction d with
  | zero =>
    intro i k hi hk hn
    obtain ⟨k, rfl⟩ : ∃ m, k = m + 1 := ⟨k - 1, by omega⟩
    obtain rfl : i = T.length := by omega
    simp only [impl_Aggregate_2.l0]
    rw [if_neg (by omega), List.take_length]
  | succ d ih =>
    intro i k hi hk hn
    obtain ⟨k, rfl⟩ : ∃ m, k = m + 1 := ⟨k - 1, by omega⟩
    have hil : i < T.length := by omega
    have er : rd_T28 T (i : Int) = T[i] := by
      unfold rd_T28
      rw [Int.toNat_natCast, List.getD_eq_getElem?_getD, List.getElem?_eq_getElem hil]
      rfl
    have hq : POk T[i] := hT _ (List.getElem_mem hil)
    have hq' := hq
    obtain ⟨a0, a1, a2, a3, a4⟩ := hq'
    have zq := psz_le a0 a1
    have zc := cz_le (Bof (T.take i)) s l
    have et : T.take (i + 1) = T.take i ++ [T[i]] := List.take_succ_eq_append_getElem hil
    have eB : ∀ a, Bof (T.take (i + 1)) a = (Bof (T.take i) a || inP T[i] a) := fun a => by rw [et, Bof_snoc]
    have w4 := Aside0.mk (wn1 (i := i) (by omega))
    simp only [impl_Aggregate_2.l0]
    rw [if_pos (by omega), if_pos (by omega), if_pos (by omega), er, impl_cov hq, impl_cov p]
    simp only [Option.bind_some]
    by_cases c1 : cov T[i] ⟨s, l⟩
    · have c1' := c1
      unfold cov at c1'
      rw [decide_eq_true c1', if_pos rfl, impl_Size s b0 b1]
      simp only [Option.bind_some]
      congr 1
      refine (cz_full.2 (fun a h1 h2 => Bof_iff.2 ⟨T[i], List.getElem_mem hil, ?_⟩)).symm
      have z := dy_in hq p c1'.1 c1'.2.2
      dsimp only at c1'
      omega
    · have c1' := c1
      unfold cov at c1'
      dsimp only at c1'
      rw [decide_eq_false c1', if_neg (by decide), w4.out]
      have hn' : ∀ j : Nat, (h : j < T.length) → j < i + 1 → ¬ cov T[j] ⟨s, l⟩ := fun j h hj => by
        by_cases e : j = i
        · subst e; exact c1
        · exact hn j h (by omega)
      have nx := ih (i + 1) k (by omega) (by omega) hn'
      by_cases c2 : l ≤ T[i].f1 ∧ s ≤ T[i].f0 ∧ T[i].f0 < s + psz l
      · rw [decide_eq_true c2, if_pos rfl, impl_Size _ a0 a1]
        simp only [Option.bind_some]
        have zi := dy_in p hq c2.1 c2.2.2
        have e2 : cz (Bof (T.take (i + 1))) s l = cz (Bof (T.take i)) s l + psz T[i].f1 := by
          have e3 : cz (Bof (T.take (i + 1))) s l = cz (fun a => Bof (T.take i) a || inP T[i] a) s l := cz_congr (fun a _ _ => eB a)
          rw [e3, cz_or (fun a h1 h2 h3 => ?_)]
          · have e4 : cz (inP T[i]) s l = T[i].f0 + psz T[i].f1 - T[i].f0 := cz_seg c2.2.1 (by have := psz_pos T[i].f1; omega) zi
            rw [e4]
            omega
          · obtain ⟨q, hq1, hq2⟩ := Bof_iff.1 h3.1
            have h4 := of_decide_eq_true h3.2
            obtain ⟨j, hj, rfl⟩ := List.mem_iff_getElem.1 hq1
            rw [List.length_take] at hj
            rw [List.getElem_take] at hq2
            have ap := List.pairwise_iff_getElem.1 hA j i (by omega) hil (by omega)
            unfold apP at ap
            omega
        have zc2 := cz_le (Bof (T.take (i + 1))) s l
        rw [w64 (n := cz (Bof (T.take i)) s l + psz T[i].f1) (by omega) (by omega), ← e2]
        exact nx
      · rw [decide_eq_false c2, if_neg (by decide)]
        have ap := dy_apart hq p c1' c2
        have e2 : cz (Bof (T.take (i + 1))) s l = cz (Bof (T.take i)) s l := cz_congr (fun a h1 h2 => by
          rw [eB]
          have : inP T[i] a = false := decide_eq_false (by omega)
          rw [this, Bool.or_false])
        rw [← e2]
        exact nx
theorem count_ok {T : List S28} (hT : ∀ q ∈ T, POk q) (hA : T.Pairwise apP) (hl : T.length ≤ 1000) {s l : Int} (p : Pok s l) {k : Nat} (hk : T.length < k) : impl_Aggregate_2.f k s l [T] = some (cz (Bof T) s l) := by
  unfold impl_Aggregate_2.f
  rw [if_pos (by simp)]
  have z := count_loop hT hA hl p T.length 0 k (by omega) hk (fun j _ h => by omega)
  have e : cz (Bof (T.take 0)) s l = 0 := cz_zero.2 (fun a _ _ => rfl)
  rw [e] at z
  exact z
/-- The greatest blocks within a block that are told true as a whole. -/
def blk (B : Int → Bool) : Nat → Int → Int → List S28
  | 0, s, l => if cz B s l = 0 then [] else [⟨s, l⟩]
  | d + 1, s, l => if cz B s l = 0 then [] else if cz B s l = psz l then [⟨s, l⟩] else blk B d s (l + 1) ++ blk B d (s + psz (l + 1)) (l + 1)
theorem blk_len (B : Int → Bool) : ∀ (d : Nat) (s l : Int), l + d = 16 → 0 ≤ l → ((blk B d s l).length : Int) ≤ psz l := by
  intro d
  induction d with
  | zero =>
    intro s l h h0
    have z := psz_pos l
    unfold blk
    split
    · simp; omega
    · simp; omega
  | succ d ih =>
    intro s l h h0
    have z := psz_pos l
    have z2 := psz_half h0 (show l ≤ 15 by omega)
    have i1 := ih s (l + 1) (by omega) (by omega)
    have i2 := ih (s + psz (l + 1)) (l + 1) (by omega) (by omega)
    unfold blk
    split
    · simp; omega
    · split
      · simp; omega
      · rw [List.length_append]; omega
theorem Pok.left {s l : Int} (p : Pok s l) (h : l ≤ 15) : Pok s (l + 1) := by
  obtain ⟨b0, b1, b2, b3, b4⟩ := p
  exact ⟨by omega, by omega, b2, b3, psz_mod b0 (show l ≤ l + 1 by omega) (by omega) b4⟩
theorem Pok.right {s l : Int} (p : Pok s l) (h : l ≤ 15) : Pok (s + psz (l + 1)) (l + 1) := by
  have tp := p.top
  have p1 := p.left h
  obtain ⟨b0, b1, b2, b3, b4⟩ := p
  have hz := psz_half b0 h
  have zp := psz_pos (l + 1)
  exact ⟨by omega, by omega, by omega, by omega, by rw [Int.add_emod_right]; exact p1.2.2.2.2⟩
theorem halves_ok {s l : Int} (p : Pok s l) (h : l ≤ 15) : impl_Prefix_halves.f s l = some (s, l + 1, s + psz (l + 1), l + 1) := by
  have tp := p.top
  obtain ⟨b0, b1, b2, b3, b4⟩ := p
  have hz := psz_half b0 h
  have zp := psz_pos (l + 1)
  have td : Int.tdiv (psz l) 2 = psz (l + 1) := by rw [Int.tdiv_eq_ediv_of_nonneg (by omega)]; omega
  unfold impl_Prefix_halves.f
  rw [impl_Size s b0 b1]
  simp only [Option.bind_some]
  rw [td, w64 (n := l + 1) (by omega) (by omega), w64 (n := psz (l + 1)) (by omega) (by omega), w64 (n := s + psz (l + 1)) (by omega) (by omega)]
theorem short_ok {T : List S28} (hT : ∀ q ∈ T, POk q) (hA : T.Pairwise apP) (hl : T.length ≤ 1000) : ∀ (d : Nat) (s l : Int) (acc : List S28) (k : Nat), l + d = 16 → Pok s l → (acc.length : Int) + psz l ≤ 1000000 → d + T.length + 1 < k →
    impl_shortest.f k s l [T] acc = some (acc ++ blk (Bof T) d s l) := by
  intro d
  induction d with
  | zero =>
    intro s l acc k h p ha hk
    obtain ⟨k, rfl⟩ : ∃ m, k = m + 1 := ⟨k - 1, by omega⟩
    have p' := p
    obtain ⟨b0, b1, b2, b3, b4⟩ := p'
    have e1 : psz l = 1 := by
      have : l = 16 := by omega
      rw [this]; decide
    have zc := cz_le (Bof T) s l
    simp only [impl_shortest.f]
    rw [count_ok hT hA hl p (by omega)]
    simp only [Option.bind_some]
    unfold blk
    by_cases c : cz (Bof T) s l = 0
    · rw [if_pos c, if_pos c, List.append_nil]
    · rw [if_neg c, if_neg c, impl_Size s b0 b1]
      simp only [Option.bind_some]
      rw [if_pos (by omega), if_pos (by omega)]
  | succ d ih =>
    intro s l acc k h p ha hk
    obtain ⟨k, rfl⟩ : ∃ m, k = m + 1 := ⟨k - 1, by omega⟩
    have p' := p
    obtain ⟨b0, b1, b2, b3, b4⟩ := p'
    have zp := psz_pos l
    simp only [impl_shortest.f]
    rw [count_ok hT hA hl p (by omega)]
    simp only [Option.bind_some]
    unfold blk
    by_cases c : cz (Bof T) s l = 0
    · rw [if_pos c, if_pos c, List.append_nil]
    · rw [if_neg c, if_neg c, impl_Size s b0 b1]
      simp only [Option.bind_some]
      by_cases c2 : cz (Bof T) s l = psz l
      · rw [if_pos c2, if_pos c2, if_pos (by omega)]
      · have z2 := psz_half b0 (show l ≤ 15 by omega)
        have i1 := ih s (l + 1) acc k (by omega) (p.left (by omega)) (by omega) (by omega)
        have l1 := blk_len (Bof T) d s (l + 1) (by omega) (by omega)
        have i2 := ih (s + psz (l + 1)) (l + 1) (acc ++ blk (Bof T) d s (l + 1)) k (by omega) (p.right (by omega)) (by rw [List.length_append]; omega) (by omega)
        rw [if_neg c2, if_neg c2, halves_ok p (by omega)]
        simp only [Option.bind_some]
        rw [i1]
        simp only [Option.bind_some]
        rw [i2]
        simp only [Option.bind_some]
        rw [List.append_assoc]
theorem rdP_at {T : List S28} {i : Nat} (h : i < T.length) : rd_T28 T (i : Int) = T[i] := by
  unfold rd_T28
  rw [Int.toNat_natCast, List.getD_eq_getElem?_getD, List.getElem?_eq_getElem h]
  rfl
theorem last_ok {T : List S28} (h : T.length ≠ 0) (hl : T.length ≤ 1000) : rd_T28 T (wrap64 ((T.length : Int) - 1)) = T.getLastD z28 ∧ T.getLastD z28 ∈ T := by
  have w : wrap64 ((T.length : Int) - 1) = ((T.length - 1 : Nat) : Int) := by rw [w64 (by omega) (by omega)]; omega
  rcases List.eq_nil_or_concat T with rfl | ⟨T0, t, rfl⟩
  · exact absurd rfl h
  · rw [List.concat_eq_append] at *
    rw [w, rdP_at (by simp)]
    simp
theorem index_ok {l : List S28} (hl : l.length ≤ 1000) : ∀ (d i k : Nat), i + d = l.length → d < k →
    ∃ v, slices_IndexFunc_impl_Prefix_impl_Prefix.l0 k l l.length i = some v ∧ (v ≥ 0 ↔ ¬ ∀ j : Nat, (h : j < l.length) → i ≤ j → POk l[j]) := by
  intro d
  induction d with
  | zero =>
    intro i k hi hk
    obtain ⟨k, rfl⟩ : ∃ m, k = m + 1 := ⟨k - 1, by omega⟩
    simp only [slices_IndexFunc_impl_Prefix_impl_Prefix.l0]
    rw [if_neg (by omega)]
    exact ⟨-1, rfl, ⟨fun h => by omega, fun h => absurd (fun j hj hij => by omega) h⟩⟩
  | succ d ih =>
    intro i k hi hk
    obtain ⟨k, rfl⟩ : ∃ m, k = m + 1 := ⟨k - 1, by omega⟩
    have hil : i < l.length := by omega
    simp only [slices_IndexFunc_impl_Prefix_impl_Prefix.l0]
    rw [if_pos (by omega), if_pos (by omega), if_pos (by omega), rdP_at hil]
    unfold impl_Aggregate_1.f
    rw [impl_Pok]
    simp only [Option.bind_some]
    by_cases c : Pok l[i].f0 l[i].f1
    · rw [decide_eq_true c, if_neg (by decide), wn1 (by omega)]
      obtain ⟨v, h1, h2⟩ := ih (i + 1) k (by omega) (by omega)
      refine ⟨v, h1, h2.trans (not_congr ⟨fun h j hj hij => ?_, fun h j hj hij => h j hj (by omega)⟩)⟩
      by_cases e : j = i
      · subst e; exact c
      · exact h j hj (by omega)
    · rw [decide_eq_false c, if_pos (by decide)]
      exact ⟨i, rfl, ⟨fun _ h => c (h i hil (Nat.le_refl _)), fun _ => by omega⟩⟩
theorem contains_ok {l : List S28} (hl : l.length ≤ 1000) {k : Nat} (hk : l.length < k) : ∃ b, slices_ContainsFunc_impl_Prefix_impl_Prefix.f k l = some b ∧ (b = false ↔ ∀ q ∈ l, POk q) := by
  obtain ⟨v, h1, h2⟩ := index_ok hl l.length 0 k (by omega) hk
  have e0 : ((0 : Nat) : Int) = 0 := rfl
  rw [e0] at h1
  refine ⟨decide (v ≥ 0), ?_, ?_⟩
  · unfold slices_ContainsFunc_impl_Prefix_impl_Prefix.f slices_IndexFunc_impl_Prefix_impl_Prefix.f
    rw [h1]
    rfl
  · rw [decide_eq_false_iff_not, h2]
    rw [Classical.not_not]
    refine ⟨fun h q hq => ?_, fun h j hj _ => h _ (List.getElem_mem hj)⟩
    obtain ⟨j, hj, rfl⟩ := List.mem_iff_getElem.1 hq
    exact h j hj (Nat.zero_le _)
theorem sort_ok {l : List S28} (hl : l.length ≤ 1000) (hp : ∀ q ∈ l, POk q) : ∃ M, slices_SortFunc_impl_Prefix_impl_Prefix.f l = some M ∧ (∀ q, q ∈ M ↔ q ∈ l) ∧ M.length = l.length ∧ M.Pairwise leP := by
  have hi : l.all sf_in = true := List.all_eq_true.2 (fun q hq => by
    obtain ⟨b0, b1, b2, b3, b4⟩ := hp q hq
    exact decide_eq_true ⟨b2, b3, b0, b1⟩)
  refine ⟨l.mergeSort fun x y => !sf_lt y x, ?_, fun q => (List.mergeSort_perm l _).mem_iff, List.length_mergeSort l, ?_⟩
  · unfold slices_SortFunc_impl_Prefix_impl_Prefix.f
    rw [if_pos ⟨hi, by omega⟩]
  · refine (List.pairwise_mergeSort (le := fun x y => !sf_lt y x) ?_ ?_ l).imp ?_
    · intro a b c h1 h2
      unfold sf_lt at *
      simp only [Bool.not_eq_true', decide_eq_false_iff_not] at *
      omega
    · intro a b
      unfold sf_lt
      rw [Bool.or_eq_true]
      simp only [Bool.not_eq_true', decide_eq_false_iff_not]
      omega
    · intro a b h
      unfold sf_lt at h
      simp only [Bool.not_eq_true', decide_eq_false_iff_not] at h
      unfold leP
      omega
theorem tops_loop {M : List S28} (hM : M.length ≤ 1000) {R : List S28} {C : Nat} : ∀ (d i k : Nat) (T : List S28), i + d = M.length → d + C < k → T.length ≤ i → (∀ q ∈ T, POk q) → (∀ q ∈ M, POk q) → (∀ k', C ≤ k' → impl_shortest.f k' 0 0 [(M.drop i).foldl topF T] [] = some R) →
    impl_Aggregate.l0 k M M.length i T = some (R, true) := by
  intro d
  induction d with
  | zero =>
    intro i k T hi hk hT h1 h2 hR
    obtain ⟨k, rfl⟩ : ∃ m, k = m + 1 := ⟨k - 1, by omega⟩
    simp only [impl_Aggregate.l0]
    have z := hR k (by omega)
    rw [List.drop_of_length_le (by omega)] at z
    rw [if_neg (by omega)]
    rw [List.foldl_nil] at z
    rw [z]
    rfl
  | succ d ih =>
    intro i k T hi hk hT h1 h2 hR
    obtain ⟨k, rfl⟩ : ∃ m, k = m + 1 := ⟨k - 1, by omega⟩
    have hil : i < M.length := by omega
    rw [List.drop_eq_getElem_cons hil, List.foldl_cons] at hR
    have hq := h2 _ (List.getElem_mem hil)
    have hs : ∀ q ∈ T ++ [M[i]], POk q := fun q hq2 => by
      rcases List.mem_append.1 hq2 with h | h
      · exact h1 q h
      · rw [List.mem_singleton.1 h]; exact hq
    simp only [impl_Aggregate.l0]
    rw [if_pos (by omega), if_pos (by omega), if_pos (by omega), rdP_at hil, wn1 (by omega)]
    by_cases c : T.length = 0
    · have e : topF T M[i] = T ++ [M[i]] := by unfold topF; rw [if_pos c]
      rw [e] at hR
      rw [if_pos (by omega), if_pos (by omega)]
      exact ih (i + 1) k (T ++ [M[i]]) (by omega) (by omega) (by rw [List.length_append, List.length_singleton]; omega) hs h2 hR
    · obtain ⟨e1, e2⟩ := last_ok c (by omega)
      have w : wrap64 ((T.length : Int) - 1) = (T.length : Int) - 1 := w64 (by omega) (by omega)
      have f1 : (0 : Int) ≤ wrap64 ((T.length : Int) - 1) := by rw [w]; clear w; omega
      have f2 : wrap64 ((T.length : Int) - 1) < (T.length : Int) := by rw [w]; clear w; omega
      clear w
      have e : topF T M[i] = if cov (T.getLastD z28) M[i] then T else T ++ [M[i]] := by unfold topF; rw [if_neg c]
      rw [if_neg (by clear f1 f2; omega), if_pos f1, if_pos f2, e1, impl_cov (h1 _ e2)]
      clear f1 f2
      simp only [Option.bind_some]
      by_cases c2 : cov (T.getLastD z28) M[i]
      · rw [e, if_pos c2] at hR
        have c2' := c2
        unfold cov at c2'
        rw [decide_eq_true c2', if_pos rfl]
        exact ih (i + 1) k T (by omega) (by omega) (by omega) h1 h2 hR
      · rw [e, if_neg c2] at hR
        have c2' := c2
        unfold cov at c2'
        rw [decide_eq_false c2', if_neg (by decide), if_pos (by omega)]
        exact ih (i + 1) k (T ++ [M[i]]) (by omega) (by omega) (by rw [List.length_append, List.length_singleton]; omega) hs h2 hR
theorem impl_agg {l : List S28} (hl : l.length ≤ 300) (hp : ∀ q ∈ l, POk q) {k : Nat} (hk : 1000 < k) : impl_Aggregate.f k l = some (blk (Bof l) 16 0 0, true) := by
  obtain ⟨b, g1, g2⟩ := contains_ok (l := l) (by omega) (k := k) (by omega)
  obtain ⟨M, m1, m2, m3, m4⟩ := sort_ok (l := l) (by omega) hp
  have hMp : ∀ q ∈ M, POk q := fun q hq => hp q ((m2 q).1 hq)
  obtain ⟨t1, t2, t3, t4⟩ := tops_ok M [] (fun q hq => by cases hq) hMp List.Pairwise.nil m4 (fun T0 t e => by simp at e)
  rw [List.length_nil] at t4
  have eB : Bof (M.foldl topF []) = Bof l := funext (fun a => by rw [t3, Bof_nil, Bool.false_or]; exact Bof_perm m2 a)
  have e16 : psz 0 = 65536 := by decide
  have hR : ∀ k', 400 ≤ k' → impl_shortest.f k' 0 0 [(M.drop 0).foldl topF []] [] = some (blk (Bof l) 16 0 0) := fun k' hk' => by
    have z := short_ok t1 t2 (by omega) 16 0 0 [] k' (by omega) ⟨by omega, by omega, by omega, by omega, by rw [e16]; rfl⟩ (by rw [e16, List.length_nil]; omega) (by omega)
    rw [eB, List.nil_append] at z
    rw [List.drop_zero]
    exact z
  obtain ⟨k, rfl⟩ : ∃ m, k = m + 1 := ⟨k - 1, by omega⟩
  have z := tops_loop (M := M) (by omega) (C := 400) M.length 0 k [] (by omega) (by omega) (Nat.le_refl _) (fun q hq => by cases hq) hMp hR
  have hcl : slices_Clone_impl_Prefix_impl_Prefix.f l = some l := by
    unfold slices_Clone_impl_Prefix_impl_Prefix.f
    rw [if_pos (by omega)]
  unfold impl_Aggregate.f
  rw [if_neg (by omega), g1]
  simp only [Option.bind_some, impl_Aggregate.j0]
  rw [g2.2 hp, if_neg (by decide), hcl]
  simp only [Option.bind_some]
  rw [m1]
  simp only [Option.bind_some]
  rw [← m3]
  exact z
theorem impl_agg_no {l : List S28} (h : ¬ (l.length ≤ 300 ∧ ∀ q ∈ l, POk q)) {k : Nat} (hk : 1000 < k) : impl_Aggregate.f k l = some ([], false) := by
  obtain ⟨k, rfl⟩ : ∃ m, k = m + 1 := ⟨k - 1, by omega⟩
  unfold impl_Aggregate.f
  by_cases c : l.length ≤ 300
  · obtain ⟨b, g1, g2⟩ := contains_ok (l := l) (by omega) (k := k + 1) (by omega)
    rw [if_neg (by omega), g1]
    simp only [Option.bind_some, impl_Aggregate.j0]
    cases b with
    | false => exact absurd ⟨c, g2.1 rfl⟩ h
    | true => rw [if_pos rfl]
  · rw [if_pos (by omega)]
    simp only [impl_Aggregate.j0]
    rw [if_pos trivial]
theorem rdb_set {o : List Bool} {i j : Int} (v : Bool) (h0 : 0 ≤ i) (h1 : i < o.length) (hj : 0 ≤ j) : rdOf false (o.set i.toNat v) j = if i = j then v else rdOf false o j := by
  unfold rdOf
  rw [List.getD_eq_getElem?_getD, List.getD_eq_getElem?_getD, List.getElem?_set]
  by_cases c : i = j
  · subst c
    rw [if_pos rfl, if_pos rfl, if_pos (by omega)]
    rfl
  · rw [if_neg (by omega), if_neg c]
theorem rdb_rep (n : Nat) (a : Int) : rdOf false (List.replicate n false) a = false := by
  unfold rdOf
  rw [List.getD_eq_getElem?_getD, List.getElem?_replicate]
  split <;> rfl
/-- The marks are right for a list of prefixes. -/
def Mk (M : List Bool) (B : Int → Bool) : Prop := M.length = 65536 ∧ ∀ a, 0 ≤ a → a < 65536 → rdOf false M a = B a
theorem mark_in {l : List S28} (hl : l.length ≤ 1000) {i : Nat} (hi : i < l.length) (hp : POk l[i]) (B : Int → Bool) : ∀ (d : Nat) (x : Int) (M : List Bool), x + d = psz l[i].f1 → 0 ≤ x → Mk M (fun a => B a || decide (l[i].f0 ≤ a ∧ a < l[i].f0 + x)) →
    ∃ M', Mk M' (fun a => B a || inP l[i] a) ∧ ∀ k, spec_l01Marks.l1 (k + d + 1) l M i x = spec_l01Marks.l0 k l M' ((i + 1 : Nat) : Int) := by
  have tp := hp.top
  obtain ⟨b0, b1, b2, b3, b4⟩ := hp
  have zl := psz_le b0 b1
  intro d
  induction d with
  | zero =>
    intro x M hx h0 hM
    refine ⟨M, ⟨hM.1, fun a a0 a1 => ?_⟩, fun k => ?_⟩
    · rw [hM.2 a a0 a1]
      have e : x = psz l[i].f1 := by omega
      rw [e]
      rfl
    · simp only [spec_l01Marks.l1]
      rw [if_pos (by omega), if_pos (by omega), rdP_at hi, spec_Size b0 b1]
      simp only [Option.bind_some]
      rw [if_neg (by omega), wn1 (by omega)]
  | succ d ih =>
    intro x M hx h0 hM
    obtain ⟨m1, m2⟩ := hM
    obtain ⟨M', g1, g2⟩ := ih (x + 1) (M.set (l[i].f0 + x).toNat true) (by omega) (by omega) ⟨by rw [List.length_set]; exact m1, fun a a0 a1 => by
      rw [rdb_set true (by omega) (by rw [m1]; omega) a0, m2 a a0 a1]
      show (if l[i].f0 + x = a then true else (B a || decide (l[i].f0 ≤ a ∧ a < l[i].f0 + x))) = (B a || decide (l[i].f0 ≤ a ∧ a < l[i].f0 + (x + 1)))
      by_cases c : l[i].f0 + x = a
      · have e : decide (l[i].f0 ≤ a ∧ a < l[i].f0 + (x + 1)) = true := decide_eq_true (by omega)
        rw [if_pos c, e, Bool.or_true]
      · rw [if_neg c]
        congr 1
        rw [decide_eq_decide]
        omega⟩
    refine ⟨M', g1, fun k => ?_⟩
    obtain ⟨K, hK⟩ : ∃ K, K = k + d + 1 := ⟨_, rfl⟩
    have ek : k + (d + 1) + 1 = K + 1 := by omega
    rw [ek]
    simp only [spec_l01Marks.l1]
    rw [if_pos (by omega), if_pos (by omega), rdP_at hi, spec_Size b0 b1]
    simp only [Option.bind_some]
    rw [if_pos (by omega), w64 (n := l[i].f0 + x) (by omega) (by omega), if_pos (by omega), if_pos (by rw [m1]; omega), w64 (n := x + 1) (by omega) (by omega), hK]
    exact g2 k
theorem Bof_take {l : List S28} {i : Nat} (hi : i < l.length) (a : Int) : Bof (l.take (i + 1)) a = (Bof (l.take i) a || inP l[i] a) := by
  rw [List.take_succ_eq_append_getElem hi, Bof_snoc]
theorem marks_loop {l : List S28} (hl : l.length ≤ 1000) {C : Nat} (hC : 65538 ≤ C) : ∀ (d i : Nat) (M : List Bool), i + d = l.length → (∀ j : Nat, (h : j < l.length) → j < i → POk l[j]) → Mk M (Bof (l.take i)) →
    ((∀ q ∈ l, POk q) → ∃ M', Mk M' (Bof l) ∧ ∀ k, d * C < k → spec_l01Marks.l0 k l M i = some (M', true)) ∧ ((¬ ∀ q ∈ l, POk q) → ∀ k, d * C < k → spec_l01Marks.l0 k l M i = some ([], false)) := by
  intro d
  induction d with
  | zero =>
    intro i M hi hp hM
    have hall : ∀ q ∈ l, POk q := fun q hq => by
      obtain ⟨j, hj, rfl⟩ := List.mem_iff_getElem.1 hq
      exact hp j hj (by omega)
    refine ⟨fun _ => ⟨M, ?_, fun k hk => ?_⟩, fun h => absurd hall h⟩
    · rw [List.take_of_length_le (by omega)] at hM
      exact hM
    · obtain ⟨k, rfl⟩ : ∃ m, k = m + 1 := ⟨k - 1, by omega⟩
      simp only [spec_l01Marks.l0]
      rw [if_neg (by omega)]
  | succ d ih =>
    intro i M hi hp hM
    have hil : i < l.length := by omega
    have eC : (d + 1) * C = d * C + C := Nat.succ_mul _ _
    by_cases c : Pok l[i].f0 l[i].f1
    · have zl := psz_le c.1 c.2.1
      have zp := psz_pos l[i].f1
      obtain ⟨n, hn⟩ : ∃ n, n = (psz l[i].f1).toNat := ⟨_, rfl⟩
      obtain ⟨M1, g1, g2⟩ := mark_in hl hil c (Bof (l.take i)) n 0 M (by omega) (by omega) ⟨hM.1, fun a a0 a1 => by
        have e : decide (l[i].f0 ≤ a ∧ a < l[i].f0 + 0) = false := decide_eq_false (by omega)
        rw [hM.2 a a0 a1]
        show Bof (l.take i) a = (Bof (l.take i) a || decide (l[i].f0 ≤ a ∧ a < l[i].f0 + 0))
        rw [e, Bool.or_false]⟩
      have hB : (fun a => Bof (l.take i) a || inP l[i] a) = Bof (l.take (i + 1)) := funext (fun a => (Bof_take hil a).symm)
      rw [hB] at g1
      have nx := ih (i + 1) M1 (by omega) (fun j hj hji => by
        by_cases e : j = i
        · subst e; exact c
        · exact hp j hj (by omega)) g1
      have step : ∀ k, (d + 1) * C < k → ∃ k', d * C < k' ∧ spec_l01Marks.l0 k l M i = spec_l01Marks.l0 k' l M1 ((i + 1 : Nat) : Int) := fun k hk => by
        refine ⟨k - (n + 1) - 1, by omega, ?_⟩
        obtain ⟨m, rfl⟩ : ∃ m, k = (m + n + 1) + 1 := ⟨k - n - 2, by omega⟩
        have ek : m + n + 1 + 1 - (n + 1) - 1 = m := by omega
        rw [ek, ← g2 m]
        simp only [spec_l01Marks.l0]
        rw [if_pos (by omega), if_pos (by omega), rdP_at hil, spec_Pok]
        simp only [Option.bind_some]
        rw [decide_eq_true c, if_pos rfl]
      refine ⟨fun h => ?_, fun h k hk => ?_⟩
      · obtain ⟨M', n1, n2⟩ := nx.1 h
        refine ⟨M', n1, fun k hk => ?_⟩
        obtain ⟨k', h1, h2⟩ := step k hk
        rw [h2, n2 k' h1]
      · obtain ⟨k', h1, h2⟩ := step k hk
        rw [h2, nx.2 h k' h1]
    · refine ⟨fun h => absurd (h _ (List.getElem_mem hil)) c, fun _ k hk => ?_⟩
      obtain ⟨k, rfl⟩ : ∃ m, k = m + 1 := ⟨k - 1, by omega⟩
      simp only [spec_l01Marks.l0]
      rw [if_pos (by omega), if_pos (by omega), rdP_at hil, spec_Pok]
      simp only [Option.bind_some]
      rw [decide_eq_false c, if_neg (by decide)]
theorem marks_ok {l : List S28} (hl : l.length ≤ 300) (hp : ∀ q ∈ l, POk q) : ∃ M, Mk M (Bof l) ∧ ∀ k, 20000000 < k → spec_l01Marks.f k l = some (M, true) := by
  obtain ⟨n, hn⟩ : ∃ n, n = 65536 := ⟨_, rfl⟩
  obtain ⟨M, h1, h2⟩ := (marks_loop (l := l) (by omega) (C := 65540) (by omega) l.length 0 (List.replicate n false) (by omega) (fun j _ h => by omega) ⟨by rw [List.length_replicate, hn], fun a _ _ => by rw [rdb_rep]; rfl⟩).1 hp
  refine ⟨M, h1, fun k hk => ?_⟩
  unfold spec_l01Marks.f
  rw [if_neg (by omega), ← hn, if_pos (by omega)]
  exact h2 k (by omega)
theorem marks_no {l : List S28} (h : ¬ (l.length ≤ 300 ∧ ∀ q ∈ l, POk q)) {k : Nat} (hk : 20000000 < k) : spec_l01Marks.f k l = some ([], false) := by
  obtain ⟨n, hn⟩ : ∃ n, n = 65536 := ⟨_, rfl⟩
  unfold spec_l01Marks.f
  by_cases c : l.length ≤ 300
  · have z := (marks_loop (l := l) (by omega) (C := 65540) (by omega) l.length 0 (List.replicate n false) (by omega) (fun j _ h => by omega) ⟨by rw [List.length_replicate, hn], fun a _ _ => by rw [rdb_rep]; rfl⟩).2 (fun hp => h ⟨c, hp⟩) k (by omega)
    rw [if_neg (by omega), ← hn, if_pos (by omega)]
    exact z
  · rw [if_pos (by omega)]
/-- A row tells of each block of length m whether it is told true as a whole. -/
def RowF (B : Int → Bool) (r : List Bool) (m : Int) : Prop := (r.length : Int) * psz m = 65536 ∧ ∀ i : Int, 0 ≤ i → i < r.length → rdOf false r i = decide (cz B (i * psz m) m = psz m)
theorem row16 {M : List Bool} {B : Int → Bool} (h : Mk M B) : RowF B M 16 := by
  have e : psz 16 = 1 := by decide
  refine ⟨by rw [h.1, e]; rfl, fun i h0 h1 => ?_⟩
  rw [e, Int.mul_one]
  have hl := h.1
  rw [h.2 i h0 (by omega), Bool.eq_iff_iff, decide_eq_true_iff]
  have z := cz_full (B := B) (s := i) (l := 16)
  rw [e] at z
  rw [z]
  exact ⟨fun hb a a0 a1 => by rw [show a = i by omega]; exact hb, fun hb => hb i (by omega) (by omega)⟩
theorem row_half {B : Int → Bool} {below : List Bool} {n : Int} (h0 : 0 ≤ n) (h1 : n ≤ 15) (hb : RowF B below (n + 1)) {i : Int} (hi0 : 0 ≤ i) (hi1 : 2 * i + 1 < below.length) : (rdOf false below (2 * i) && rdOf false below (2 * i + 1)) = decide (cz B (i * psz n) n = psz n) := by
  have hz := psz_half h0 h1
  have zp := psz_pos (n + 1)
  have e1 : 2 * i * psz (n + 1) = i * psz n := by rw [hz, Int.mul_comm 2 i, Int.mul_assoc]
  have e2 : (2 * i + 1) * psz (n + 1) = i * psz n + psz (n + 1) := by rw [Int.add_mul, e1, Int.one_mul]
  rw [hb.2 (2 * i) (by omega) (by omega), hb.2 (2 * i + 1) (by omega) (by omega), e1, e2, Bool.eq_iff_iff, Bool.and_eq_true, decide_eq_true_iff, decide_eq_true_iff, decide_eq_true_iff, cz_half B _ h0 h1]
  have z1 := cz_le B (i * psz n) (n + 1)
  have z2 := cz_le B (i * psz n + psz (n + 1)) (n + 1)
  omega
theorem row_in {B : Int → Bool} {x3 : List (List Bool)} (h3 : x3.length = 17) {below : List Bool} {n : Int} (h0 : 0 ≤ n) (h1 : n ≤ 15) (hb : RowF B below (n + 1)) {m : Nat} (hm : below.length = 2 * m) (hm2 : m ≤ 65536) :
    ∀ (d i : Nat) (row : List Bool), i + d = m → row.length = m → (∀ j : Int, 0 ≤ j → j < i → rdOf false row j = decide (cz B (j * psz n) n = psz n)) → ∃ row', RowF B row' n ∧ ∀ k, spec_l01Blocks.l1 (k + d + 1) x3 n below row i = spec_l01Blocks.l0 k (x3.set n.toNat row') (n - 1) := by
  intro d
  induction d with
  | zero =>
    intro i row hi hr hj
    refine ⟨row, ⟨?_, fun j j0 j1 => hj j j0 (by omega)⟩, fun k => ?_⟩
    · have e := hb.1
      have hz := psz_half h0 h1
      rw [hm, Int.natCast_mul, Int.mul_comm ((2 : Nat) : Int) (m : Int), Int.mul_assoc] at e
      rw [hr, hz]
      exact e
    · simp only [spec_l01Blocks.l1]
      rw [if_neg (by omega), if_pos h0, if_pos (by rw [h3]; omega), w64 (n := n - 1) (by omega) (by omega)]
  | succ d ih =>
    intro i row hi hr hj
    have hil : i < m := by omega
    obtain ⟨v, hv⟩ : ∃ v, v = (rdOf false below (2 * (i : Int)) && rdOf false below (2 * (i : Int) + 1)) := ⟨_, rfl⟩
    have hv2 := row_half h0 h1 hb (i := (i : Int)) (by omega) (by omega)
    rw [← hv] at hv2
    obtain ⟨row', g1, g2⟩ := ih (i + 1) (row.set ((i : Int)).toNat v) (by omega) (by rw [List.length_set]; exact hr) (fun j j0 j1 => by
      rw [rdb_set v (by omega) (by omega) j0]
      by_cases c : (i : Int) = j
      · rw [if_pos c, ← c]; exact hv2
      · rw [if_neg c]; exact hj j j0 (by omega))
    refine ⟨row', g1, fun k => ?_⟩
    obtain ⟨K, hK⟩ : ∃ K, K = k + d + 1 := ⟨_, rfl⟩
    have ek : k + (d + 1) + 1 = K + 1 := by omega
    have g3 := g2 k
    rw [← hK] at g3
    rw [ek]
    simp only [spec_l01Blocks.l1]
    rw [if_pos (by omega), w64 (n := 2 * (i : Int)) (by omega) (by omega), if_pos (by omega), if_pos (by omega), wn1 (by omega)]
    cases h2 : rdOf false below (2 * (i : Int)) with
    | false =>
      rw [h2, Bool.false_and] at hv
      rw [if_neg (by decide), if_pos (by omega), ← hv]
      exact g3
    | true =>
      rw [h2, Bool.true_and] at hv
      rw [if_pos rfl, w64 (n := 2 * (i : Int) + 1) (by omega) (by omega), if_pos (by omega), if_pos (by omega), if_pos (by omega), ← hv]
      exact g3
/-- All rows from m on. -/
def FullF (B : Int → Bool) (x3 : List (List Bool)) (n : Int) : Prop := x3.length = 17 ∧ ∀ m, n < m → m ≤ 16 → RowF B (rd_L5 x3 m) m
theorem rdL_set {x3 : List (List Bool)} {n m : Int} {r : List Bool} (h0 : 0 ≤ n) (h1 : n < x3.length) (hm : 0 ≤ m) : rd_L5 (x3.set n.toNat r) m = if n = m then r else rd_L5 x3 m := by
  unfold rd_L5
  rw [List.getD_eq_getElem?_getD, List.getD_eq_getElem?_getD, List.getElem?_set]
  by_cases c : n = m
  · subst c
    rw [if_pos rfl, if_pos rfl, if_pos (by omega)]
    rfl
  · rw [if_neg (by omega), if_neg c]
theorem row_len {B : Int → Bool} {r : List Bool} {m : Int} (h0 : 1 ≤ m) (h1 : m ≤ 16) (h : RowF B r m) : ∃ q : Nat, r.length = 2 * q ∧ q ≤ 32768 := by
  have e := h.1
  rcases len17 (show 0 ≤ m by omega) h1 with rfl | rfl | rfl | rfl | rfl | rfl | rfl | rfl | rfl | rfl | rfl | rfl | rfl | rfl | rfl | rfl | rfl
  · omega
  all_goals (unfold psz at e; simp only [Int.reduceSub, Int.reduceToNat, Int.reducePow] at e; exact ⟨r.length / 2, by omega, by omega⟩)
theorem rows_ok {B : Int → Bool} {K : Nat} (hK : 32780 ≤ K) : ∀ (d : Nat) (x3 : List (List Bool)) (n : Int), n + 1 = d → n ≤ 15 → FullF B x3 n → ∃ x3' C, C ≤ d * K ∧ FullF B x3' (-1) ∧ ∀ k, spec_l01Blocks.l0 (k + C + 1) x3 n = spec_l01Blocks.l2 k x3' [] 0 := by
  intro d
  induction d with
  | zero =>
    intro x3 n hn h1 hF
    refine ⟨x3, 0, Nat.zero_le _, ?_, fun k => ?_⟩
    · rw [show n = -1 by omega] at hF; exact hF
    · simp only [spec_l01Blocks.l0]
      rw [if_neg (by omega)]
  | succ d ih =>
    intro x3 n hn h1 hF
    have h0 : 0 ≤ n := by omega
    have hb := hF.2 (n + 1) (by omega) (by omega)
    obtain ⟨q, q1, q2⟩ := row_len (by omega) (by omega) hb
    obtain ⟨row', g1, g2⟩ := row_in hF.1 h0 h1 hb q1 (by omega) q 0 (List.replicate q false) (by omega) (List.length_replicate ..) (fun j j0 j1 => by omega)
    obtain ⟨x3', C, c1, c2, c3⟩ := ih (x3.set n.toNat row') (n - 1) (by omega) (by omega) ⟨by rw [List.length_set]; exact hF.1, fun m m0 m1 => by
      have h3 := hF.1
      rw [rdL_set h0 (by omega) (by omega)]
      by_cases c : n = m
      · rw [if_pos c, ← c]; exact g1
      · rw [if_neg c]; exact hF.2 m (by omega) m1⟩
    have eK : (d + 1) * K = d * K + K := Nat.succ_mul _ _
    refine ⟨x3', C + 1 + q + 1, by omega, c2, fun k => ?_⟩
    have z := c3 k
    have z2 := g2 (k + C + 1)
    rw [z] at z2
    obtain ⟨J, hJ⟩ : ∃ J, J = k + C + 1 + q + 1 := ⟨_, rfl⟩
    have ek : k + (C + 1 + q + 1) + 1 = J + 1 := by omega
    rw [← hJ] at z2
    have h3 := hF.1
    have w1 : wrap64 (n + 1) = n + 1 := w64 (by omega) (by omega)
    have e2 : ((rd_L5 x3 (n + 1)).length : Int) / 2 = q := by rw [q1]; omega
    have w2 : wrap64 (q : Int) = q := w64 (by omega) (by omega)
    rw [ek]
    simp only [spec_l01Blocks.l0]
    rw [if_pos h0, w1, if_pos (by clear w1 w2; omega), if_pos (by clear w1 w2; omega), e2, w2, if_pos (by clear w1 w2; omega), if_pos (by clear w1 w2; omega), Int.toNat_natCast]
    exact z2
/-- A block that begins at a is told true as a whole. -/
def hit (B : Int → Bool) (a m : Int) : Prop := a % psz m = 0 ∧ cz B a m = psz m
theorem full_at {B : Int → Bool} {x3 : List (List Bool)} (hF : FullF B x3 (-1)) {m a : Int} (m0 : 0 ≤ m) (m1 : m ≤ 16) (a0 : 0 ≤ a) (a1 : a < 65536) (h : a % psz m = 0) :
    Aside0 (wrap64 (Int.tdiv a (psz m)) = a / psz m) ∧ 0 ≤ a / psz m ∧ a / psz m < (rd_L5 x3 m).length ∧ rdOf false (rd_L5 x3 m) (a / psz m) = decide (cz B a m = psz m) := by
  obtain ⟨e1, e2⟩ := hF.2 m (by omega) m1
  have zp := psz_pos m
  have d := Int.emod_add_mul_ediv a (psz m)
  rw [h, Int.zero_add] at d
  have q0 : 0 ≤ a / psz m := Int.ediv_nonneg a0 (by omega)
  have q1 : a / psz m ≤ a := Int.ediv_le_self _ a0
  have lt : a / psz m < (rd_L5 x3 m).length := by
    refine Int.lt_of_mul_lt_mul_left (a := psz m) ?_ (by omega)
    rw [d, Int.mul_comm, e1]
    exact a1
  refine ⟨⟨by rw [Int.tdiv_eq_ediv_of_nonneg a0]; exact w64 (by omega) (by omega)⟩, q0, lt, ?_⟩
  rw [e2 _ q0 lt, Int.mul_comm, d]
theorem l3_skip {B : Int → Bool} {x3 : List (List Bool)} (hF : FullF B x3 (-1)) {acc : List S28} {a m : Int} (a0 : 0 ≤ a) (a1 : a < 65536) (m0 : 0 ≤ m) (m1 : m < 16) (h : ¬ hit B a m) (k : Nat) : spec_l01Blocks.l3 (k + 1) x3 acc a m = spec_l01Blocks.l3 k x3 acc a (m + 1) := by
  have h3 := hF.1
  have zp := psz_pos m
  simp only [spec_l01Blocks.l3]
  rw [if_pos m1, spec_Size m0 (by omega)]
  simp only [Option.bind_some]
  rw [if_neg (by omega), Int.tmod_eq_emod_of_nonneg a0]
  clear zp
  by_cases c : a % psz m = 0
  · obtain ⟨f1, f2, f3, f4⟩ := full_at hF m0 (by omega) a0 a1 c
    have f5 : ¬ cz B a m = psz m := fun e => h ⟨c, e⟩
    rw [if_pos c, if_pos m0, if_pos (by omega), f1.out, if_pos f2, if_pos f3, f4, decide_eq_false f5, if_neg (by decide), w64 (n := m + 1) (by omega) (by omega)]
  · rw [if_neg c, w64 (n := m + 1) (by omega) (by omega)]
theorem l3_hit {B : Int → Bool} {x3 : List (List Bool)} (hF : FullF B x3 (-1)) {acc : List S28} {a m : Int} (a0 : 0 ≤ a) (a1 : a < 65536) (m0 : 0 ≤ m) (m1 : m ≤ 16) (h : hit B a m) (k : Nat) : spec_l01Blocks.l3 (k + 1) x3 acc a m = spec_l01Blocks.j4 k x3 acc a m := by
  have h3 := hF.1
  have zp := psz_pos m
  simp only [spec_l01Blocks.l3]
  by_cases c : m < 16
  · obtain ⟨f1, f2, f3, f4⟩ := full_at hF m0 m1 a0 a1 h.1
    rw [if_pos c, spec_Size m0 m1]
    simp only [Option.bind_some]
    rw [if_neg (by omega), Int.tmod_eq_emod_of_nonneg a0, if_pos h.1, if_pos m0, if_pos (by omega), f1.out, if_pos f2, if_pos f3, f4, decide_eq_true h.2, if_pos rfl]
  · rw [if_neg c]
theorem j4_hit {B : Int → Bool} {x3 : List (List Bool)} (hF : FullF B x3 (-1)) {acc : List S28} (ha : acc.length ≤ 1000000) {a m : Int} (a0 : 0 ≤ a) (a1 : a < 65536) (m0 : 0 ≤ m) (m1 : m ≤ 16) (h : hit B a m) (k : Nat) : spec_l01Blocks.j4 (k + 1) x3 acc a m = spec_l01Blocks.l2 k x3 (acc ++ [(⟨a, m⟩ : S28)]) (a + psz m) := by
  have h3 := hF.1
  have zp := psz_pos m
  have zl := psz_le m0 m1
  obtain ⟨f1, f2, f3, f4⟩ := full_at hF m0 m1 a0 a1 h.1
  simp only [spec_l01Blocks.j4]
  rw [if_pos m0, if_pos (by omega), spec_Size m0 m1]
  simp only [Option.bind_some]
  rw [if_neg (by omega), f1.out, if_pos f2, if_pos f3, f4, decide_eq_true h.2, if_pos rfl, if_pos (by omega), w64 (n := a + psz m) (by omega) (by omega)]
theorem j4_none {B : Int → Bool} {x3 : List (List Bool)} (hF : FullF B x3 (-1)) {acc : List S28} {a : Int} (a0 : 0 ≤ a) (a1 : a < 65536) (h : ¬ hit B a 16) (k : Nat) : spec_l01Blocks.j4 (k + 1) x3 acc a 16 = spec_l01Blocks.l2 k x3 acc (a + 1) := by
  have h3 := hF.1
  have e1 : a % psz 16 = 0 := by
    have : psz 16 = 1 := by decide
    rw [this]; omega
  have zp := psz_pos 16
  obtain ⟨f1, f2, f3, f4⟩ := full_at hF (m := 16) (by omega) (by omega) a0 a1 e1
  have f5 : ¬ cz B a 16 = psz 16 := fun e => h ⟨e1, e⟩
  simp only [spec_l01Blocks.j4]
  rw [if_pos (by omega), if_pos (by omega), spec_Size (by omega) (by omega)]
  simp only [Option.bind_some]
  rw [if_neg (by omega), f1.out, if_pos f2, if_pos f3, f4, decide_eq_false f5, if_neg (by decide), w64 (n := a + 1) (by omega) (by omega)]
theorem l3_to {B : Int → Bool} {x3 : List (List Bool)} (hF : FullF B x3 (-1)) {acc : List S28} {a l : Int} (a0 : 0 ≤ a) (a1 : a < 65536) (l1 : l ≤ 16) (k : Nat) : ∀ (d : Nat) (m : Int), m + d = l → 0 ≤ m → (∀ j, m ≤ j → j < l → ¬ hit B a j) → spec_l01Blocks.l3 (k + d) x3 acc a m = spec_l01Blocks.l3 k x3 acc a l := by
  intro d
  induction d with
  | zero =>
    intro m h m0 hn
    rw [show m = l by omega]
    rfl
  | succ d ih =>
    intro m h m0 hn
    have z := l3_skip hF (acc := acc) a0 a1 m0 (show m < 16 by omega) (hn m (Int.le_refl _) (by omega)) (k + d)
    rw [show k + (d + 1) = k + d + 1 by omega, z]
    exact ih (m + 1) (by omega) (by omega) (fun j j0 j1 => hn j (by omega) j1)
theorem scan_none {B : Int → Bool} {x3 : List (List Bool)} (hF : FullF B x3 (-1)) {acc : List S28} {a : Int} (a0 : 0 ≤ a) (a1 : a < 65536) (h : ∀ j, 0 ≤ j → j ≤ 16 → ¬ hit B a j) (k : Nat) : spec_l01Blocks.l2 (k + 19) x3 acc a = spec_l01Blocks.l2 k x3 acc (a + 1) := by
  have z := l3_to hF (acc := acc) a0 a1 (l := 16) (by omega) (k + 2) 16 0 (by omega) (by omega) (fun j j0 j1 => h j j0 (by omega))
  obtain ⟨K, hK⟩ : ∃ K, K = k + 2 + 16 := ⟨_, rfl⟩
  rw [← hK] at z
  rw [show k + 19 = K + 1 by omega]
  simp only [spec_l01Blocks.l2]
  rw [if_pos a1, z, show k + 2 = (k + 1) + 1 by omega]
  simp only [spec_l01Blocks.l3]
  rw [if_neg (by omega)]
  exact j4_none hF a0 a1 (h 16 (by omega) (by omega)) k
theorem scan_hit {B : Int → Bool} {x3 : List (List Bool)} (hF : FullF B x3 (-1)) {acc : List S28} (ha : acc.length ≤ 1000000) {a l : Int} (a0 : 0 ≤ a) (a1 : a < 65536) (l0 : 0 ≤ l) (l1 : l ≤ 16) (h : hit B a l) (hn : ∀ j, 0 ≤ j → j < l → ¬ hit B a j) (k : Nat) : spec_l01Blocks.l2 (k + (l.toNat + 3)) x3 acc a = spec_l01Blocks.l2 k x3 (acc ++ [(⟨a, l⟩ : S28)]) (a + psz l) := by
  have z := l3_to hF (acc := acc) a0 a1 l1 (k + 2) l.toNat 0 (by omega) (by omega) (fun j j0 j1 => hn j j0 j1)
  obtain ⟨K, hK⟩ : ∃ K, K = k + 2 + l.toNat := ⟨_, rfl⟩
  rw [← hK] at z
  rw [show k + (l.toNat + 3) = K + 1 by omega]
  simp only [spec_l01Blocks.l2]
  rw [if_pos a1, z, show k + 2 = (k + 1) + 1 by omega, l3_hit hF a0 a1 l0 l1 h (k + 1)]
  exact j4_hit hF ha a0 a1 l0 l1 h k
theorem scan_run {B : Int → Bool} {x3 : List (List Bool)} (hF : FullF B x3 (-1)) {acc : List S28} (k : Nat) : ∀ (n : Nat) (a : Int), 0 ≤ a → a + n ≤ 65536 → (∀ b, a ≤ b → b < a + n → B b = false) → spec_l01Blocks.l2 (k + 19 * n) x3 acc a = spec_l01Blocks.l2 k x3 acc (a + n) := by
  intro n
  induction n with
  | zero =>
    intro a a0 a1 h
    rw [show a + ((0 : Nat) : Int) = a by omega]
    rfl
  | succ n ih =>
    intro a a0 a1 h
    have z := scan_none hF (acc := acc) a0 (by omega) (fun j j0 j1 hj => by
      have z := cz_full.1 hj.2 a (Int.le_refl _) (by have := psz_pos j; omega)
      rw [h a (Int.le_refl _) (by omega)] at z
      cases z) (k + 19 * n)
    rw [show k + 19 * (n + 1) = k + 19 * n + 19 by omega, z, ih (a + 1) (by omega) (by omega) (fun b b0 b1 => h b (by omega) (by omega))]
    congr 1
    omega
/-- No greater block around it is told true as a whole. -/
def NFb (B : Int → Bool) (s l : Int) : Prop := ∀ s' m, m < l → Pok s' m → s' ≤ s → s < s' + psz m → ¬ cz B s' m = psz m
theorem NFb.child {B : Int → Bool} {s l h : Int} (p : Pok s l) (hN : NFb B s l) (hw : ¬ cz B s l = psz l) (h0 : 0 ≤ h) (h1 : h < psz l) : NFb B (s + h) (l + 1) := by
  intro s' m hm p' a1 a2
  obtain ⟨b0, b1, b2, b3, b4⟩ := p
  obtain ⟨c0, c1, c2, c3, c4⟩ := p'
  have z := psz_pos l
  have al := psz_mod c0 (show m ≤ l by omega) b1 c4
  have le := mult_le z al b4 (show s' < s + psz l by omega)
  by_cases c : m = l
  · subst c
    have le2 := mult_le z b4 al (show s < s' + psz m by omega)
    have e : s' = s := by omega
    rw [e]
    exact hw
  · exact hN s' m (by omega) ⟨c0, c1, c2, c3, c4⟩ le (by omega)
theorem scan_ok {B : Int → Bool} {x3 : List (List Bool)} (hF : FullF B x3 (-1)) : ∀ (d : Nat) (s l : Int), l + d = 16 → Pok s l → NFb B s l → ∃ c : Nat, (c : Int) ≤ psz l * 20 ∧ ∀ (acc : List S28) (k : Nat), (acc.length : Int) + psz l ≤ 1000000 →
    spec_l01Blocks.l2 (k + c) x3 acc s = spec_l01Blocks.l2 k x3 (acc ++ blk B d s l) (s + psz l) := by
  have none_ : ∀ (d : Nat) (s l : Int), Pok s l → cz B s l = 0 → blk B d s l = [] → ∃ c : Nat, (c : Int) ≤ psz l * 20 ∧ ∀ (acc : List S28) (k : Nat), (acc.length : Int) + psz l ≤ 1000000 → spec_l01Blocks.l2 (k + c) x3 acc s = spec_l01Blocks.l2 k x3 (acc ++ blk B d s l) (s + psz l) := fun d s l p c0 e => by
    have tp := p.top
    have en := psz_nat l
    have zp := psz_pos l
    refine ⟨19 * (psz l).toNat, by omega, fun acc k ha => ?_⟩
    have z := scan_run hF (acc := acc) k (psz l).toNat s p.2.2.1 (by omega) (fun b b0 b1 => cz_zero.1 c0 b b0 (by omega))
    rw [e, List.append_nil, z, en]
  have hit_ : ∀ (d : Nat) (s l : Int), Pok s l → NFb B s l → cz B s l = psz l → blk B d s l = [⟨s, l⟩] → ∃ c : Nat, (c : Int) ≤ psz l * 20 ∧ ∀ (acc : List S28) (k : Nat), (acc.length : Int) + psz l ≤ 1000000 → spec_l01Blocks.l2 (k + c) x3 acc s = spec_l01Blocks.l2 k x3 (acc ++ blk B d s l) (s + psz l) := fun d s l p hN c1 e => by
    have tp := p.top
    have zp := psz_pos l
    have p' := p
    obtain ⟨b0, b1, b2, b3, b4⟩ := p'
    refine ⟨l.toNat + 3, by omega, fun acc k ha => ?_⟩
    rw [e]
    exact scan_hit hF (by omega) b2 (by omega) b0 b1 ⟨b4, c1⟩ (fun j j0 j1 hj => hN s j j1 ⟨j0, by omega, b2, b3, hj.1⟩ (Int.le_refl _) (by have := psz_pos j; omega) hj.2) k
  intro d
  induction d with
  | zero =>
    intro s l hl p hN
    have e1 : psz l = 1 := by
      have : l = 16 := by omega
      rw [this]; decide
    have zc := cz_le B s l
    by_cases c0 : cz B s l = 0
    · exact none_ 0 s l p c0 (by unfold blk; rw [if_pos c0])
    · exact hit_ 0 s l p hN (by omega) (by unfold blk; rw [if_neg c0])
  | succ d ih =>
    intro s l hl p hN
    by_cases c0 : cz B s l = 0
    · exact none_ (d + 1) s l p c0 (by unfold blk; rw [if_pos c0])
    · by_cases c1 : cz B s l = psz l
      · exact hit_ (d + 1) s l p hN c1 (by unfold blk; rw [if_neg c0, if_pos c1])
      · have hz := psz_half p.1 (show l ≤ 15 by omega)
        have zp := psz_pos (l + 1)
        have n1 := NFb.child p hN c1 (h := 0) (by omega) (by omega)
        rw [Int.add_zero] at n1
        have n2 := NFb.child p hN c1 (h := psz (l + 1)) (by omega) (by omega)
        obtain ⟨k1, x1, x2⟩ := ih s (l + 1) (by omega) (p.left (by omega)) n1
        obtain ⟨k2, y1, y2⟩ := ih (s + psz (l + 1)) (l + 1) (by omega) (p.right (by omega)) n2
        have bl := blk_len B d s (l + 1) (by omega) (by have := p.1; omega)
        refine ⟨k2 + k1, by omega, fun acc k ha => ?_⟩
        have u1 := x2 acc (k + k2) (by omega)
        have u2 := y2 (acc ++ blk B d s (l + 1)) k (by rw [List.length_append]; omega)
        have e : blk B (d + 1) s l = blk B d s (l + 1) ++ blk B d (s + psz (l + 1)) (l + 1) := by
          show (if cz B s l = 0 then [] else if cz B s l = psz l then [⟨s, l⟩] else blk B d s (l + 1) ++ blk B d (s + psz (l + 1)) (l + 1)) = _
          rw [if_neg c0, if_neg c1]
        rw [show k + (k2 + k1) = k + k2 + k1 by omega, u1, u2, e, List.append_assoc]
        congr 1
        omega
theorem spec_blocks {M : List Bool} {B : Int → Bool} (hM : Mk M B) {d : Nat} (hd : d = 16) : ∀ k, 2000000 < k → spec_l01Blocks.f k M = some (blk B d 0 0) := by
  have e16 : psz 0 = 65536 := by decide
  obtain ⟨K, hK⟩ : ∃ K, K = 32780 := ⟨_, rfl⟩
  have f0 : FullF B ((List.replicate 17 [] : List (List Bool)).set (16 : Int).toNat M) 15 := ⟨by rw [List.length_set, List.length_replicate], fun m m0 m1 => by
    rw [rdL_set (by omega) (by rw [List.length_replicate]; omega) (by omega), if_pos (by omega), show m = 16 by omega]
    exact row16 hM⟩
  obtain ⟨x3, C, c1, c2, c3⟩ := rows_ok (B := B) (K := K) (by omega) 16 _ 15 (by omega) (by omega) f0
  obtain ⟨c, s1, s2⟩ := scan_ok c2 d 0 0 (by omega) ⟨by omega, by omega, by omega, by omega, by rw [e16]; rfl⟩ (fun s' m hm p' => by have := p'.1; omega)
  rw [e16] at s1 s2
  intro k hk
  obtain ⟨k, rfl⟩ : ∃ m, k = (m + 1 + c) + C + 1 := ⟨k - C - c - 2, by omega⟩
  have z1 := c3 (k + 1 + c)
  have z2 := s2 [] (k + 1) (by simp)
  have z3 : spec_l01Blocks.l2 (k + 1) x3 ([] ++ blk B d 0 0) (0 + 65536) = some (blk B d 0 0) := by
    simp only [spec_l01Blocks.l2]
    rw [if_neg (by omega), List.nil_append]
  unfold spec_l01Blocks.f
  rw [if_pos (by omega), Option.bind_some, if_pos (by rw [List.length_replicate]; omega), z1, z2, z3]
theorem blk_sum (B : Int → Bool) : ∀ (d : Nat) (s l : Int), l + d = 16 → 0 ≤ l → ((blk B d s l).map (fun q => psz q.f1)).sum = cz B s l ∧ ∀ q ∈ blk B d s l, 0 ≤ q.f1 ∧ q.f1 ≤ 16 := by
  intro d
  induction d with
  | zero =>
    intro s l h h0
    have zc := cz_le B s l
    have e1 : psz l = 1 := by
      have : l = 16 := by omega
      rw [this]; decide
    unfold blk
    by_cases c : cz B s l = 0
    · rw [if_pos c]
      exact ⟨c.symm, fun q hq => by cases hq⟩
    · rw [if_neg c]
      refine ⟨by simp; omega, fun q hq => ?_⟩
      rw [List.mem_singleton.1 hq]
      dsimp only
      omega
  | succ d ih =>
    intro s l h h0
    have z := cz_half B s h0 (show l ≤ 15 by omega)
    obtain ⟨i1, j1⟩ := ih s (l + 1) (by omega) (by omega)
    obtain ⟨i2, j2⟩ := ih (s + psz (l + 1)) (l + 1) (by omega) (by omega)
    unfold blk
    by_cases c : cz B s l = 0
    · rw [if_pos c]
      exact ⟨c.symm, fun q hq => by cases hq⟩
    · rw [if_neg c]
      by_cases c2 : cz B s l = psz l
      · rw [if_pos c2]
        refine ⟨by simp; omega, fun q hq => ?_⟩
        rw [List.mem_singleton.1 hq]
        dsimp only
        omega
      · rw [if_neg c2, List.map_append, List.sum_append]
        refine ⟨by omega, fun q hq => ?_⟩
        rcases List.mem_append.1 hq with h | h
        · exact j1 q h
        · exact j2 q h
theorem sum_nn : ∀ (l : List S28), 0 ≤ (l.map (fun q => psz q.f1)).sum
  | [] => by simp
  | q :: l => by
    have := sum_nn l
    have z := psz_pos q.f1
    rw [List.map_cons, List.sum_cons]
    omega
theorem sum_loop {o : List S28} (ho : o.length ≤ 65536) (hq : ∀ q ∈ o, 0 ≤ q.f1 ∧ q.f1 ≤ 16) (hs : (o.map (fun q => psz q.f1)).sum ≤ 65536) : ∀ (d i k : Nat) (c : Int), i + d = o.length → d < k → 0 ≤ c → c + ((o.drop i).map (fun q => psz q.f1)).sum = (o.map (fun q => psz q.f1)).sum →
    impl_CountAddrs.l0 k c o o.length i = some (o.map (fun q => psz q.f1)).sum := by
  intro d
  induction d with
  | zero =>
    intro i k c hi hk hc he
    obtain ⟨k, rfl⟩ : ∃ m, k = m + 1 := ⟨k - 1, by omega⟩
    rw [List.drop_of_length_le (by omega), List.map_nil, List.sum_nil] at he
    simp only [impl_CountAddrs.l0]
    rw [if_neg (by omega), ← he, Int.add_zero]
  | succ d ih =>
    intro i k c hi hk hc he
    obtain ⟨k, rfl⟩ : ∃ m, k = m + 1 := ⟨k - 1, by omega⟩
    have hil : i < o.length := by omega
    have h1 := hq _ (List.getElem_mem hil)
    have z := psz_pos o[i].f1
    have nn := sum_nn (o.drop (i + 1))
    rw [List.drop_eq_getElem_cons hil, List.map_cons, List.sum_cons] at he
    simp only [impl_CountAddrs.l0]
    rw [if_pos (by omega), if_pos (by omega), if_pos (by omega), rdP_at hil, impl_Size _ h1.1 h1.2]
    simp only [Option.bind_some]
    rw [wn1 (by omega), w64 (n := c + psz o[i].f1) (by omega) (by omega)]
    exact ih (i + 1) k _ (by omega) (by omega) (by omega) (by omega)
theorem impl_count {l : List S28} (c1 : l.length ≤ 300) (c2 : ∀ q ∈ l, POk q) {k : Nat} (hk : 100000 < k) : impl_CountAddrs.f k l = some (cz (Bof l) 0 0) := by
  have e16 : psz 0 = 65536 := by decide
  obtain ⟨s1, s2⟩ := blk_sum (Bof l) 16 0 0 (by omega) (by omega)
  have bl := blk_len (Bof l) 16 0 0 (by omega) (by omega)
  have zc := cz_le (Bof l) 0 0
  rw [e16] at bl zc
  have z := sum_loop (o := blk (Bof l) 16 0 0) (by omega) s2 (by omega) (blk (Bof l) 16 0 0).length 0 k 0 (by omega) (by omega) (by omega) (by rw [List.drop_zero, Int.zero_add])
  unfold impl_CountAddrs.f
  rw [impl_agg c1 c2 (by omega)]
  simp only [Option.bind_some]
  rw [if_pos trivial, ← s1]
  exact z
theorem wr1 {i : Nat} (h : i ≤ 1048576) : wrap64 ((i : Int) + 1) = ((i + 1 : Nat) : Int) := wn1 (by omega)
theorem rd_mem {o : List Int} {i : Int} (h0 : 0 ≤ i) (h : i < o.length) : rd o i ∈ o := by
  unfold rd
  rw [List.getD_eq_getElem?_getD, List.getElem?_eq_getElem (by omega)]
  exact List.getElem_mem _
theorem and255 (x : Int) : 0 ≤ Go.bits .and .i64 x 255 ∧ Go.bits .and .i64 x 255 ≤ 255 := by
  have e : Go.bits .and .i64 x 255 = IntKind.i64.wrap (((BitVec.ofInt 64 x).toNat &&& (BitVec.ofInt 64 255).toNat : Nat) : Int) := by
    simp only [Go.bits]
    rw [← BitVec.toNat_and]
    rfl
  have h : (BitVec.ofInt 64 x).toNat &&& (BitVec.ofInt 64 255).toNat ≤ 255 := Nat.and_le_right
  generalize (BitVec.ofInt 64 x).toNat &&& (BitVec.ofInt 64 255).toNat = m at e h
  rw [e, IntKind.wrap_i64]
  omega
theorem byte_ok (b : List Int) {i : Int} (h : Int) (hi : 0 ≤ i) (hb : b.length ≤ 1048576) : ∃ r i' h', spec_l01Byte.f b i h = some (r, i', h') ∧ (0 ≤ r ∧ r ≤ 255) ∧ 0 ≤ i' := by
  unfold spec_l01Byte.f
  by_cases c : i < (b.length : Int)
  · rw [if_pos c, if_pos hi]
    exact ⟨_, _, _, rfl, and255 _, by rw [w64 (by omega) (by omega)]; omega⟩
  · rw [if_neg c]
    exact ⟨_, _, _, rfl, and255 _, hi⟩
theorem tmod_ok {a n : Int} (h0 : 0 ≤ a) (h1 : 0 < n) : 0 ≤ Int.tmod a n ∧ Int.tmod a n < n := by
  rw [Int.tmod_eq_emod_of_nonneg h0]
  exact ⟨Int.emod_nonneg _ (by omega), Int.emod_lt_of_pos _ h1⟩
theorem below_ok (b : List Int) {i : Int} (h : Int) (hi : 0 ≤ i) (hb : b.length ≤ 1048576) (n : Int) : ∃ r i' h', spec_l01Below.f b i h n = some (r, i', h') ∧ 0 ≤ i' ∧ 0 ≤ r ∧ (0 < n → r < n) ∧ (n ≤ 0 → r = 0) := by
  unfold spec_l01Below.f
  by_cases c : n ≤ 0
  · rw [if_pos c]
    exact ⟨_, _, _, rfl, hi, Int.le_refl _, fun h => by omega, fun _ => rfl⟩
  · rw [if_neg c]
    obtain ⟨r1, i1, h1, e1, p1, q1⟩ := byte_ok b h hi hb
    rw [e1]
    simp only [Option.bind_some]
    by_cases c2 : n ≤ 256
    · rw [if_pos c2, if_neg (by omega)]
      have z := tmod_ok p1.1 (show 0 < n by omega)
      exact ⟨_, _, _, rfl, q1, z.1, fun _ => z.2, fun h => by omega⟩
    · rw [if_neg c2]
      obtain ⟨r2, i2, h2, e2, p2, q2⟩ := byte_ok b h1 q1 hb
      rw [e2]
      simp only [Option.bind_some]
      obtain ⟨r3, i3, h3, e3, p3, q3⟩ := byte_ok b h2 q2 hb
      rw [e3]
      simp only [Option.bind_some]
      have z := tmod_ok (a := r1 * 65536 + r2 * 256 + r3) (by omega) (show 0 < n by omega)
      rw [if_neg (by omega), w64 (n := r1 * 65536) (by omega) (by omega), w64 (n := r2 * 256) (by omega) (by omega), w64 (n := r1 * 65536 + r2 * 256) (by omega) (by omega), w64 (n := r1 * 65536 + r2 * 256 + r3) (by omega) (by omega)]
      exact ⟨_, _, _, rfl, q3, z.1, fun _ => z.2, fun h => by omega⟩
theorem pick_ok (b : List Int) {i : Int} (h : Int) (hi : 0 ≤ i) (hb : b.length ≤ 1048576) {l : List Int} (hl : 0 < l.length) : ∃ r i' h', spec_l01PickInt.f b i h l = some (r, i', h') ∧ 0 ≤ i' ∧ r ∈ l := by
  unfold spec_l01PickInt.f
  obtain ⟨r, i', h', e, p, q0, q, -⟩ := below_ok b h hi hb (l.length : Int)
  rw [e]
  simp only [Option.bind_some]
  have q1 := q (by omega)
  rw [if_pos q0, if_pos q1]
  exact ⟨_, _, _, rfl, p, rd_mem q0 q1⟩
theorem once_ok (b : List Int) {i : Int} (h : Int) (hi : 0 ≤ i) (hb : b.length ≤ 1048576) (n : Int) : ∃ r i' h', spec_l01Once.f b i h n = some (r, i', h') ∧ 0 ≤ i' := by
  unfold spec_l01Once.f
  obtain ⟨r, i', h', e, p, -⟩ := below_ok b h hi hb n
  rw [e]
  simp only [Option.bind_some]
  exact ⟨_, _, _, rfl, p⟩
theorem new_ok {l : List Int} (hl : l.length ≤ 1048576) {k : Nat} (hk : 4001 < k) : ∃ h, spec_l01New.f k l = some (l, 0, h) := by
  have key : ∀ (d i k : Nat) (x : Int), i + d = 4000 → d < k → ∃ h, spec_l01New.l0 k l x i = some (l, 0, h) := by
    intro d
    induction d with
    | zero =>
      intro i k x hi hk
      obtain ⟨k, rfl⟩ : ∃ m, k = m + 1 := ⟨k - 1, by omega⟩
      simp only [spec_l01New.l0]
      rw [if_neg (c := (i : Int) < 4000) (by omega)]
      by_cases c : (i : Int) < (l.length : Int)
      · rw [if_pos c]; exact ⟨_, rfl⟩
      · rw [if_neg c]; exact ⟨_, rfl⟩
    | succ d ih =>
      intro i k x hi hk
      obtain ⟨k, rfl⟩ : ∃ m, k = m + 1 := ⟨k - 1, by omega⟩
      simp only [spec_l01New.l0]
      rw [if_pos (c := (i : Int) < 4000) (by omega)]
      by_cases c : (i : Int) < (l.length : Int)
      · rw [if_pos c, if_pos (by omega), wr1 (by omega)]
        exact ih (i + 1) k _ (by omega) (by omega)
      · rw [if_neg c]; exact ⟨_, rfl⟩
  exact key 4000 0 k _ (by omega) (by omega)
/-- What is known of each of the greatest blocks. -/
def InB (B : Int → Bool) (s l : Int) (q : S28) : Prop := POk q ∧ s ≤ q.f0 ∧ q.f0 + psz q.f1 ≤ s + psz l ∧ l ≤ q.f1 ∧ cz B q.f0 q.f1 = psz q.f1 ∧ NFb B q.f0 q.f1
theorem blk_in (B : Int → Bool) : ∀ (d : Nat) (s l : Int), l + d = 16 → Pok s l → NFb B s l → (∀ q ∈ blk B d s l, InB B s l q) ∧ (blk B d s l).Pairwise apP := by
  have one : ∀ (s l : Int), Pok s l → NFb B s l → cz B s l = psz l → (∀ q ∈ [(⟨s, l⟩ : S28)], InB B s l q) ∧ [(⟨s, l⟩ : S28)].Pairwise apP := fun s l p hN c => by
    refine ⟨fun q hq => ?_, List.pairwise_singleton _ _⟩
    rw [List.mem_singleton.1 hq]
    exact ⟨p, Int.le_refl _, Int.le_refl _, Int.le_refl _, c, hN⟩
  intro d
  induction d with
  | zero =>
    intro s l hl p hN
    have e1 : psz l = 1 := by
      have : l = 16 := by omega
      rw [this]; decide
    have zc := cz_le B s l
    unfold blk
    by_cases c0 : cz B s l = 0
    · rw [if_pos c0]
      exact ⟨(fun q hq => by cases hq), List.Pairwise.nil⟩
    · rw [if_neg c0]
      exact one s l p hN (by omega)
  | succ d ih =>
    intro s l hl p hN
    have e : blk B (d + 1) s l = if cz B s l = 0 then [] else if cz B s l = psz l then [⟨s, l⟩] else blk B d s (l + 1) ++ blk B d (s + psz (l + 1)) (l + 1) := rfl
    rw [e]
    by_cases c0 : cz B s l = 0
    · rw [if_pos c0]
      exact ⟨(fun q hq => by cases hq), List.Pairwise.nil⟩
    · rw [if_neg c0]
      by_cases c1 : cz B s l = psz l
      · rw [if_pos c1]
        exact one s l p hN c1
      · rw [if_neg c1]
        have hz := psz_half p.1 (show l ≤ 15 by omega)
        have zp := psz_pos (l + 1)
        have n1 := NFb.child p hN c1 (h := 0) (by omega) (by omega)
        rw [Int.add_zero] at n1
        have n2 := NFb.child p hN c1 (h := psz (l + 1)) (by omega) (by omega)
        obtain ⟨x1, x2⟩ := ih s (l + 1) (by omega) (p.left (by omega)) n1
        obtain ⟨y1, y2⟩ := ih (s + psz (l + 1)) (l + 1) (by omega) (p.right (by omega)) n2
        refine ⟨fun q hq => ?_, List.pairwise_append.2 ⟨x2, y2, fun a ha b hb => ?_⟩⟩
        · rcases List.mem_append.1 hq with h | h
          · obtain ⟨g1, g2, g3, g4, g5⟩ := x1 q h
            exact ⟨g1, g2, by omega, by omega, g5⟩
          · obtain ⟨g1, g2, g3, g4, g5⟩ := y1 q h
            exact ⟨g1, by omega, by omega, by omega, g5⟩
        · have g1 := x1 a ha
          have g2 := y1 b hb
          unfold apP
          have := g1.2.2.1
          have := g2.2.1
          omega
theorem Bof_append (S T : List S28) (a : Int) : Bof (S ++ T) a = (Bof S a || Bof T a) := by
  unfold Bof
  rw [List.any_append]
/-- The blocks have just the addresses that are told true. -/
theorem blk_Bof (B : Int → Bool) : ∀ (d : Nat) (s l : Int), l + d = 16 → Pok s l → ∀ a, Bof (blk B d s l) a = (B a && decide (s ≤ a ∧ a < s + psz l)) := by
  have none_ : ∀ (s l : Int), cz B s l = 0 → ∀ a, false = (B a && decide (s ≤ a ∧ a < s + psz l)) := fun s l c a => by
    by_cases h : s ≤ a ∧ a < s + psz l
    · rw [cz_zero.1 c a h.1 h.2]; rfl
    · rw [decide_eq_false h, Bool.and_false]
  have all_ : ∀ (s l : Int), cz B s l = psz l → ∀ a, Bof [(⟨s, l⟩ : S28)] a = (B a && decide (s ≤ a ∧ a < s + psz l)) := fun s l c a => by
    have e : Bof [(⟨s, l⟩ : S28)] a = decide (s ≤ a ∧ a < s + psz l) := by
      unfold Bof inP
      simp
    rw [e]
    by_cases h : s ≤ a ∧ a < s + psz l
    · rw [cz_full.1 c a h.1 h.2, Bool.true_and]
    · rw [decide_eq_false h, Bool.and_false]
  intro d
  induction d with
  | zero =>
    intro s l hl p a
    have e1 : psz l = 1 := by
      have : l = 16 := by omega
      rw [this]; decide
    have zc := cz_le B s l
    unfold blk
    by_cases c0 : cz B s l = 0
    · rw [if_pos c0]; exact none_ s l c0 a
    · rw [if_neg c0]; exact all_ s l (by omega) a
  | succ d ih =>
    intro s l hl p a
    have e : blk B (d + 1) s l = if cz B s l = 0 then [] else if cz B s l = psz l then [⟨s, l⟩] else blk B d s (l + 1) ++ blk B d (s + psz (l + 1)) (l + 1) := rfl
    rw [e]
    by_cases c0 : cz B s l = 0
    · rw [if_pos c0]; exact none_ s l c0 a
    · rw [if_neg c0]
      by_cases c1 : cz B s l = psz l
      · rw [if_pos c1]; exact all_ s l c1 a
      · rw [if_neg c1, Bof_append, ih s (l + 1) (by omega) (p.left (by omega)) a, ih (s + psz (l + 1)) (l + 1) (by omega) (p.right (by omega)) a]
        have hz := psz_half p.1 (show l ≤ 15 by omega)
        have zp := psz_pos (l + 1)
        cases B a with
        | false => rfl
        | true =>
          simp only [Bool.true_and]
          rw [Bool.eq_iff_iff, Bool.or_eq_true, decide_eq_true_iff, decide_eq_true_iff, decide_eq_true_iff]
          omega
theorem top_ok : Pok 0 0 ∧ ∀ B, NFb B 0 0 := by
  have e16 : psz 0 = 65536 := by decide
  exact ⟨⟨by omega, by omega, by omega, by omega, by rw [e16]; rfl⟩, fun B s' m hm p' => by have := p'.1; omega⟩
/-- The greatest blocks of a set of addresses make up the set. -/
theorem blk_same {B : Int → Bool} (hB : ∀ a, B a = true → 0 ≤ a ∧ a < 65536) {d : Nat} (hd : d = 16) : Bof (blk B d 0 0) = B := by
  have e16 : psz 0 = 65536 := by decide
  refine funext fun a => ?_
  rw [blk_Bof B d 0 0 (by omega) top_ok.1 a, e16]
  cases hb : B a with
  | false => rfl
  | true =>
    have := hB a hb
    rw [Bool.true_and]
    exact decide_eq_true (by omega)
theorem Bof_range {l : List S28} (hp : ∀ q ∈ l, POk q) (a : Int) (h : Bof l a = true) : 0 ≤ a ∧ a < 65536 := by
  obtain ⟨q, h1, h2⟩ := Bof_iff.1 h
  have tp := Pok.top (hp q h1)
  have := (hp q h1).2.2.1
  omega
theorem ofInt_nat {x : Int} (h0 : 0 ≤ x) (h1 : x < 9223372036854775808) : (BitVec.ofInt 64 x).toNat = x.toNat := by
  rw [BitVec.toNat_ofInt]
  omega
theorem xor_quot {a p : Int} (j : Nat) (hp : p = 2 ^ j) (hj : j ≤ 16) (a0 : 0 ≤ a) (a1 : a < 65536) : Go.bits .xor .i64 a p / (2 * p) = a / (2 * p) ∧ 0 ≤ Go.bits .xor .i64 a p := by
  have p1 : (2 : Nat) ^ j ≤ 2 ^ 16 := Nat.pow_le_pow_right (by decide) hj
  have pp : 0 < (2 : Nat) ^ j := Nat.pow_pos (by decide)
  have hpn : p = ((2 ^ j : Nat) : Int) := by rw [hp]; simp
  have e : Go.bits .xor .i64 a p = IntKind.i64.wrap (((BitVec.ofInt 64 a).toNat ^^^ (BitVec.ofInt 64 p).toNat : Nat) : Int) := by
    simp only [Go.bits]
    rw [← BitVec.toNat_xor]
    rfl
  obtain ⟨n, hn⟩ : ∃ n : Nat, a = n := ⟨a.toNat, by omega⟩
  have lt : n ^^^ 2 ^ j < 2 ^ 17 := Nat.xor_lt_two_pow (by omega) (by omega)
  rw [ofInt_nat a0 (by omega), ofInt_nat (by omega) (by omega), hpn, Int.toNat_natCast, hn, Int.toNat_natCast] at e
  have e2 : Go.bits .xor .i64 a p = ((n ^^^ 2 ^ j : Nat) : Int) := by
    rw [hpn, hn, e, IntKind.wrap_i64]
    omega
  have e3 : 2 * p = ((2 ^ (j + 1) : Nat) : Int) := by rw [hpn, Nat.pow_succ]; omega
  have e4 : (n ^^^ 2 ^ j) / 2 ^ (j + 1) = n / 2 ^ (j + 1) := by
    rw [Nat.xor_div_two_pow, Nat.div_eq_of_lt (show 2 ^ j < 2 ^ (j + 1) by rw [Nat.pow_succ]; omega), Nat.xor_zero]
  refine ⟨?_, by rw [e2]; omega⟩
  rw [e2, e3, hn, ← Int.natCast_ediv, ← Int.natCast_ediv, e4]
def ivB (F T : Int) (a : Int) : Bool := decide (F ≤ a ∧ a ≤ T)
theorem cz_iv (F T s l : Int) : cz (ivB F T) s l = mx 0 (mn T (s + psz l - 1) - mx F s + 1) := by
  have z := psz_pos l
  by_cases c : mx F s ≤ mn T (s + psz l - 1)
  · have e1 : cz (ivB F T) s l = cz (fun a => decide (mx F s ≤ a ∧ a < mn T (s + psz l - 1) + 1)) s l := cz_congr (fun a h1 h2 => by
      unfold ivB
      rw [decide_eq_decide]
      unfold mx mn
      split <;> split <;> omega)
    have h1 : s ≤ mx F s := by unfold mx; split <;> omega
    have h3 : mn T (s + psz l - 1) + 1 ≤ s + psz l := by unfold mn; split <;> omega
    rw [e1, cz_seg h1 (by omega) h3]
    generalize mx F s = x at *
    generalize mn T (s + psz l - 1) = y at *
    unfold mx
    split <;> omega
  · have e1 : cz (ivB F T) s l = 0 := cz_zero.2 (fun a h1 h2 => by
      unfold ivB
      refine decide_eq_false (fun h => c ?_)
      unfold mx mn
      split <;> split <;> omega)
    rw [e1]
    generalize mx F s = x at *
    generalize mn T (s + psz l - 1) = y at *
    unfold mx
    split <;> omega
theorem cover_count {F T s l : Int} (hF : 0 ≤ F ∧ F ≤ 65535) (hT : 0 ≤ T ∧ T ≤ 65535) (p : Pok s l) : impl_Cover_1.f s l [T] [F] = some (cz (ivB F T) s l) := by
  obtain ⟨b0, b1, b2, b3, b4⟩ := p
  have z := psz_pos l
  have z2 := psz_le b0 b1
  have e1 : rd [T] 0 = T := rfl
  have e2 : rd [F] 0 = F := rfl
  have m1 : -70000 ≤ mn T (s + psz l - 1) ∧ mn T (s + psz l - 1) ≤ 200000 := by unfold mn; split <;> omega
  have m2 : 0 ≤ mx F s ∧ mx F s ≤ 70000 := by unfold mx; split <;> omega
  rw [cz_iv]
  unfold impl_Cover_1.f
  rw [if_pos (by simp), impl_Size s b0 b1]
  simp only [Option.bind_some]
  rw [if_pos (by simp), e1, e2, w64 (n := s + psz l) (by omega) (by omega), w64 (n := s + psz l - 1) (by omega) (by omega), w64 (n := mn T (s + psz l - 1) - mx F s) (by omega) (by omega), w64 (n := mn T (s + psz l - 1) - mx F s + 1) (by omega) (by omega)]
theorem short2_ok {F T : Int} (hF : 0 ≤ F ∧ F ≤ 65535) (hT : 0 ≤ T ∧ T ≤ 65535) : ∀ (d : Nat) (s l : Int) (acc : List S28) (k : Nat), l + d = 16 → Pok s l → (acc.length : Int) + psz l ≤ 1000000 → d < k →
    impl_shortest2.f k s l [T] [F] acc = some (acc ++ blk (ivB F T) d s l) := by
  intro d
  induction d with
  | zero =>
    intro s l acc k h p ha hk
    obtain ⟨k, rfl⟩ : ∃ m, k = m + 1 := ⟨k - 1, by omega⟩
    have p' := p
    obtain ⟨b0, b1, b2, b3, b4⟩ := p'
    have e1 : psz l = 1 := by
      have : l = 16 := by omega
      rw [this]; decide
    have zc := cz_le (ivB F T) s l
    simp only [impl_shortest2.f]
    rw [cover_count hF hT p]
    simp only [Option.bind_some]
    unfold blk
    by_cases c : cz (ivB F T) s l = 0
    · rw [if_pos c, if_pos c, List.append_nil]
    · rw [if_neg c, if_neg c, impl_Size s b0 b1]
      simp only [Option.bind_some]
      rw [if_pos (by omega), if_pos (by omega)]
  | succ d ih =>
    intro s l acc k h p ha hk
    obtain ⟨k, rfl⟩ : ∃ m, k = m + 1 := ⟨k - 1, by omega⟩
    have p' := p
    obtain ⟨b0, b1, b2, b3, b4⟩ := p'
    have zp := psz_pos l
    simp only [impl_shortest2.f]
    rw [cover_count hF hT p]
    simp only [Option.bind_some]
    unfold blk
    by_cases c : cz (ivB F T) s l = 0
    · rw [if_pos c, if_pos c, List.append_nil]
    · rw [if_neg c, if_neg c, impl_Size s b0 b1]
      simp only [Option.bind_some]
      by_cases c2 : cz (ivB F T) s l = psz l
      · rw [if_pos c2, if_pos c2, if_pos (by omega)]
      · have z2 := psz_half b0 (show l ≤ 15 by omega)
        have i1 := ih s (l + 1) acc k (by omega) (p.left (by omega)) (by omega) (by omega)
        have l1 := blk_len (ivB F T) d s (l + 1) (by omega) (by omega)
        have i2 := ih (s + psz (l + 1)) (l + 1) (acc ++ blk (ivB F T) d s (l + 1)) k (by omega) (p.right (by omega)) (by rw [List.length_append]; omega) (by omega)
        rw [if_neg c2, if_neg c2, halves_ok p (by omega)]
        simp only [Option.bind_some]
        rw [i1]
        simp only [Option.bind_some]
        rw [i2]
        simp only [Option.bind_some]
        rw [List.append_assoc]
theorem cover_ok (F T : Int) {d : Nat} (hd : d = 16) : ∃ r ok, (∀ k, 100 < k → impl_Cover.f k F T = some (r, ok)) ∧ (ok = true → (0 ≤ F ∧ F ≤ 65535) ∧ (0 ≤ T ∧ T ≤ 65535) ∧ F ≤ T ∧ r = blk (ivB F T) d 0 0) := by
  have e16 : psz 0 = 65536 := by decide
  by_cases c : ((0 ≤ F ∧ F ≤ 65535) ∧ (0 ≤ T ∧ T ≤ 65535)) ∧ F ≤ T
  · obtain ⟨⟨hF, hT⟩, hFT⟩ := c
    refine ⟨blk (ivB F T) d 0 0, true, fun k hk => ?_, fun _ => ⟨hF, hT, hFT, rfl⟩⟩
    have z := short2_ok hF hT d 0 0 [] k (by omega) top_ok.1 (by rw [e16, List.length_nil]; omega) (by omega)
    rw [List.nil_append] at z
    unfold impl_Cover.f
    rw [impl_Addr, impl_Addr, decide_eq_true hF, decide_eq_true hT]
    simp only [Option.bind_some, if_true]
    rw [if_neg (by omega), z]
    rfl
  · refine ⟨[], false, fun k hk => ?_, (fun h => by cases h)⟩
    unfold impl_Cover.f
    rw [impl_Addr, impl_Addr]
    simp only [Option.bind_some]
    by_cases hF : 0 ≤ F ∧ F ≤ 65535
    · rw [decide_eq_true hF, if_pos rfl]
      by_cases hT : 0 ≤ T ∧ T ≤ 65535
      · rw [decide_eq_true hT, if_pos rfl, if_pos (by omega)]
      · rw [decide_eq_false hT, if_neg (by decide)]
    · rw [decide_eq_false hF, if_neg (by decide)]
/-- The blocks of a range are few. -/
theorem iv_full {F T s l : Int} (h1 : F ≤ s) (h2 : s + psz l - 1 ≤ T) : cz (ivB F T) s l = psz l := cz_full.2 (fun a a0 a1 => decide_eq_true (by omega))
theorem iv_none {F T s l : Int} (h : s + psz l - 1 < F ∨ T < s) : cz (ivB F T) s l = 0 := cz_zero.2 (fun a a0 a1 => decide_eq_false (by omega))
theorem blk_one {B : Int → Bool} {d : Nat} {s l : Int} (hl : l + d = 16) (h : cz B s l = psz l) : (blk B d s l).length = 1 := by
  have z := psz_pos l
  cases d with
  | zero =>
    unfold blk
    rw [if_neg (by omega)]
    rfl
  | succ d =>
    unfold blk
    rw [if_neg (by omega), if_pos h]
    rfl
theorem blk_nil {B : Int → Bool} {d : Nat} {s l : Int} (h : cz B s l = 0) : (blk B d s l).length = 0 := by
  cases d with
  | zero =>
    unfold blk
    rw [if_pos h]
    rfl
  | succ d =>
    unfold blk
    rw [if_pos h]
    rfl
theorem blk_two {B : Int → Bool} {d : Nat} {s l : Int} : (blk B (d + 1) s l).length ≤ 1 ∨ (blk B (d + 1) s l).length = (blk B d s (l + 1)).length + (blk B d (s + psz (l + 1)) (l + 1)).length := by
  by_cases c0 : cz B s l = 0
  · rw [blk_nil c0]; exact .inl (by omega)
  · by_cases c1 : cz B s l = psz l
    · refine .inl ?_
      unfold blk
      rw [if_neg c0, if_pos c1]
      exact Nat.le_refl _
    · refine .inr ?_
      have e : blk B (d + 1) s l = blk B d s (l + 1) ++ blk B d (s + psz (l + 1)) (l + 1) := by
        show (if cz B s l = 0 then [] else if cz B s l = psz l then [⟨s, l⟩] else blk B d s (l + 1) ++ blk B d (s + psz (l + 1)) (l + 1)) = _
        rw [if_neg c0, if_neg c1]
      rw [e, List.length_append]
theorem blk_zero_le {B : Int → Bool} {s l : Int} : (blk B 0 s l).length ≤ 1 := by
  unfold blk
  split
  · exact Nat.zero_le _
  · exact Nat.le_refl _
theorem blk_right {F T : Int} : ∀ (d : Nat) (s l : Int), l + d = 16 → 0 ≤ l → s + psz l - 1 ≤ T → (blk (ivB F T) d s l).length ≤ d + 1 := by
  intro d
  induction d with
  | zero => exact fun s l _ _ _ => blk_zero_le
  | succ d ih =>
    intro s l hl h0 hT
    have hz := psz_half h0 (show l ≤ 15 by omega)
    have zp := psz_pos (l + 1)
    rcases blk_two (B := ivB F T) (d := d) (s := s) (l := l) with h | h
    · omega
    · rw [h]
      by_cases c : F ≤ s + psz (l + 1)
      · have i1 := ih s (l + 1) (by omega) (by omega) (by omega)
        rw [blk_one (by omega) (iv_full (s := s + psz (l + 1)) c (by omega))]
        omega
      · have i2 := ih (s + psz (l + 1)) (l + 1) (by omega) (by omega) (by omega)
        rw [blk_nil (iv_none (s := s) (.inl (by omega)))]
        omega
theorem blk_left {F T : Int} : ∀ (d : Nat) (s l : Int), l + d = 16 → 0 ≤ l → F ≤ s → (blk (ivB F T) d s l).length ≤ d + 1 := by
  intro d
  induction d with
  | zero => exact fun s l _ _ _ => blk_zero_le
  | succ d ih =>
    intro s l hl h0 hF
    have hz := psz_half h0 (show l ≤ 15 by omega)
    have zp := psz_pos (l + 1)
    rcases blk_two (B := ivB F T) (d := d) (s := s) (l := l) with h | h
    · omega
    · rw [h]
      by_cases c : s + psz (l + 1) - 1 ≤ T
      · have i2 := ih (s + psz (l + 1)) (l + 1) (by omega) (by omega) (by omega)
        rw [blk_one (by omega) (iv_full (s := s) hF c)]
        omega
      · have i1 := ih s (l + 1) (by omega) (by omega) hF
        rw [blk_nil (iv_none (s := s + psz (l + 1)) (.inr (by omega)))]
        omega
theorem blk_few {F T : Int} : ∀ (d : Nat) (s l : Int), l + d = 16 → 0 ≤ l → (blk (ivB F T) d s l).length ≤ 2 * d + 1 := by
  intro d
  induction d with
  | zero => exact fun s l _ _ => blk_zero_le
  | succ d ih =>
    intro s l hl h0
    have hz := psz_half h0 (show l ≤ 15 by omega)
    have zp := psz_pos (l + 1)
    rcases blk_two (B := ivB F T) (d := d) (s := s) (l := l) with h | h
    · omega
    · rw [h]
      by_cases c1 : T < s + psz (l + 1)
      · have i1 := ih s (l + 1) (by omega) (by omega)
        rw [blk_nil (iv_none (s := s + psz (l + 1)) (.inr c1))]
        omega
      · by_cases c2 : s + psz (l + 1) - 1 < F
        · have i2 := ih (s + psz (l + 1)) (l + 1) (by omega) (by omega)
          rw [blk_nil (iv_none (s := s) (.inl c2))]
          omega
        · have i1 := blk_right (F := F) (T := T) d s (l + 1) (by omega) (by omega) (by omega)
          have i2 := blk_left (F := F) (T := T) d (s + psz (l + 1)) (l + 1) (by omega) (by omega) (by omega)
          omega
theorem ex_bind {α β : Type} {o : Option α} {f : α → Option β} {Q : β → Prop} (a : α) (h : o = some a) (h2 : ∃ b, f a = some b ∧ Q b) : ∃ b, o.bind f = some b ∧ Q b := by
  obtain ⟨b, h3, h4⟩ := h2
  exact ⟨b, by rw [h]; exact h3, h4⟩
theorem ex_pos {β : Type} {p : Prop} [Decidable p] {x y : Option β} {Q : β → Prop} (h : p) (h2 : ∃ b, x = some b ∧ Q b) : ∃ b, (if p then x else y) = some b ∧ Q b := by
  rw [if_pos h]; exact h2
theorem ex_neg {β : Type} {p : Prop} [Decidable p] {x y : Option β} {Q : β → Prop} (h : ¬ p) (h2 : ∃ b, y = some b ∧ Q b) : ∃ b, (if p then x else y) = some b ∧ Q b := by
  rw [if_neg h]; exact h2
theorem size14 {l : List Int} (hl : l.length ≤ 1048576) : ∃ s, spec_l01Size.f l 14 = some s ∧ 0 < s ∧ s ≤ 14 := by
  unfold spec_l01Size.f
  rw [w64 (n := (l.length : Int) / 16) (by omega) (by omega), w64 (n := 2 + (l.length : Int) / 16) (by omega) (by omega)]
  by_cases c : 2 + (l.length : Int) / 16 > 14
  · rw [if_pos c]; exact ⟨_, rfl, by omega, by omega⟩
  · rw [if_neg c]; exact ⟨_, rfl, by omega, by omega⟩
theorem draw_prefix {b : List Int} (hb : b.length ≤ 1048576) {i : Int} (h : Int) (hi : 0 ≤ i) : ∃ n l i' h', spec_l01DrawPrefix.f b i h = some (n, l, i', h') ∧ 0 ≤ i' := by
  unfold spec_l01DrawPrefix.f
  obtain ⟨r1, i1, h1, e1, p1, a1, b1, -⟩ := below_ok b h hi hb 17
  have b1 := b1 (by omega)
  rw [e1, Option.bind_some]
  obtain ⟨r2, i2, h2, e2, p2, a2, b2, -⟩ := below_ok b h1 p1 hb 9
  have b2 := b2 (by omega)
  rw [e2, Option.bind_some]
  obtain ⟨r3, i3, h3, e3, p3, a3, b3, -⟩ := below_ok b h2 p2 hb 9
  have b3 := b3 (by omega)
  rw [e3, Option.bind_some]
  rw [w64 (n := 8 + r2) (by omega) (by omega), w64 (n := 8 + r3) (by omega) (by omega)]
  obtain ⟨r4, i4, h4, e4, p4, m4⟩ := pick_ok b h3 p3 hb (l := [0, 1, 4, 8, 12, 15, 16, r1, 8 + r2, 8 + r3]) (by simp)
  have m4' : 0 ≤ r4 ∧ r4 ≤ 16 := by
    simp only [List.mem_cons, List.not_mem_nil, or_false] at m4
    omega
  rw [e4, Option.bind_some]
  obtain ⟨r5, i5, h5, e5, p5, -⟩ := below_ok b h4 p4 hb 65536
  rw [e5, Option.bind_some]
  obtain ⟨r6, i6, h6, e6, p6, -⟩ := below_ok b h5 p5 hb 2048
  rw [e6, Option.bind_some]
  obtain ⟨r7, i7, h7, e7, p7, -⟩ := pick_ok b h6 p6 hb (l := [0, 2560, r5, r6]) (by simp)
  have z := psz_pos r4
  rw [e7, Option.bind_some, spec_Size m4'.1 m4'.2, Option.bind_some, if_neg (by omega)]
  obtain ⟨r8, i8, h8, e8, p8⟩ := once_ok b h7 p7 hb 30
  rw [e8, Option.bind_some]
  by_cases c : r8 = true
  · rw [if_pos c]
    obtain ⟨r9, i9, h9, e9, p9, -⟩ := below_ok b h8 p8 hb 3
    rw [e9, Option.bind_some]
    by_cases c0 : r9 = 0
    · rw [if_pos c0]
      obtain ⟨r10, i10, h10, e10, p10, -⟩ := pick_ok b h9 p9 hb (l := [-1, 17, 3]) (by simp)
      rw [e10, Option.bind_some]
      exact ⟨_, _, _, _, rfl, p10⟩
    · rw [if_neg c0]
      by_cases c1 : r9 = 1
      · rw [if_pos c1]
        obtain ⟨r10, i10, h10, e10, p10, -⟩ := pick_ok b h9 p9 hb (l := [-1, 65536, 1, 65535]) (by simp)
        rw [e10, Option.bind_some]
        exact ⟨_, _, _, _, rfl, p10⟩
      · rw [if_neg c1]
        by_cases c2 : r9 = 2
        · rw [if_pos c2]
          exact ⟨_, _, _, _, rfl, p9⟩
        · rw [if_neg c2]
          exact ⟨_, _, _, _, rfl, p9⟩
  · rw [if_neg c]
    exact ⟨_, _, _, _, rfl, p8⟩
theorem spec_sib (n l : Int) : ∃ a b ok, spec_Sibling.f n l = some (a, b, ok) := by
  unfold spec_Sibling.f
  rw [spec_Pok, Option.bind_some]
  by_cases c : Pok n l
  · rw [decide_eq_true c, if_pos rfl]
    by_cases c0 : l = 0
    · rw [if_pos c0]; exact ⟨_, _, _, rfl⟩
    · rw [if_neg c0, spec_Size c.1 c.2.1, Option.bind_some]; exact ⟨_, _, _, rfl⟩
  · rw [decide_eq_false c, if_neg (by decide)]; exact ⟨_, _, _, rfl⟩
theorem draw_loop {b : List Int} (hb : b.length ≤ 1048576) {n : Int} (hn : n ≤ 260) : ∀ (d i k : Nat) (s1 s2 : Int) (t : List S28), n ≤ (i : Int) + d → i ≤ 260 → 0 ≤ s1 → t.length ≤ 2 * i → d * 3 < k →
    ∃ out s1' s2', spec_l01DrawPrefixes.l0 k n t i b s1 s2 = some (out, s1', s2') ∧ out.length ≤ 2 * (i + d) := by
  intro d
  induction d with
  | zero =>
    intro i k s1 s2 t hi h2 hs ht hk
    obtain ⟨k, rfl⟩ : ∃ m, k = m + 1 := ⟨k - 1, by omega⟩
    simp only [spec_l01DrawPrefixes.l0]
    rw [if_neg (by omega)]
    exact ⟨_, _, _, rfl, by omega⟩
  | succ d ih =>
    intro i k s1 s2 t hi h2 hs ht hk
    obtain ⟨k, rfl⟩ : ∃ m, k = m + 3 := ⟨k - 3, by omega⟩
    by_cases c : (i : Int) < n
    · have nx : ∀ (s1 s2 : Int) (u : List S28), 0 ≤ s1 → u.length ≤ 2 * (i + 1) → ∃ out s1' s2', spec_l01DrawPrefixes.l0 k n u (wrap64 ((i : Int) + 1)) b s1 s2 = some (out, s1', s2') ∧ out.length ≤ 2 * (i + (d + 1)) := fun s1 s2 u hs hu => by
        rw [wr1 (by omega)]
        obtain ⟨o, s1', s2', q1, q2⟩ := ih (i + 1) k s1 s2 u (by omega) (by omega) hs hu (by omega)
        exact ⟨o, s1', s2', q1, by omega⟩
      have j2 : ∀ (s1 s2 x0 x1 : Int) (u : List S28), 0 ≤ s1 → u.length ≤ 2 * i + 1 → ∃ out s1' s2', spec_l01DrawPrefixes.j2 (k + 1) n u i b s1 s2 x0 x1 = some (out, s1', s2') ∧ out.length ≤ 2 * (i + (d + 1)) := fun s1 s2 x0 x1 u hs hu => by
        have sn : (u ++ [(⟨x0, x1⟩ : S28)]).length ≤ 2 * (i + 1) := by rw [List.length_append, List.length_singleton]; omega
        simp only [spec_l01DrawPrefixes.j2]
        rw [spec_Pok, Option.bind_some]
        by_cases c1 : Pok x0 x1
        · rw [decide_eq_true c1, if_pos rfl, if_pos (by omega)]
          exact nx _ _ _ hs sn
        · rw [decide_eq_false c1, if_neg (by decide)]
          obtain ⟨r, i1, h1, e1, p1⟩ := once_ok b s2 hs hb 20
          rw [e1, Option.bind_some]
          by_cases c2 : r = true
          · rw [if_pos c2, if_pos (by omega)]
            exact nx _ _ _ p1 sn
          · rw [if_neg c2]
            exact nx _ _ _ p1 (by omega)
      have j1 : ∀ (q : Bool) (s1 s2 x0 x1 y0 y1 : Int), 0 ≤ s1 → ∃ out s1' s2', spec_l01DrawPrefixes.j1 (k + 2) n t i q b s1 s2 x0 x1 y0 y1 = some (out, s1', s2') ∧ out.length ≤ 2 * (i + (d + 1)) := fun q s1 s2 x0 x1 y0 y1 hs => by
        simp only [spec_l01DrawPrefixes.j1]
        by_cases c1 : q = true
        · rw [if_pos c1, if_pos (by omega)]
          exact j2 _ _ _ _ _ hs (by rw [List.length_append, List.length_singleton]; omega)
        · rw [if_neg c1]
          exact j2 _ _ _ _ _ hs (by omega)
      obtain ⟨a0, a1, i1, h1, e1, p1⟩ := draw_prefix hb s2 hs
      obtain ⟨g0, g1, g2, e2⟩ := spec_sib a0 a1
      simp only [spec_l01DrawPrefixes.l0]
      rw [if_pos c, e1, Option.bind_some, e2, Option.bind_some]
      by_cases c1 : g2 = true
      · rw [if_pos c1]
        obtain ⟨r, i3, h3, e3, p3⟩ := once_ok b h1 p1 hb 3
        rw [e3, Option.bind_some]
        exact j1 _ _ _ _ _ _ _ p3
      · rw [if_neg c1]
        exact j1 _ _ _ _ _ _ _ p1
    · simp only [spec_l01DrawPrefixes.l0]
      rw [if_neg c]
      exact ⟨_, _, _, rfl, by omega⟩
theorem draw_agg {b : List Int} (hb : b.length ≤ 1048576) {k : Nat} (hk : 5000 < k) : ∃ t, spec_DrawAggregate.f k b = some t ∧ t.length ≤ 1000 := by
  obtain ⟨h0, n0⟩ := new_ok hb (k := k) (by omega)
  obtain ⟨r1, i1, h1, e1, p1⟩ := once_ok b h0 (Int.le_refl 0) hb 40
  unfold spec_DrawAggregate.f
  refine ex_bind _ n0 ?_
  refine ex_bind _ e1 ?_
  by_cases c : r1 = true
  · obtain ⟨o, s1, s2, q1, q2⟩ := draw_loop hb (n := 260) (by omega) 260 0 k i1 h1 [] (by omega) (by omega) p1 (by simp) (by omega)
    refine ex_pos c ?_
    refine ex_bind _ q1 ?_
    exact ⟨_, rfl, by dsimp only; omega⟩
  · refine ex_neg c ?_
    obtain ⟨m, z1, z2, z3⟩ := size14 hb
    refine ex_bind _ z1 ?_
    obtain ⟨r2, i2, h2, e2, p2, a2, b2, -⟩ := below_ok b h1 p1 hb m
    have b2 := b2 z2
    refine ex_bind _ e2 ?_
    obtain ⟨o, s1, s2, q1, q2⟩ := draw_loop hb (n := r2) (by omega) 14 0 k i2 h2 [] (by omega) (by omega) p2 (by simp) (by omega)
    refine ex_bind _ q1 ?_
    exact ⟨_, rfl, by dsimp only; omega⟩
theorem draw_addr {b : List Int} (hb : b.length ≤ 1048576) {i : Int} (h : Int) (hi : 0 ≤ i) : ∃ r i' h', spec_l01DrawAddr.f b i h = some (r, i', h') ∧ 0 ≤ i' := by
  unfold spec_l01DrawAddr.f
  obtain ⟨r1, i1, h1, e1, p1, -⟩ := below_ok b h hi hb 65536
  rw [e1, Option.bind_some]
  obtain ⟨r2, i2, h2, e2, p2, -⟩ := below_ok b h1 p1 hb 2048
  rw [e2, Option.bind_some]
  obtain ⟨r3, i3, h3, e3, p3, -⟩ := below_ok b h2 p2 hb 20
  rw [e3, Option.bind_some]
  obtain ⟨r4, i4, h4, e4, p4, -⟩ := pick_ok b h3 p3 hb (l := [0, 65535, r1, r2, wrap64 (2560 + r3), 65536, -1]) (by simp)
  rw [e4, Option.bind_some]
  exact ⟨_, _, _, rfl, p4⟩
theorem draw_cover {b : List Int} (hb : b.length ≤ 1048576) {k : Nat} (hk : 5000 < k) : ∃ F T, spec_DrawCover.f k b = some (F, T) := by
  obtain ⟨h0, n0⟩ := new_ok hb (k := k) (by omega)
  unfold spec_DrawCover.f
  rw [n0, Option.bind_some]
  obtain ⟨r1, i1, h1, e1, p1⟩ := draw_addr hb h0 (Int.le_refl 0)
  rw [e1, Option.bind_some]
  obtain ⟨r2, i2, h2, e2, p2, -⟩ := below_ok b h1 p1 hb 300
  rw [e2, Option.bind_some]
  obtain ⟨r3, i3, h3, e3, p3, -⟩ := below_ok b h2 p2 hb 300
  rw [e3, Option.bind_some]
  obtain ⟨r4, i4, h4, e4, p4⟩ := draw_addr hb h3 p3
  rw [e4, Option.bind_some]
  obtain ⟨r5, i5, h5, e5, p5, -⟩ := pick_ok b h4 p4 hb (l := [r1, wrap64 (r1 + r2), wrap64 (r1 + r3), r4, wrap64 (r1 - 1)]) (by simp)
  rw [e5, Option.bind_some]
  exact ⟨_, _, rfl⟩
theorem alt_ok {l : List Int} (hl : l.length ≤ 1048576) (a : Int) {k : Nat} (hk : 3001 < k) : ∃ o, laws_alt.f k l a = some o ∧ o.length ≤ 1048576 := by
  have key : ∀ (d i k : Nat) (t : List Int), i + d = 3000 → d < k → t.length ≤ i + 1 → ∃ o, laws_alt.l0 k l t i = some o ∧ o.length ≤ 1048576 := by
    intro d
    induction d with
    | zero =>
      intro i k t hi hk ht
      obtain ⟨k, rfl⟩ : ∃ m, k = m + 1 := ⟨k - 1, by omega⟩
      simp only [laws_alt.l0]
      rw [if_neg (c := (i : Int) < 3000) (by omega)]
      by_cases c : (i : Int) < (l.length : Int)
      · rw [if_pos c]; exact ⟨_, rfl, by omega⟩
      · rw [if_neg c]; exact ⟨_, rfl, by omega⟩
    | succ d ih =>
      intro i k t hi hk ht
      obtain ⟨k, rfl⟩ : ∃ m, k = m + 1 := ⟨k - 1, by omega⟩
      simp only [laws_alt.l0]
      rw [if_pos (c := (i : Int) < 3000) (by omega)]
      by_cases c : (i : Int) < (l.length : Int)
      · rw [if_pos c, if_pos (by omega), if_pos (by omega), wr1 (by omega)]
        exact ih (i + 1) k _ (by omega) (by omega) (by rw [List.length_append, List.length_singleton]; omega)
      · rw [if_neg c]; exact ⟨_, rfl, by omega⟩
  exact key 3000 0 k _ (by omega) (by omega) (by simp)
theorem same_ok {l : List S28} {k : Nat} (h : l.length ≤ 1048576) (hk : l.length < k) : laws_samePrefixes.f k l l = some true := by
  unfold laws_samePrefixes.f
  rw [if_pos rfl]
  refine same_loop (F := laws_samePrefixes.l0) (N := 1048576) ?_ ?_ l h l.length k 0 (by omega) hk
  · intro k i x hN hx
    simp only [laws_samePrefixes.l0]
    rw [if_pos (by omega), if_pos (by omega), if_pos (by omega), if_neg (by simp), w64 (by omega) (by omega)]
  · intro k x
    simp only [laws_samePrefixes.l0]
    rw [if_neg (by omega)]
theorem no_sib {B : Int → Bool} {q r : S28} (hq : InB B 0 0 q) (hr : InB B 0 0 r) (ha : apP r q) (hl : 0 < q.f1) : ¬ (Go.bits .xor .i64 q.f0 (psz q.f1) = r.f0 ∧ q.f1 = r.f1) := by
  rintro ⟨h1, h2⟩
  obtain ⟨⟨a0, a1, a2, a3, a4⟩, -, -, -, fq, nq⟩ := hq
  obtain ⟨⟨b0, b1, b2, b3, b4⟩, -, -, -, fr, nr⟩ := hr
  rw [← h2] at b4 fr
  unfold apP at ha
  rw [← h2] at ha
  have hz := psz_half (l := q.f1 - 1) (by omega) (by omega)
  rw [show q.f1 - 1 + 1 = q.f1 by omega] at hz
  have zp := psz_pos q.f1
  obtain ⟨x1, x2⟩ := xor_quot (a := q.f0) (p := psz q.f1) (16 - q.f1).toNat rfl (by omega) a2 (by omega)
  rw [h1] at x1 x2
  obtain ⟨p, hp⟩ : ∃ p, p = psz q.f1 := ⟨_, rfl⟩
  rw [← hp] at ha a4 fq b4 fr hz zp x1
  obtain ⟨m, hm⟩ : ∃ m, m = q.f0 / (2 * p) := ⟨_, rfl⟩
  have dq := Int.emod_add_mul_ediv q.f0 (2 * p)
  have dr := Int.emod_add_mul_ediv r.f0 (2 * p)
  have mq := Int.emod_nonneg q.f0 (show (2 * p) ≠ 0 by omega)
  have mr := Int.emod_nonneg r.f0 (show (2 * p) ≠ 0 by omega)
  have lq := Int.emod_lt_of_pos q.f0 (show 0 < 2 * p by omega)
  have lr := Int.emod_lt_of_pos r.f0 (show 0 < 2 * p by omega)
  rw [x1, ← hm] at dr
  rw [← hm] at dq
  obtain ⟨P, hP⟩ : ∃ P, P = 2 * p * m := ⟨_, rfl⟩
  rw [← hP] at dq dr
  have P1 : P % p = 0 := by rw [hP, Int.mul_comm 2 p, Int.mul_assoc]; exact Int.mul_emod_right _ _
  have P2 : P % (2 * p) = 0 := by rw [hP]; exact Int.mul_emod_right _ _
  have P3 : (P + p) % p = 0 := by rw [Int.add_emod_right]; exact P1
  have r1 := mult_le zp b4 P1 (by omega)
  have q1 := mult_le zp a4 P3 (by omega)
  have er : r.f0 = P := by omega
  have eq : q.f0 = P + p := by omega
  rw [er] at fr
  rw [eq] at fq
  have hh := cz_half B P (l := q.f1 - 1) (by omega) (by omega)
  rw [show q.f1 - 1 + 1 = q.f1 by omega, ← hp, fr, fq] at hh
  exact nq P (q.f1 - 1) (by omega) ⟨by omega, by omega, by omega, by omega, by rw [hz]; exact P2⟩ (by omega) (by omega) (by omega)
theorem covers_ok {a m s l : Int} (p : Pok a m) (q : Pok s l) : impl_CoversPrefix.f a m s l = some (decide (m ≤ l ∧ a ≤ s ∧ s < a + psz m)) := by
  unfold impl_CoversPrefix.f
  rw [impl_Pok, impl_Pok, decide_eq_true p, decide_eq_true q]
  simp only [Option.bind_some, if_true]
  rw [impl_cov p]
  rfl
theorem sib_pos {n l : Int} (p : Pok n l) (h : 0 < l) : impl_Sibling.f n l = some (Go.bits .xor .i64 n (psz l), l, true) := by
  unfold impl_Sibling.f
  rw [impl_Pok, decide_eq_true p, Option.bind_some, if_pos rfl, if_neg (by omega), impl_Size n p.1 p.2.1, Option.bind_some]
theorem sib_zero {n l : Int} (p : Pok n l) (h : ¬ 0 < l) : impl_Sibling.f n l = some (0, 0, false) := by
  have := p.1
  unfold impl_Sibling.f
  rw [impl_Pok, decide_eq_true p, Option.bind_some, if_pos rfl, if_pos (by omega)]
theorem in_loop {B : Int → Bool} {o li : List S28} {x0 : List Int} (ho : o.length ≤ 1000) (hI : ∀ q ∈ o, InB B 0 0 q) (hA : o.Pairwise apP) {i : Nat} (hi : i < o.length) (c : Int) : ∀ (d j k : Nat), j + d = i →
    laws_FnAggregate.l1 (k + d + 1) x0 li o c i j = laws_FnAggregate.l0 k x0 li o c ((i + 1 : Nat) : Int) := by
  intro d
  induction d with
  | zero =>
    intro j k hj
    simp only [laws_FnAggregate.l1]
    rw [if_neg (by omega), wn1 (by omega)]
  | succ d ih =>
    intro j k hj
    have z := ih (j + 1) k (by omega)
    obtain ⟨K, hK⟩ : ∃ K, K = k + d + 1 := ⟨_, rfl⟩
    rw [← hK] at z
    rw [show k + (d + 1) + 1 = K + 1 by omega]
    have hj2 : j < o.length := by omega
    have q1 := hI _ (List.getElem_mem hi)
    have r1 := hI _ (List.getElem_mem hj2)
    have ap := List.pairwise_iff_getElem.1 hA j i hj2 hi (by omega)
    have ns := no_sib q1 r1 ap
    have pq : Pok o[i].f0 o[i].f1 := q1.1
    have pr : Pok o[j].f0 o[j].f1 := r1.1
    have zq := psz_pos o[i].f1
    have zr := psz_pos o[j].f1
    unfold apP at ap
    have n1 : decide (o[i].f1 ≤ o[j].f1 ∧ o[i].f0 ≤ o[j].f0 ∧ o[j].f0 < o[i].f0 + psz o[i].f1) = false := decide_eq_false (by omega)
    have n2 : decide (o[j].f1 ≤ o[i].f1 ∧ o[j].f0 ≤ o[i].f0 ∧ o[i].f0 < o[j].f0 + psz o[j].f1) = false := decide_eq_false (by omega)
    simp only [laws_FnAggregate.l1]
    rw [if_pos (by omega), if_pos (by omega), if_pos (by omega), rdP_at hi, rdP_at hj2, covers_ok pq pr, covers_ok pr pq, n1, n2]
    by_cases cl : 0 < o[i].f1
    · have ns := ns cl
      rw [sib_pos pq cl, Option.bind_some, if_pos cl, if_pos (by omega), if_pos (by omega), if_neg (by
        rw [Bool.and_eq_true, beq_iff_eq, beq_iff_eq]
        exact ns), Option.bind_some, if_neg (by decide), Option.bind_some, if_neg (by decide), wn1 (by omega)]
      exact z
    · rw [sib_zero pq cl, Option.bind_some, if_neg cl, if_pos (by omega), if_pos (by omega), Option.bind_some, if_neg (by decide), Option.bind_some, if_neg (by decide), wn1 (by omega)]
      exact z
theorem out_loop {B : Int → Bool} {o li : List S28} {x0 : List Int} (ho : o.length ≤ 1000) (hI : ∀ q ∈ o, InB B 0 0 q) (hA : o.Pairwise apP) (hs : (o.map (fun q => psz q.f1)).sum ≤ 65536) {M C : Nat} (hM : o.length + 2 ≤ M) (hR : ∀ k', C ≤ k' → laws_FnAggregate.l0 k' x0 li o (o.map (fun q => psz q.f1)).sum o.length = some true) :
    ∀ (d i k : Nat) (c : Int), i + d = o.length → d * M + C ≤ k → 0 ≤ c → c + ((o.drop i).map (fun q => psz q.f1)).sum = (o.map (fun q => psz q.f1)).sum → laws_FnAggregate.l0 k x0 li o c i = some true := by
  intro d
  induction d with
  | zero =>
    intro i k c hi hk hc he
    rw [List.drop_of_length_le (by omega), List.map_nil, List.sum_nil, Int.add_zero] at he
    rw [he, show i = o.length by omega]
    exact hR k (by omega)
  | succ d ih =>
    intro i k c hi hk hc he
    have eM : (d + 1) * M = d * M + M := Nat.succ_mul _ _
    obtain ⟨k, rfl⟩ : ∃ m, k = m + 1 := ⟨k - 1, by omega⟩
    have hil : i < o.length := by omega
    have q1 := (hI _ (List.getElem_mem hil)).1
    have z := psz_pos o[i].f1
    have nn := sum_nn (o.drop (i + 1))
    rw [List.drop_eq_getElem_cons hil, List.map_cons, List.sum_cons] at he
    have il := in_loop (li := li) (x0 := x0) ho hI hA hil (c + psz o[i].f1) i 0 (k - (i + 1)) (by omega)
    rw [show k - (i + 1) + i + 1 = k by omega] at il
    have nx := ih (i + 1) (k - (i + 1)) (c + psz o[i].f1) (by omega) (by omega) (by omega) (by omega)
    have e0 : ((0 : Nat) : Int) = 0 := rfl
    rw [e0] at il
    have lo : (0 : Int) ≤ 16 - o[i].f1 := by have := q1.2.1; omega
    have b0 := q1.1
    have b1 := q1.2.1
    simp only [laws_FnAggregate.l0]
    rw [if_pos (by omega), if_pos (by omega), rdP_at hil, w64 (n := 16 - o[i].f1) (by omega) (by omega), u64w (by omega) (by omega), if_pos lo, shl_psz b0 b1, w64 (n := c + psz o[i].f1) (by omega) (by omega), il]
    exact nx
theorem j4_ok {x0 : List Int} (hx : x0.length ≤ 1048576) {k : Nat} (hk : 200000 < k) : laws_FnAggregate.j4 k x0 false = some true := by
  obtain ⟨k, rfl⟩ : ∃ m, k = m + 1 := ⟨k - 1, by omega⟩
  obtain ⟨u, u1, u2⟩ := alt_ok hx 1 (k := k) (by omega)
  obtain ⟨F, T, d1⟩ := draw_cover u2 (k := k) (by omega)
  obtain ⟨d, hd⟩ : ∃ d : Nat, d = 16 := ⟨_, rfl⟩
  obtain ⟨r, ok, c1, c2⟩ := cover_ok F T hd
  simp only [laws_FnAggregate.j4]
  rw [if_neg (by decide), u1, Option.bind_some, d1, Option.bind_some, c1 k (by omega), Option.bind_some]
  dsimp only
  cases ok with
  | false => rw [if_neg (by decide)]
  | true =>
    obtain ⟨hF, hT, hFT, hr⟩ := c2 rfl
    have few := blk_few (F := F) (T := T) d 0 0 (by omega) (by omega)
    rw [← hr] at few
    have bi := (blk_in (ivB F T) d 0 0 (by omega) top_ok.1 (top_ok.2 _)).1
    rw [← hr] at bi
    have same : Bof r = ivB F T := by
      rw [hr]
      refine blk_same (fun a ha => ?_) hd
      have := of_decide_eq_true ha
      omega
    have e16 : psz 0 = 65536 := by decide
    have cnt : cz (ivB F T) 0 0 = T - F + 1 := by
      rw [cz_iv, e16]
      unfold mx mn
      split <;> split <;> split <;> omega
    have a1 := impl_agg (l := r) (by omega) (fun q hq => (bi q hq).1) (k := k) (by omega)
    have a2 := impl_count (l := r) (by omega) (fun q hq => (bi q hq).1) (k := k) (by omega)
    rw [same, ← hd, ← hr] at a1
    rw [same, cnt] at a2
    rw [if_pos rfl, a1, Option.bind_some]
    dsimp only
    rw [a2, Option.bind_some, w64 (n := T - F) (by omega) (by omega), w64 (n := T - F + 1) (by omega) (by omega), if_pos rfl, same_ok (by omega) (by omega), Option.bind_some]
theorem FnAggregate : FnAggregate.Pure := by
  intro l hw
  obtain ⟨K, hK⟩ : ∃ K, K = 40000000 := ⟨_, rfl⟩
  refine ⟨K + 2, ?_⟩
  have big : laws_big.f l = some (decide ((l.length : Int) > 1048576)) := rfl
  unfold laws_FnAggregate.f
  rw [big, Option.bind_some]
  by_cases hl : (l.length : Int) > 1048576
  · rw [decide_eq_true hl, if_pos rfl]
  · rw [decide_eq_false hl, if_neg (by decide)]
    obtain ⟨t, t1, t2⟩ := draw_agg (b := l) (by omega) (k := K + 2) (by omega)
    rw [t1, Option.bind_some]
    obtain ⟨d, hd⟩ : ∃ d : Nat, d = 16 := ⟨_, rfl⟩
    by_cases c : t.length ≤ 300 ∧ ∀ q ∈ t, POk q
    · obtain ⟨c1, c2⟩ := c
      obtain ⟨M, m1, m2⟩ := marks_ok c1 c2
      have sp : spec_Aggregate.f (K + 2) t = some (blk (Bof t) d 0 0, true) := by
        unfold spec_Aggregate.f
        rw [m2 (K + 2) (by omega), Option.bind_some, if_pos rfl, spec_blocks m1 hd (K + 2) (by omega)]
        rfl
      have im : impl_Aggregate.f (K + 2) t = some (blk (Bof t) d 0 0, true) := by rw [hd]; exact impl_agg c1 c2 (by omega)
      have bl := blk_len (Bof t) d 0 0 (by omega) (by omega)
      have e16 : psz 0 = 65536 := by decide
      rw [e16] at bl
      obtain ⟨bi, bp⟩ := blk_in (Bof t) d 0 0 (by omega) top_ok.1 (top_ok.2 _)
      obtain ⟨s1, -⟩ := blk_sum (Bof t) d 0 0 (by omega) (by omega)
      have zc := cz_le (Bof t) 0 0
      have same := blk_same (B := Bof t) (fun a ha => Bof_range c2 a ha) hd
      have imc : ∀ k, 100000 < k → impl_CountAddrs.f k t = some (cz (Bof t) 0 0) := fun k hk => impl_count c1 c2 hk
      obtain ⟨o, ho⟩ : ∃ o, o = blk (Bof t) d 0 0 := ⟨_, rfl⟩
      have again : o.length ≤ 300 → ∀ k, 1000 < k → impl_Aggregate.f k o = some (o, true) := fun h k hk => by
        have z := impl_agg (l := o) h (fun q hq => (bi q (by rw [← ho]; exact hq)).1) hk
        have e : Bof o = Bof t := by rw [ho]; exact same
        rw [e, ← hd, ← ho] at z
        exact z
      rw [← ho] at sp im bl bi bp s1
      rw [sp, Option.bind_some, im, Option.bind_some]
      dsimp only
      rw [if_neg (by decide), same_ok (by omega) (by omega), Option.bind_some]
      show laws_FnAggregate.j0 (K + 2) l t true o false = some true
      simp only [laws_FnAggregate.j0]
      rw [if_neg (by decide), if_pos trivial]
      simp only [laws_FnAggregate.j1]
      by_cases cc : (o.length : Int) > 200
      · rw [decide_eq_true cc, if_pos rfl]
      · rw [decide_eq_false cc, if_neg (by decide)]
        have hx : l.length ≤ 1048576 := by omega
        refine out_loop (li := t) (x0 := l) (by omega) bi bp (by rw [e16] at zc; omega) (M := 300) (C := 300000) (by omega) (fun k' hk' => ?_) o.length 0 K 0 (by omega) (by omega) (by omega) (by rw [List.drop_zero, Int.zero_add])
        obtain ⟨k', rfl⟩ : ∃ m, k' = m + 1 := ⟨k' - 1, by omega⟩
        simp only [laws_FnAggregate.l0]
        rw [if_neg (by omega), again (by omega) k' (by omega), Option.bind_some]
        dsimp only
        rw [imc k' (by omega), Option.bind_some, s1, if_pos rfl, same_ok (by omega) (by omega), Option.bind_some]
        exact j4_ok hx (by omega)
    · have sp : spec_Aggregate.f (K + 2) t = some ([], false) := by
        unfold spec_Aggregate.f
        rw [marks_no c (by omega), Option.bind_some]
        rfl
      rw [sp, Option.bind_some, impl_agg_no c (by omega), Option.bind_some]
      dsimp only
      rw [if_neg (by decide), same_ok (by simp) (by simp), Option.bind_some]
      show laws_FnAggregate.j0 (K + 2) l t false [] false = some true
      simp only [laws_FnAggregate.j0]
      rw [if_neg (by decide), if_neg (by decide)]
      simp only [laws_FnAggregate.j1]
      rw [if_pos trivial]

end Go.Proofs.Ytjepmdngbafonaa.Pure
