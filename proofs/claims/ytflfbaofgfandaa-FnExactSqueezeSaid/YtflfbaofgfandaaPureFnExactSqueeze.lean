/- The plain law of FnExactSqueeze: the program's answer is the reference's. -/
import Derived.Test.YtflfbaofgfandaaStmtFnExactSqueeze
namespace Go.Proofs.Ytflfbaofgfandaa.Pure
open Go.RowKit Go.Proofs.Ytflfbaofgfandaa.QFnExactSqueeze Go.Proofs.YtflfbaofgfandaaQ.PrintWords Go.Proofs.YtflfbaofgfandaaQ.PrintLast Go.Proofs.YtflfbaofgfandaaQ.PrintMore
set_option linter.unusedVariables false
set_option linter.unusedSimpArgs false

theorem len17 {l : Int} (h0 : 0 ≤ l) (h1 : l ≤ 16) : l = 0 ∨ l = 1 ∨ l = 2 ∨ l = 3 ∨ l = 4 ∨ l = 5 ∨ l = 6 ∨ l = 7 ∨ l = 8 ∨ l = 9 ∨ l = 10 ∨ l = 11 ∨ l = 12 ∨ l = 13 ∨ l = 14 ∨ l = 15 ∨ l = 16 := by omega
/-- How many addresses a prefix of length l has. -/
def psz (l : Int) : Int := 2 ^ (16 - l).toNat
theorem psz_pos (l : Int) : 0 < psz l := Int.pow_pos (by decide)
theorem psz_le {l : Int} (h0 : 0 ≤ l) (h1 : l ≤ 16) : psz l ≤ 65536 := by
  rcases len17 h0 h1 with rfl | rfl | rfl | rfl | rfl | rfl | rfl | rfl | rfl | rfl | rfl | rfl | rfl | rfl | rfl | rfl | rfl <;> decide
theorem psz_half {l : Int} (h0 : 0 ≤ l) (h1 : l ≤ 15) : psz l = 2 * psz (l + 1) := by
  rcases len17 h0 (by omega) with rfl | rfl | rfl | rfl | rfl | rfl | rfl | rfl | rfl | rfl | rfl | rfl | rfl | rfl | rfl | rfl | rfl <;> first | decide | omega
theorem psz_top {l : Int} (h0 : 0 ≤ l) (h1 : l ≤ 16) : 65536 = psz l * 2 ^ l.toNat := by
  rcases len17 h0 h1 with rfl | rfl | rfl | rfl | rfl | rfl | rfl | rfl | rfl | rfl | rfl | rfl | rfl | rfl | rfl | rfl | rfl <;> decide
theorem w64 {n : Int} (h0 : -9223372036854775808 ≤ n) (h1 : n ≤ 9223372036854775807) : wrap64 n = n := by unfold wrap64; omega
theorem shl_psz {l : Int} (h0 : 0 ≤ l) (h1 : l ≤ 16) : shl .i64 1 (16 - l) = psz l := by
  rcases len17 h0 h1 with rfl | rfl | rfl | rfl | rfl | rfl | rfl | rfl | rfl | rfl | rfl | rfl | rfl | rfl | rfl | rfl | rfl <;> decide
theorem u64w {n : Int} (h0 : 0 ≤ n) (h1 : n ≤ 16) : IntKind.u64.wrap n = n := by
  rcases len17 h0 h1 with rfl | rfl | rfl | rfl | rfl | rfl | rfl | rfl | rfl | rfl | rfl | rfl | rfl | rfl | rfl | rfl | rfl <;> decide
/-- A valid prefix. -/
def Pok (n l : Int) : Prop := 0 ≤ l ∧ l ≤ 16 ∧ 0 ≤ n ∧ n ≤ 65535 ∧ n % psz l = 0
instance (n l : Int) : Decidable (Pok n l) := by unfold Pok; infer_instance
theorem Pok.top {n l : Int} (h : Pok n l) : n + psz l ≤ 65536 := by
  obtain ⟨h0, h1, h2, h3, h4⟩ := h
  have e := psz_top h0 h1
  have p := psz_pos l
  have d := Int.emod_add_mul_ediv n (psz l)
  rw [h4, Int.zero_add] at d
  have q : n / psz l < 2 ^ l.toNat := by
    apply Int.ediv_lt_of_lt_mul p
    rw [Int.mul_comm]; omega
  have m : psz l * (n / psz l + 1) ≤ psz l * 2 ^ l.toNat := Int.mul_le_mul_of_nonneg_left (by omega) (by omega)
  rw [Int.mul_add] at m
  omega
theorem spec_In (a b c : Int) : spec_l01In.f a b c = some (decide (b ≤ a ∧ a ≤ c)) := by
  unfold spec_l01In.f
  by_cases h : b ≤ a <;> simp [h]
theorem spec_Addr (a : Int) : spec_l01Addr.f a = some (decide (0 ≤ a ∧ a ≤ 65535)) := by
  unfold spec_l01Addr.f; rw [spec_In]; rfl
theorem spec_Size {l : Int} (h0 : 0 ≤ l) (h1 : l ≤ 16) : spec_l01Size2.f l = some (psz l) := by
  unfold spec_l01Size2.f
  rw [w64 (by omega) (by omega), u64w (by omega) (by omega), if_pos (by omega), shl_psz h0 h1]
theorem spec_Pok (n l : Int) : spec_PrefixOk.f n l = some (decide (Pok n l)) := by
  unfold spec_PrefixOk.f
  rw [spec_In, spec_Addr]
  simp only [Option.bind_some, decide_eq_true_eq]
  by_cases hl : 0 ≤ l ∧ l ≤ 16
  · rw [if_pos hl]
    by_cases hn : 0 ≤ n ∧ n ≤ 65535
    · rw [if_pos hn, spec_Size hl.1 hl.2]
      have p := psz_pos l
      simp only [Option.bind_some]
      rw [if_neg (by omega), Int.tmod_eq_emod_of_nonneg hn.1]
      congr 1
      by_cases e : n % psz l = 0
      · rw [e]; simp [Pok, hl, hn, e]
      · simp [Pok, hl, hn, e]
    · rw [if_neg hn]; congr 1; symm; rw [decide_eq_false_iff_not]; unfold Pok; omega
  · rw [if_neg hl]; congr 1; symm; rw [decide_eq_false_iff_not]; unfold Pok; omega
theorem impl_In (a b c : Int) : impl_within.f a b c = some (decide (b ≤ a ∧ a ≤ c)) := by
  unfold impl_within.f
  by_cases h : b ≤ a <;> simp [h]
theorem impl_Addr (a : Int) : impl_isAddr.f a = some (decide (0 ≤ a ∧ a ≤ 65535)) := by
  unfold impl_isAddr.f; rw [impl_In]; rfl
theorem impl_Size (n : Int) {l : Int} (h0 : 0 ≤ l) (h1 : l ≤ 16) : impl_Prefix_size.f n l = some (psz l) := by
  unfold impl_Prefix_size.f
  rw [w64 (by omega) (by omega), if_pos (by omega), shl_psz h0 h1]
theorem impl_Pok (n l : Int) : impl_PrefixOk.f n l = some (decide (Pok n l)) := by
  unfold impl_PrefixOk.f
  rw [impl_In, impl_Addr]
  simp only [Option.bind_some, decide_eq_true_eq]
  by_cases hl : 0 ≤ l ∧ l ≤ 16
  · rw [if_pos hl]
    by_cases hn : 0 ≤ n ∧ n ≤ 65535
    · rw [if_pos hn, impl_Size n hl.1 hl.2]
      have p := psz_pos l
      simp only [Option.bind_some]
      rw [if_neg (by omega), Int.tmod_eq_emod_of_nonneg hn.1]
      congr 1
      by_cases e : n % psz l = 0
      · rw [e]; simp [Pok, hl, hn, e]
      · simp [Pok, hl, hn, e]
    · rw [if_neg hn]; congr 1; symm; rw [decide_eq_false_iff_not]; unfold Pok; omega
  · rw [if_neg hl]; congr 1; symm; rw [decide_eq_false_iff_not]; unfold Pok; omega
/-- A loop that asks each index and ends at the first refusal. -/
theorem all_loop {F : Nat → Int → Option Bool} {n : Nat} {P : Nat → Prop} {e : Bool}
    (hs : ∀ (k i : Nat), i < n → (∀ j, j < i → P j) → (P i ∧ F (k + 1) i = F k ((i : Int) + 1)) ∨ (¬ P i ∧ F (k + 1) i = some false))
    (he : ∀ k : Nat, (∀ j, j < n → P j) → F (k + 1) n = some e) : ∀ (d k i : Nat), i + d = n → d < k → (∀ j, j < i → P j) →
    ∃ b, F k i = some b ∧ (b = true ↔ ((∀ j, j < n → P j) ∧ e = true)) := by
  intro d
  induction d with
  | zero =>
    intro k i hi hk hp
    obtain ⟨k, rfl⟩ : ∃ m, k = m + 1 := ⟨k - 1, by omega⟩
    obtain rfl : i = n := by omega
    exact ⟨e, he k hp, ⟨fun h => ⟨hp, h⟩, fun h => h.2⟩⟩
  | succ d ih =>
    intro k i hi hk hp
    obtain ⟨k, rfl⟩ : ∃ m, k = m + 1 := ⟨k - 1, by omega⟩
    rcases hs k i (by omega) hp with ⟨h1, h2⟩ | ⟨h1, h2⟩
    · have e1 : (i : Int) + 1 = ((i + 1 : Nat) : Int) := by omega
      rw [h2, e1]
      refine ih k (i + 1) (by omega) (by omega) (fun j hj => ?_)
      by_cases hji : j = i
      · rw [hji]; exact h1
      · exact hp j (by omega)
    · refine ⟨false, h2, ⟨(fun h => by cases h), fun h => absurd (h.1 i (by omega)) h1⟩⟩
/-- A loop that copies a list, element by element. -/
theorem copy_loop {α β : Type} {F : Nat → List α → List β → Int → Option (List β)} {cv : α → β} (z : α) {N : Nat}
    (hs : ∀ (k i : Nat) (x : List α) (y : List β), x.length ≤ N → i < x.length → i < y.length → F (k + 1) x y i = F k x (y.set i (cv (x.getD i z))) ((i : Int) + 1))
    (he : ∀ (k : Nat) (x : List α) (y : List β), F (k + 1) x y x.length = some y) (x : List α) (hN : x.length ≤ N) : ∀ (d k i : Nat) (y : List β), i + d = x.length → d < k → y.length = x.length →
    y.take i = (x.take i).map cv → F k x y i = some (x.map cv) := by
  intro d
  induction d with
  | zero =>
    intro k i y hi hk hl ht
    obtain ⟨k, rfl⟩ : ∃ m, k = m + 1 := ⟨k - 1, by omega⟩
    obtain rfl : i = x.length := by omega
    rw [he]
    rw [List.take_of_length_le (by omega), List.take_of_length_le (by omega)] at ht
    rw [ht]
  | succ d ih =>
    intro k i y hi hk hl ht
    obtain ⟨k, rfl⟩ : ∃ m, k = m + 1 := ⟨k - 1, by omega⟩
    have e1 : (i : Int) + 1 = ((i + 1 : Nat) : Int) := by omega
    rw [hs k i x y hN (by omega) (by omega), e1]
    refine ih k (i + 1) _ (by omega) (by omega) (by rw [List.length_set, hl]) ?_
    have hx : i < x.length := by omega
    have hy : i < y.length := by omega
    rw [List.take_succ_eq_append_getElem (by rw [List.length_set]; exact hy), List.take_succ_eq_append_getElem hx, List.map_append, List.take_set, ht]
    congr 1
    · rw [List.set_eq_of_length_le]
      simp; omega
    · simp [List.getD_eq_getElem?_getD, hx]
/-- Two equal lists, compared element by element. -/
theorem same_loop {α : Type} {F : Nat → List α → List α → Int → Option Bool} {N : Nat}
    (hs : ∀ (k i : Nat) (x : List α), x.length ≤ N → i < x.length → F (k + 1) x x i = F k x x ((i : Int) + 1))
    (he : ∀ (k : Nat) (x : List α), F (k + 1) x x x.length = some true) (x : List α) (hN : x.length ≤ N) : ∀ (d k i : Nat), i + d = x.length → d < k → F k x x i = some true := by
  intro d
  induction d with
  | zero =>
    intro k i hi hk
    obtain ⟨k, rfl⟩ : ∃ m, k = m + 1 := ⟨k - 1, by omega⟩
    obtain rfl : i = x.length := by omega
    exact he k x
  | succ d ih =>
    intro k i hi hk
    obtain ⟨k, rfl⟩ : ∃ m, k = m + 1 := ⟨k - 1, by omega⟩
    have e1 : (i : Int) + 1 = ((i + 1 : Nat) : Int) := by omega
    rw [hs k i x hN (by omega), e1]
    exact ih k (i + 1) (by omega) (by omega)
/-- The same where what stands behind the loop wants m rounds more. -/
theorem all_loopm (m : Nat) {F : Nat → Int → Option Bool} {n : Nat} {P : Nat → Prop} {e : Bool}
    (hs : ∀ (k i : Nat), i < n → (∀ j, j < i → P j) → (P i ∧ F (k + 1) i = F k ((i : Int) + 1)) ∨ (¬ P i ∧ F (k + 1) i = some false))
    (he : ∀ k : Nat, m ≤ k → (∀ j, j < n → P j) → F (k + 1) n = some e) : ∀ (d k i : Nat), i + d = n → d + m < k → (∀ j, j < i → P j) →
    ∃ b, F k i = some b ∧ (b = true ↔ ((∀ j, j < n → P j) ∧ e = true)) := by
  intro d
  induction d with
  | zero =>
    intro k i hi hk hp
    obtain ⟨k, rfl⟩ : ∃ m, k = m + 1 := ⟨k - 1, by omega⟩
    obtain rfl : i = n := by omega
    exact ⟨e, he k (by omega) hp, ⟨fun h => ⟨hp, h⟩, fun h => h.2⟩⟩
  | succ d ih =>
    intro k i hi hk hp
    obtain ⟨k, rfl⟩ : ∃ m, k = m + 1 := ⟨k - 1, by omega⟩
    rcases hs k i (by omega) hp with ⟨h1, h2⟩ | ⟨h1, h2⟩
    · have e1 : (i : Int) + 1 = ((i + 1 : Nat) : Int) := by omega
      rw [h2, e1]
      refine ih k (i + 1) (by omega) (by omega) (fun j hj => ?_)
      by_cases hji : j = i
      · rw [hji]; exact h1
      · exact hp j (by omega)
    · refine ⟨false, h2, ⟨(fun h => by cases h), fun h => absurd (h.1 i (by omega)) h1⟩⟩
/-- A loop that looks for something in a list, from an index on. -/
theorem find_loop {α ρ : Type} {F : Nat → Int → Option ρ} {h : List α → ρ} (t : List α)
    (hs : ∀ (k i : Nat), i < t.length → (F (k + 1) i = F k ((i : Int) + 1) ∧ h (t.drop i) = h (t.drop (i + 1))) ∨ F (k + 1) i = some (h (t.drop i)))
    (he : ∀ (k : Nat), F (k + 1) t.length = some (h [])) : ∀ (d k i : Nat), i + d = t.length → d < k → F k i = some (h (t.drop i)) := by
  intro d
  induction d with
  | zero =>
    intro k i hi hk
    obtain ⟨k, rfl⟩ : ∃ m, k = m + 1 := ⟨k - 1, by omega⟩
    obtain rfl : i = t.length := by omega
    rw [he, List.drop_length]
  | succ d ih =>
    intro k i hi hk
    obtain ⟨k, rfl⟩ : ∃ m, k = m + 1 := ⟨k - 1, by omega⟩
    rcases hs k i (by omega) with ⟨h1, h2⟩ | h1
    · have e1 : (i : Int) + 1 = ((i + 1 : Nat) : Int) := by omega
      rw [h1, e1, ih k (i + 1) (by omega) (by omega), h2]
    · exact h1
theorem drop_getD {α : Type} (t : List α) (z : α) {i : Nat} (hi : i < t.length) : t.drop i = t.getD i z :: t.drop (i + 1) := by
  rw [List.drop_eq_getElem_cons hi, List.getD_eq_getElem?_getD, List.getElem?_eq_getElem hi]; rfl
/-- slices.IndexFunc: the first place at which p holds. -/
theorem index_loop {α : Type} {F : Nat → Int → Option Int} {p : α → Bool} (z : α) (x : List α)
    (hs : ∀ (k i : Nat), i < x.length → F (k + 1) i = if p (x.getD i z) = true then some (i : Int) else F k ((i : Int) + 1))
    (he : ∀ k : Nat, F (k + 1) (x.length : Int) = some (-1)) : ∀ (d k i : Nat), i + d = x.length → d < k →
    (F k i = some (-1) ∧ ∀ q, i ≤ q → q < x.length → p (x.getD q z) = false) ∨ (∃ j : Nat, F k i = some (j : Int) ∧ i ≤ j ∧ j < x.length ∧ p (x.getD j z) = true ∧ ∀ q, i ≤ q → q < j → p (x.getD q z) = false) := by
  intro d
  induction d with
  | zero =>
    intro k i hi hk
    obtain ⟨k, rfl⟩ : ∃ m, k = m + 1 := ⟨k - 1, by omega⟩
    obtain rfl : i = x.length := by omega
    exact .inl ⟨he k, fun q h1 h2 => by omega⟩
  | succ d ih =>
    intro k i hi hk
    obtain ⟨k, rfl⟩ : ∃ m, k = m + 1 := ⟨k - 1, by omega⟩
    rw [hs k i (by omega)]
    by_cases c : p (x.getD i z) = true
    · exact .inr ⟨i, by rw [if_pos c], Nat.le_refl _, by omega, c, fun q h1 h2 => by omega⟩
    · have c' : p (x.getD i z) = false := by simpa using c
      have e1 : (i : Int) + 1 = ((i + 1 : Nat) : Int) := by omega
      rw [if_neg c, e1]
      have hq : ∀ q, i ≤ q → ¬ i + 1 ≤ q → p (x.getD q z) = false := fun q h1 h2 => by
        have : q = i := by omega
        rw [this]; exact c'
      rcases ih k (i + 1) (by omega) (by omega) with ⟨h1, h2⟩ | ⟨j, h1, h2, h3, h4, h5⟩
      · exact .inl ⟨h1, fun q q1 q2 => if c3 : i + 1 ≤ q then h2 q c3 q2 else hq q q1 c3⟩
      · exact .inr ⟨j, h1, by omega, h3, h4, fun q q1 q2 => if c3 : i + 1 ≤ q then h5 q c3 q2 else hq q q1 c3⟩
theorem drop_cons' {α : Type} (x : List α) (z : α) {j : Nat} (hj : j < x.length) : x.drop j = x.getD j z :: x.drop (j + 1) := by
  rw [List.drop_eq_getElem_cons hj, List.getD_eq_getElem?_getD, List.getElem?_eq_getElem hj]
  rfl
theorem take_snoc' {α : Type} (x : List α) (z : α) {j : Nat} (hj : j < x.length) : x.take (j + 1) = x.take j ++ [x.getD j z] := by
  rw [List.take_succ_eq_append_getElem hj, List.getD_eq_getElem?_getD, List.getElem?_eq_getElem hj]
  rfl
/-- slices.DeleteFunc's loop: what does not satisfy p moves to the front. -/
theorem del_loop {α : Type} {F : Nat → List α → Int → Int → Option (List α)} {p : α → Bool} (z : α) (n : Nat)
    (hs : ∀ (k : Nat) (x : List α) (i j : Nat), i < j → j < x.length → x.length = n → F (k + 1) x i j = if p (x.getD j z) = true then F k x i ((j : Int) + 1) else F k (x.set i (x.getD j z)) ((i : Int) + 1) ((j : Int) + 1))
    (he : ∀ (k : Nat) (x : List α) (i : Nat), i < n → x.length = n → F (k + 1) x i (n : Int) = some (x.take i)) : ∀ (d k : Nat) (x : List α) (i j : Nat), j + d = n → i < j → x.length = n → d < k →
    F k x i j = some (x.take i ++ (x.drop j).filter (fun y => !p y)) := by
  intro d
  induction d with
  | zero =>
    intro k x i j hj hi hx hk
    obtain ⟨k, rfl⟩ : ∃ m, k = m + 1 := ⟨k - 1, by omega⟩
    obtain rfl : j = n := by omega
    rw [he k x i (by omega) hx, List.drop_eq_nil_of_le (by omega)]
    simp
  | succ d ih =>
    intro k x i j hj hi hx hk
    obtain ⟨k, rfl⟩ : ∃ m, k = m + 1 := ⟨k - 1, by omega⟩
    have hjx : j < x.length := by omega
    have hix : i < x.length := by omega
    have e1 : (j : Int) + 1 = ((j + 1 : Nat) : Int) := by omega
    have e2 : (i : Int) + 1 = ((i + 1 : Nat) : Int) := by omega
    rw [hs k x i j hi hjx hx, e1, e2, drop_cons' x z hjx, List.filter_cons]
    by_cases c : p (x.getD j z) = true
    · rw [if_pos c, ih k x i (j + 1) (by omega) (by omega) hx (by omega), c]
      simp
    · have c' : p (x.getD j z) = false := by simpa using c
      rw [if_neg c, ih k (x.set i (x.getD j z)) (i + 1) (j + 1) (by omega) (by omega) (by rw [List.length_set]; exact hx) (by omega), c']
      have hset : i < (x.set i (x.getD j z)).length := by rw [List.length_set]; exact hix
      rw [take_snoc' _ z hset, List.drop_set_of_lt (by omega), List.take_set_of_le (Nat.le_refl _), List.getD_eq_getElem?_getD, List.getElem?_set, if_pos rfl, if_pos hix]
      simp
/-- The first place, and the rest filtered: the whole filtered. -/
theorem filter_at {α : Type} {p : α → Bool} (z : α) (x : List α) {j : Nat} (hj : j < x.length) (hp : p (x.getD j z) = true) (h : ∀ q, q < j → p (x.getD q z) = false) : x.take j ++ (x.drop (j + 1)).filter (fun y => !p y) = x.filter (fun y => !p y) := by
  have e1 : (x.take j).filter (fun y => !p y) = x.take j := by
    rw [List.filter_eq_self]
    intro y hy
    obtain ⟨q, hq, rfl⟩ := List.mem_iff_getElem.1 hy
    have hq2 : q < j := by rw [List.length_take] at hq; omega
    have := h q hq2
    rw [List.getD_eq_getElem?_getD, List.getElem?_eq_getElem (by omega)] at this
    rw [List.getElem_take]
    simpa using this
  have e2 : x = x.take j ++ (x.getD j z :: x.drop (j + 1)) := by
    rw [← drop_cons' x z hj, List.take_append_drop]
  have e3 : x.filter (fun y => !p y) = (x.take j).filter (fun y => !p y) ++ (x.getD j z :: x.drop (j + 1)).filter (fun y => !p y) := by
    rw [← List.filter_append, ← e2]
  rw [e3, e1, List.filter_cons, hp]
  simp
theorem filter_none {α : Type} {p : α → Bool} (z : α) (x : List α) (h : ∀ q, q < x.length → p (x.getD q z) = false) : x.filter (fun y => !p y) = x := by
  rw [List.filter_eq_self]
  intro y hy
  obtain ⟨q, hq, rfl⟩ := List.mem_iff_getElem.1 hy
  have := h q hq
  rw [List.getD_eq_getElem?_getD, List.getElem?_eq_getElem hq] at this
  simpa using this
/-- A loop that appends what satisfies q. -/
theorem keep_loop {α γ : Type} {F : Nat → Int → List α → Option γ} {q : α → Bool} (z : α) (x : List α) {N : Nat} {G : List α → Option γ} (m : Nat)
    (hs : ∀ (k i : Nat) (acc : List α), i < x.length → acc.length ≤ i → F (k + 1) i acc = F k ((i : Int) + 1) (if q (x.getD i z) = true then acc ++ [x.getD i z] else acc))
    (he : ∀ (k : Nat) (acc : List α), m ≤ k → acc.length ≤ x.length → F (k + 1) (x.length : Int) acc = G acc) : ∀ (d k i : Nat) (acc : List α), i + d = x.length → acc.length ≤ i → d + m < k → F k i acc = G (acc ++ (x.drop i).filter q) := by
  intro d
  induction d with
  | zero =>
    intro k i acc hi ha hk
    obtain ⟨k, rfl⟩ : ∃ m, k = m + 1 := ⟨k - 1, by omega⟩
    obtain rfl : i = x.length := by omega
    rw [he k acc (by omega) ha, List.drop_eq_nil_of_le (Nat.le_refl _)]
    simp
  | succ d ih =>
    intro k i acc hi ha hk
    obtain ⟨k, rfl⟩ : ∃ m, k = m + 1 := ⟨k - 1, by omega⟩
    have e1 : (i : Int) + 1 = ((i + 1 : Nat) : Int) := by omega
    have hix : i < x.length := by omega
    rw [hs k i acc hix ha, e1, drop_cons' x z hix, List.filter_cons]
    by_cases c : q (x.getD i z) = true
    · rw [if_pos c, if_pos c, ih k (i + 1) _ (by omega) (by rw [List.length_append]; simp only [List.length_cons, List.length_nil]; omega) (by omega)]
      simp
    · rw [if_neg c, if_neg c, ih k (i + 1) _ (by omega) (by omega) (by omega)]
/-- A route, of the laws' type and of the program's. -/
def cvR (x : S40) : S43 := ⟨⟨x.f0.f0, x.f0.f1⟩, x.f1⟩
theorem sz_Table {l : List S40} (h : l.length ≤ 9223372036854775807) : laws_szTable.f l 1048576 = some (if l.length ≤ 1048576 then 1048576 - (l.length : Int) else -1) := by
  unfold laws_szTable.f laws_szRouteS.f
  rw [w64 (by omega) (by omega)]
  by_cases hl : l.length ≤ 1048576
  · rw [if_neg (by omega), if_pos hl]
    simp only [Option.bind_some]
    rw [if_neg (by omega)]
  · rw [if_pos (by omega), if_neg hl]
    rfl
theorem to_RouteS {l : List S40} {k : Nat} (h : l.length ≤ 1048576) (hk : l.length < k) : laws_toRouteS.f k l = some (l.map cvR) := by
  unfold laws_toRouteS.f
  rw [if_pos (by omega), if_pos (by omega)]
  refine copy_loop (F := laws_toRouteS.l0) (cv := cvR) z40 (N := 1048576) ?_ ?_ l h l.length k 0 _ (by omega) hk (by simp) (by simp)
  · intro k i x y hN hx hy
    simp only [laws_toRouteS.l0]
    rw [if_pos (by omega), if_pos (by omega)]
    unfold laws_toRoute.f laws_toPrefix.f
    simp only [Option.bind_some]
    rw [if_pos (by omega), w64 (by omega) (by omega)]
    simp [rd_T40, cvR]
  · intro k x y
    simp only [laws_toRouteS.l0]
    rw [if_neg (by omega)]
theorem to_Table {l : List S40} {k : Nat} (h : l.length ≤ 1048576) (hk : l.length < k) : laws_toTable.f k l = some (l.map cvR) := by
  unfold laws_toTable.f
  rw [to_RouteS h hk]; rfl
theorem eq_RouteS {l : List S43} {k : Nat} (h : l.length ≤ 1048576) (hk : l.length < k) : laws_eqRouteS.f k l l = some true := by
  unfold laws_eqRouteS.f
  rw [if_pos rfl]
  refine same_loop (F := laws_eqRouteS.l0) (N := 1048576) ?_ ?_ l h l.length k 0 (by omega) hk
  · intro k i x hN hx
    simp only [laws_eqRouteS.l0]
    rw [if_pos (by omega), if_pos (by omega), if_pos (by omega)]
    unfold laws_eqRoute.f laws_eqPrefix.f
    simp only [if_true, Option.bind_some]
    rw [w64 (by omega) (by omega)]
  · intro k x
    simp only [laws_eqRouteS.l0]
    rw [if_neg (by omega)]
theorem eq_Table {l : List S43} {k : Nat} (h : l.length ≤ 1048576) (hk : l.length < k) : laws_eqTable.f k l l = some true := by
  unfold laws_eqTable.f
  rw [eq_RouteS h hk]; rfl
/-- Prefix a stands ahead of prefix b. -/
def Ahead (n l m k : Int) : Prop := n < m ∨ n = m ∧ l < k
theorem spec_Ahead (n l m k : Int) : ∃ b, spec_l02Ahead.f n l m k = some b ∧ (b = true ↔ Ahead n l m k) := by
  unfold spec_l02Ahead.f Ahead
  by_cases h : n < m
  · exact ⟨true, by rw [if_pos h], by simp [h]⟩
  · by_cases h2 : n = m
    · exact ⟨decide (l < k), by rw [if_neg h, if_pos h2], by simp [h2]⟩
    · exact ⟨false, by rw [if_neg h, if_neg h2], by simp [h, h2]⟩
theorem impl_Compare {n l m k : Int} (h1 : Pok n l) (h2 : Pok m k) : ∃ c, impl_comparePrefixes.f n l m k = some c ∧ (¬ c ≥ 0 ↔ Ahead n l m k) := by
  obtain ⟨a0, a1, a2, a3, _⟩ := h1
  obtain ⟨b0, b1, b2, b3, _⟩ := h2
  unfold impl_comparePrefixes.f Ahead
  by_cases h : n = m
  · refine ⟨l - k, by rw [if_pos h, w64 (by omega) (by omega)], by omega⟩
  · refine ⟨n - m, by rw [if_neg h, w64 (by omega) (by omega)], by omega⟩
/-- The route at an index is valid and stands behind the one ahead of it. -/
def Rat (t : List S43) (j : Nat) : Prop :=
  Pok (rd_T43 t j).f0.f0 (rd_T43 t j).f0.f1 ∧ (0 ≤ (rd_T43 t j).f1 ∧ (rd_T43 t j).f1 ≤ 999) ∧
    (0 < j → Ahead (rd_T43 t ((j : Int) - 1)).f0.f0 (rd_T43 t ((j : Int) - 1)).f0.f1 (rd_T43 t j).f0.f0 (rd_T43 t j).f0.f1)
theorem spec_tab {t : List S43} (h : t.length ≤ 1048576) {k : Nat} (hk : t.length < k) : ∃ b, spec_TableOk.l0 k 0 t = some b ∧ (b = true ↔ ∀ j, j < t.length → Rat t j) := by
  have x := all_loop (F := fun k i => spec_TableOk.l0 k i t) (n := t.length) (P := Rat t) (e := true) ?_ ?_ t.length k 0 (by omega) hk (fun j hj => by omega)
  · obtain ⟨b, h1, h2⟩ := x
    exact ⟨b, h1, by simpa using h2⟩
  · intro k i hi hp
    simp only [spec_TableOk.l0]
    rw [if_pos (by omega), if_pos (by omega), spec_Pok, spec_In]
    simp only [Option.bind_some, decide_eq_true_eq]
    by_cases c1 : Pok (rd_T43 t i).f0.f0 (rd_T43 t i).f0.f1
    · rw [if_pos c1]
      by_cases c2 : 0 ≤ (rd_T43 t i).f1 ∧ (rd_T43 t i).f1 ≤ 999
      · rw [if_pos c2]
        by_cases c3 : i = 0
        · subst c3
          rw [if_neg (by omega), w64 (by omega) (by omega)]
          exact .inl ⟨⟨c1, c2, fun h => by omega⟩, rfl⟩
        · rw [if_pos (by omega), w64 (n := (i : Int) - 1) (by omega) (by omega), if_pos (by omega), if_pos (by omega)]
          obtain ⟨b, hb, hb2⟩ := spec_Ahead (rd_T43 t ((i : Int) - 1)).f0.f0 (rd_T43 t ((i : Int) - 1)).f0.f1 (rd_T43 t i).f0.f0 (rd_T43 t i).f0.f1
          rw [hb]
          simp only [Option.bind_some]
          by_cases c4 : b = true
          · rw [if_pos c4, w64 (by omega) (by omega)]
            exact .inl ⟨⟨c1, c2, fun _ => hb2.1 c4⟩, rfl⟩
          · rw [if_neg c4]
            exact .inr ⟨fun h => c4 (hb2.2 (h.2.2 (by omega))), rfl⟩
      · rw [if_neg c2]
        exact .inr ⟨fun h => c2 h.2.1, rfl⟩
    · rw [if_neg c1]
      exact .inr ⟨fun h => c1 h.1, rfl⟩
  · intro k _
    simp only [spec_TableOk.l0]
    rw [if_neg (by omega)]
theorem impl_tab {t : List S43} (h : t.length ≤ 1048576) {k : Nat} (hk : t.length < k) : ∃ b, impl_TableOk.f k t = some b ∧ (b = true ↔ (∀ j, j < t.length → Rat t j) ∧ t.length ≤ 120) := by
  unfold impl_TableOk.f
  have x := all_loop (F := fun k i => impl_TableOk.l0 k t t.length i t) (n := t.length) (P := Rat t) (e := decide (t.length ≤ 120)) ?_ ?_ t.length k 0 (by omega) hk (fun j hj => by omega)
  · obtain ⟨b, h1, h2⟩ := x
    exact ⟨b, h1, by simpa using h2⟩
  · intro k i hi hp
    simp only [impl_TableOk.l0]
    unfold impl_isRoute.f
    rw [if_pos (by omega), if_pos (by omega), if_pos (by omega), impl_Pok, impl_In]
    simp only [Option.bind_some, decide_eq_true_eq]
    by_cases c1 : Pok (rd_T43 t i).f0.f0 (rd_T43 t i).f0.f1
    · rw [if_pos c1]
      simp only [Option.bind_some, decide_eq_true_eq]
      by_cases c2 : 0 ≤ (rd_T43 t i).f1 ∧ (rd_T43 t i).f1 ≤ 999
      · rw [if_pos c2]
        by_cases c3 : i = 0
        · subst c3
          rw [if_neg (by omega), w64 (by omega) (by omega)]
          exact .inl ⟨⟨c1, c2, fun h => by omega⟩, rfl⟩
        · rw [if_pos (by omega), w64 (n := (i : Int) - 1) (by omega) (by omega), if_pos (by omega), if_pos (by omega)]
          have e1 : (((i - 1 : Nat) : Int)) = (i : Int) - 1 := by omega
          have pv := (hp (i - 1) (by omega)).1
          rw [e1] at pv
          obtain ⟨b, hb, hb2⟩ := impl_Compare pv c1
          rw [hb]
          simp only [Option.bind_some]
          by_cases c4 : b ≥ 0
          · rw [if_pos c4]
            exact .inr ⟨fun h => hb2.2 (h.2.2 (by omega)) c4, rfl⟩
          · rw [if_neg c4, w64 (by omega) (by omega)]
            exact .inl ⟨⟨c1, c2, fun _ => hb2.1 c4⟩, rfl⟩
      · rw [if_neg c2]
        exact .inr ⟨fun h => c2 h.2.1, rfl⟩
    · rw [if_neg c1]
      simp only [Option.bind_some]
      exact .inr ⟨fun h => c1 h.1, rfl⟩
  · intro k _
    simp only [impl_TableOk.l0]
    rw [if_neg (by omega)]
    congr 1
    rw [decide_eq_decide]; omega
/-- A valid table. -/
def Tok (t : List S43) : Prop := (∀ j, j < t.length → Rat t j) ∧ t.length ≤ 120
theorem spec_Tok {t : List S43} (h : t.length ≤ 1048576) {k : Nat} (hk : t.length < k) : ∃ b, spec_TableOk.f k t = some b ∧ (b = true ↔ Tok t) := by
  unfold spec_TableOk.f Tok
  by_cases hl : (t.length : Int) > 120
  · exact ⟨false, by rw [if_pos hl], by simp; omega⟩
  · obtain ⟨b, h1, h2⟩ := spec_tab h hk
    exact ⟨b, by rw [if_neg hl, h1], by rw [h2]; exact ⟨fun x => ⟨x, by omega⟩, fun x => x.1⟩⟩
/-- A prefix holds an address. -/
def Phas (n l a : Int) : Prop := n ≤ a ∧ a ≤ n + psz l - 1
instance (n l a : Int) : Decidable (Phas n l a) := by unfold Phas; infer_instance
theorem spec_Has (n l a : Int) : spec_HasAddr.f n l a = some (decide (Pok n l ∧ Phas n l a)) := by
  unfold spec_HasAddr.f
  rw [spec_Pok]
  simp only [Option.bind_some, decide_eq_true_eq]
  by_cases h : Pok n l
  · have p := psz_pos l
    have p2 := psz_le h.1 h.2.1
    have h3 := h
    unfold Pok at h3
    rw [if_pos h, spec_Size h.1 h.2.1]
    simp only [Option.bind_some]
    rw [w64 (n := n + psz l) (by omega) (by omega), w64 (by omega) (by omega), spec_In]
    simp [h, Phas]
  · simp [h]
theorem impl_has {n l : Int} (h : Pok n l) (a : Int) : impl_Prefix_has.f n l a = some (decide (Phas n l a)) := by
  have p := psz_pos l
  have p2 := psz_le h.1 h.2.1
  have h3 := h
  unfold Pok at h3
  unfold impl_Prefix_has.f
  rw [impl_Size n h.1 h.2.1]
  simp only [Option.bind_some]
  rw [w64 (n := n + psz l) (by omega) (by omega), w64 (by omega) (by omega), impl_In]
  rfl
/-- A loop that carries a state over a list. -/
theorem fold_loop {σ α ρ : Type} {F : Nat → σ → Int → Option ρ} {g : σ → α → σ} {out : σ → ρ} (t : List α) (z : α)
    (hs : ∀ (k i : Nat) (s : σ), i < t.length → F (k + 1) s i = F k (g s (t.getD i z)) ((i : Int) + 1))
    (he : ∀ (k : Nat) (s : σ), F (k + 1) s t.length = some (out s)) : ∀ (d k i : Nat) (s : σ), i + d = t.length → d < k → F k s i = some (out ((t.drop i).foldl g s)) := by
  intro d
  induction d with
  | zero =>
    intro k i s hi hk
    obtain ⟨k, rfl⟩ : ∃ m, k = m + 1 := ⟨k - 1, by omega⟩
    obtain rfl : i = t.length := by omega
    rw [he, List.drop_length]; rfl
  | succ d ih =>
    intro k i s hi hk
    obtain ⟨k, rfl⟩ : ∃ m, k = m + 1 := ⟨k - 1, by omega⟩
    have e1 : (i : Int) + 1 = ((i + 1 : Nat) : Int) := by omega
    rw [hs k i s (by omega), e1, ih k (i + 1) _ (by omega) (by omega)]
    have hil : i < t.length := by omega
    rw [List.drop_eq_getElem_cons hil, List.foldl_cons, List.getD_eq_getElem?_getD, List.getElem?_eq_getElem hil]
    rfl
/-- One route more: the longer prefix that holds the address wins, the earlier of two. -/
def bstep (a : Int) (s : Bool × Int × Int × Int) (r : S43) : Bool × Int × Int × Int :=
  if Phas r.f0.f0 r.f0.f1 a then (if s.1 = true then (if r.f0.f1 > s.2.2.1 then (true, r.f0.f0, r.f0.f1, r.f1) else s) else (true, r.f0.f0, r.f0.f1, r.f1)) else s
def bestOf (a : Int) (t : List S43) : Bool × Int × Int × Int := t.foldl (bstep a) (false, 0, 0, 0)
def bout (s : Bool × Int × Int × Int) : Int × Int × Int × Bool := (s.2.1, s.2.2.1, s.2.2.2, s.1)
theorem rd_get (t : List S43) (i : Nat) : rd_T43 t i = t.getD i z43 := by simp [rd_T43]
theorem spec_best {t : List S43} (h : t.length ≤ 1048576) (ht : ∀ j, j < t.length → Rat t j) (a : Int) {k : Nat} (hk : t.length < k) :
    spec_BestRoute.l0 k a false 0 t 0 0 0 = some (bout (bestOf a t)) := by
  have x := fold_loop (F := fun k (s : Bool × Int × Int × Int) i => spec_BestRoute.l0 k a s.1 i t s.2.1 s.2.2.1 s.2.2.2) (g := bstep a) (out := bout) t z43 ?_ ?_ t.length k 0 (false, 0, 0, 0) (by omega) hk
  · exact x
  · intro k i s hi
    have hr := (ht i hi).1
    simp only [spec_BestRoute.l0]
    rw [if_pos (by omega), if_pos (by omega), spec_Has, w64 (by omega) (by omega), ← rd_get]
    unfold bstep
    simp only [Option.bind_some, decide_eq_true_eq, hr, true_and]
    by_cases c1 : Phas (rd_T43 t i).f0.f0 (rd_T43 t i).f0.f1 a
    · rw [if_pos c1, if_pos c1]
      by_cases c2 : s.1 = true
      · rw [if_pos c2, if_pos c2]
        by_cases c3 : (rd_T43 t i).f0.f1 > s.2.2.1
        · rw [if_pos c3, if_pos c3]
        · rw [if_neg c3, if_neg c3]
      · rw [if_neg c2, if_neg c2]
    · rw [if_neg c1, if_neg c1]
  · intro k s
    simp only [spec_BestRoute.l0]
    rw [if_neg (by omega)]
    rfl
theorem impl_bestl {t : List S43} (h : t.length ≤ 1048576) (ht : ∀ j, j < t.length → Rat t j) (a : Int) {k : Nat} (hk : t.length < k) :
    impl_best.f k t a = some (bout (bestOf a t)) := by
  have x := fold_loop (F := fun k (s : Bool × Int × Int × Int) i => impl_best.l0 k a s.1 t t.length i s.2.1 s.2.2.1 s.2.2.2) (g := bstep a) (out := bout) t z43 ?_ ?_ t.length k 0 (false, 0, 0, 0) (by omega) hk
  · exact x
  · intro k i s hi
    have hr := (ht i hi).1
    simp only [impl_best.l0]
    rw [if_pos (by omega), if_pos (by omega), if_pos (by omega), impl_has hr, w64 (by omega) (by omega), ← rd_get]
    unfold bstep
    simp only [Option.bind_some, decide_eq_true_eq]
    by_cases c1 : Phas (rd_T43 t i).f0.f0 (rd_T43 t i).f0.f1 a
    · rw [if_pos c1, if_pos c1]
      by_cases c2 : s.1 = true
      · rw [if_pos c2, if_pos c2]
        by_cases c3 : (rd_T43 t i).f0.f1 > s.2.2.1
        · rw [if_pos c3, if_pos c3]
        · rw [if_neg c3, if_neg c3]
      · rw [if_neg c2, if_neg c2]
    · rw [if_neg c1, if_neg c1]
  · intro k s
    simp only [impl_best.l0]
    rw [if_neg (by omega)]
    rfl
open Classical in
/-- What BestRoute answers. -/
noncomputable def bestAns (t : List S43) (a : Int) : Int × Int × Int × Bool := if Tok t ∧ 0 ≤ a ∧ a ≤ 65535 then bout (bestOf a t) else (0, 0, 0, false)
theorem spec_Best {t : List S43} (h : t.length ≤ 1048576) (a : Int) {k : Nat} (hk : t.length + 1 < k) : spec_BestRoute.f k t a = some (bestAns t a) := by
  obtain ⟨k, rfl⟩ : ∃ m, k = m + 1 := ⟨k - 1, by omega⟩
  obtain ⟨b, h1, h2⟩ := spec_Tok h (k := k + 1) (by omega)
  unfold spec_BestRoute.f bestAns
  rw [h1, spec_Addr]
  simp only [Option.bind_some]
  by_cases c : b = true
  · have ht := h2.1 c
    rw [if_pos c]
    by_cases ca : 0 ≤ a ∧ a ≤ 65535
    · rw [decide_eq_true ca]
      simp only [Bool.not_true, spec_BestRoute.j0]
      rw [if_neg (by decide), spec_best h ht.1 a (by omega), if_pos ⟨ht, ca⟩]
    · rw [if_neg (fun h => ca h.2)]
      simp only [ca, decide_false, Bool.not_false, spec_BestRoute.j0]
      rfl
  · rw [if_neg c, if_neg (fun h => c (h2.2 h.1))]
    simp only [spec_BestRoute.j0]
    rw [if_pos trivial]
theorem psz_split {m l : Int} (h0 : 0 ≤ m) (h1 : m ≤ l) (h2 : l ≤ 16) : psz m = psz l * 2 ^ (l - m).toNat := by
  unfold psz
  rw [← Int.pow_add]
  congr 1
  omega
theorem psz_mod {a m l : Int} (h0 : 0 ≤ m) (h1 : m ≤ l) (h2 : l ≤ 16) (h : a % psz m = 0) : a % psz l = 0 := by
  rw [psz_split h0 h1 h2] at h
  have d := Int.emod_add_mul_ediv a (psz l * 2 ^ (l - m).toNat)
  rw [h, Int.zero_add, Int.mul_assoc] at d
  rw [← d]
  exact Int.mul_emod_right _ _
theorem mult_le {a b z : Int} (hz : 0 < z) (ha : a % z = 0) (hb : b % z = 0) (h : a < b + z) : a ≤ b := by
  have da := Int.emod_add_mul_ediv a z
  have db := Int.emod_add_mul_ediv b z
  rw [ha, Int.zero_add] at da
  rw [hb, Int.zero_add] at db
  have h2 : z * (a / z) < z * (b / z + 1) := by
    rw [Int.mul_add, da, db]
    omega
  have h3 : a / z < b / z + 1 := Int.lt_of_mul_lt_mul_left h2 (Int.le_of_lt hz)
  have h4 : z * (a / z) ≤ z * (b / z) := Int.mul_le_mul_of_nonneg_left (by omega) (Int.le_of_lt hz)
  rw [da, db] at h4
  exact h4
/-- Whether a route has the prefix (a, b). -/
def isR (a b : Int) (r : S43) : Bool := decide (r.f0.f0 = a ∧ r.f0.f1 = b)
theorem rd_natR {x : List S43} {i : Nat} (h : i < x.length) : rd_T43 x (i : Int) = x[i] := by
  simp [rd_T43, List.getD_eq_getElem?_getD, List.getElem?_eq_getElem h]
theorem tok_asc {t : List S43} (h : ∀ j, j < t.length → Rat t j) : ∀ (j i : Nat), i < j → j < t.length → Ahead (rd_T43 t (i : Int)).f0.f0 (rd_T43 t (i : Int)).f0.f1 (rd_T43 t (j : Int)).f0.f0 (rd_T43 t (j : Int)).f0.f1 := by
  intro j
  induction j with
  | zero => intro i hi; omega
  | succ j ih =>
    intro i hi hj
    have x := (h (j + 1) hj).2.2 (by omega)
    have e : ((j + 1 : Nat) : Int) - 1 = (j : Int) := by omega
    rw [e] at x
    by_cases c : i = j
    · subst c; exact x
    · have y := ih i (by omega) (by omega)
      unfold Ahead at x y ⊢
      omega
/-- A route of a prefix stands at one place: without it the list is short of that place. -/
theorem drop_one {t : List S43} (h : ∀ j, j < t.length → Rat t j) {a b : Int} {j : Nat} (hj : j < t.length) (hp : isR a b (rd_T43 t (j : Int)) = true) : t.filter (fun r => !isR a b r) = t.eraseIdx j := by
  have hp' := of_decide_eq_true hp
  have others : ∀ q, q < t.length → q ≠ j → isR a b (rd_T43 t (q : Int)) = false := fun q hq hne => by
    refine decide_eq_false (fun e => ?_)
    rcases Nat.lt_or_gt_of_ne hne with c | c
    · have := tok_asc h j q c hj
      unfold Ahead at this
      omega
    · have := tok_asc h q j c hq
      unfold Ahead at this
      omega
  have gd : ∀ q, q < t.length → t.getD q z43 = rd_T43 t (q : Int) := fun q hq => by
    rw [rd_natR hq, List.getD_eq_getElem?_getD, List.getElem?_eq_getElem hq]
    rfl
  have e := filter_at (p := isR a b) z43 t hj (by rw [gd j hj]; exact hp) (fun q hq => by rw [gd q (by omega)]; exact others q (by omega) (by omega))
  have e2 : (t.drop (j + 1)).filter (fun y => !isR a b y) = t.drop (j + 1) := by
    rw [List.filter_eq_self]
    intro y hy
    obtain ⟨q, hq, rfl⟩ := List.mem_iff_getElem.1 hy
    rw [List.length_drop] at hq
    have z := others (j + 1 + q) (by omega) (by omega)
    rw [rd_natR (by omega)] at z
    rw [List.getElem_drop, z]
    rfl
  rw [e2] at e
  rw [← e, List.eraseIdx_eq_take_drop_succ]
theorem drop_none {t : List S43} {a b : Int} (h : ∀ q : Nat, q < t.length → isR a b (rd_T43 t (q : Int)) = false) : t.filter (fun r => !isR a b r) = t := by
  refine filter_none (p := isR a b) z43 t (fun q hq => ?_)
  have z := h q hq
  rw [rd_natR hq] at z
  rw [List.getD_eq_getElem?_getD, List.getElem?_eq_getElem hq]
  exact z
theorem wr1 {i : Nat} (h : i ≤ 1048576) : wrap64 ((i : Int) + 1) = ((i + 1 : Nat) : Int) := by rw [w64 (by omega) (by omega)]; omega
theorem spec_less {t : List S43} (h : t.length ≤ 1048576) (a b : Int) {k : Nat} (hk : t.length < k) : spec_l02Less.f k t a b = some (t.filter (fun r => !isR a b r)) := by
  have key : ∀ (d i k : Nat) (acc : List S43), i + d = t.length → d < k → acc.length ≤ i → spec_l02Less.l0 k i t a b acc = some (acc ++ (t.drop i).filter (fun r => !isR a b r)) := by
    intro d
    induction d with
    | zero =>
      intro i k acc hi hk ha
      obtain ⟨k, rfl⟩ : ∃ m, k = m + 1 := ⟨k - 1, by omega⟩
      simp only [spec_l02Less.l0]
      rw [if_neg (by omega), List.drop_eq_nil_of_le (by omega)]
      simp
    | succ d ih =>
      intro i k acc hi hk ha
      obtain ⟨k, rfl⟩ : ∃ m, k = m + 1 := ⟨k - 1, by omega⟩
      have hil : i < t.length := by omega
      have er : rd_T43 t (i : Int) = t[i] := rd_natR hil
      have ed : t.drop i = t[i] :: t.drop (i + 1) := List.drop_eq_getElem_cons hil
      simp only [spec_l02Less.l0]
      rw [if_pos (by omega), if_pos (by omega), wr1 (by omega), er, ed, List.filter_cons]
      by_cases c : isR a b t[i] = true
      · have c' := of_decide_eq_true c
        have e : (!(t[i].f0.f0 == a) || !(t[i].f0.f1 == b)) = false := by rw [c'.1, c'.2]; simp
        rw [e, if_neg (by decide), c, ih (i + 1) k acc (by omega) (by omega) (by omega)]
        rfl
      · have c' : isR a b t[i] = false := by simpa using c
        have c2 := of_decide_eq_false c'
        have e : (!(t[i].f0.f0 == a) || !(t[i].f0.f1 == b)) = true := by
          by_cases c3 : t[i].f0.f0 = a
          · have c4 : ¬ t[i].f0.f1 = b := fun c4 => c2 ⟨c3, c4⟩
            simp [c4]
          · simp [c3]
        rw [e, if_pos rfl, if_pos (by omega), c', ih (i + 1) k (acc ++ [t[i]]) (by omega) (by omega) (by rw [List.length_append, List.length_singleton]; omega), List.append_assoc]
        rfl
  have z := key t.length 0 k [] (by omega) (by omega) (Nat.le_refl _)
  unfold spec_l02Less.f
  rw [List.drop_zero, List.nil_append] at z
  exact z
theorem spec_copy {t : List S43} (h : t.length ≤ 1048576) {k : Nat} (hk : t.length < k) : spec_l02Copy.f k t = some t := by
  have key : ∀ (d i k : Nat) (acc : List S43), i + d = t.length → d < k → acc.length ≤ i → spec_l02Copy.l0 k i t acc = some (acc ++ t.drop i) := by
    intro d
    induction d with
    | zero =>
      intro i k acc hi hk ha
      obtain ⟨k, rfl⟩ : ∃ m, k = m + 1 := ⟨k - 1, by omega⟩
      simp only [spec_l02Copy.l0]
      rw [if_neg (by omega), List.drop_eq_nil_of_le (by omega), List.append_nil]
    | succ d ih =>
      intro i k acc hi hk ha
      obtain ⟨k, rfl⟩ : ∃ m, k = m + 1 := ⟨k - 1, by omega⟩
      have hil : i < t.length := by omega
      have er : rd_T43 t (i : Int) = t[i] := rd_natR hil
      have ed : t.drop i = t[i] :: t.drop (i + 1) := List.drop_eq_getElem_cons hil
      simp only [spec_l02Copy.l0]
      rw [if_pos (by omega), if_pos (by omega), if_pos (by omega), wr1 (by omega), er, ed, ih (i + 1) k (acc ++ [t[i]]) (by omega) (by omega) (by rw [List.length_append, List.length_singleton]; omega), List.append_assoc]
      rfl
  have z := key t.length 0 k [] (by omega) (by omega) (Nat.le_refl _)
  unfold spec_l02Copy.f
  rw [List.drop_zero, List.nil_append] at z
  exact z
def VR (r : S43) : Prop := Pok r.f0.f0 r.f0.f1 ∧ 0 ≤ r.f1 ∧ r.f1 ≤ 999
def AR (r s : S43) : Prop := Ahead r.f0.f0 r.f0.f1 s.f0.f0 s.f0.f1
def Has (r : S43) (a : Int) : Prop := Phas r.f0.f0 r.f0.f1 a
instance (r : S43) (a : Int) : Decidable (Has r a) := by unfold Has; infer_instance
theorem Tok_iff {t : List S43} : Tok t ↔ (∀ r ∈ t, VR r) ∧ t.Pairwise AR ∧ t.length ≤ 120 := by
  constructor
  · intro h
    refine ⟨fun r hr => ?_, ?_, h.2⟩
    · obtain ⟨i, hi, rfl⟩ := List.mem_iff_getElem.1 hr
      have z := h.1 i hi
      unfold Rat at z
      rw [rd_natR hi] at z
      exact ⟨z.1, z.2.1.1, z.2.1.2⟩
    · rw [List.pairwise_iff_getElem]
      intro i j hi hj hij
      have z := tok_asc h.1 j i hij hj
      rw [rd_natR hi, rd_natR hj] at z
      exact z
  · rintro ⟨h1, h2, h3⟩
    refine ⟨fun j hj => ?_, h3⟩
    have v := h1 _ (List.getElem_mem hj)
    unfold Rat
    rw [rd_natR hj]
    refine ⟨v.1, ⟨v.2.1, v.2.2⟩, fun h0 => ?_⟩
    have e : (j : Int) - 1 = ((j - 1 : Nat) : Int) := by omega
    rw [e, rd_natR (show j - 1 < t.length by omega)]
    exact List.pairwise_iff_getElem.1 h2 (j - 1) j (by omega) hj (by omega)
theorem Tok.sub {t u : List S43} (h : Tok t) (hs : u.Sublist t) : Tok u := by
  have z := Tok_iff.1 h
  exact Tok_iff.2 ⟨fun r hr => z.1 r (hs.subset hr), z.2.1.sublist hs, Nat.le_trans hs.length_le z.2.2⟩
/-- One prefix, one route. -/
def One (t : List S43) : Prop := (∀ r ∈ t, VR r) ∧ ∀ r ∈ t, ∀ s ∈ t, r.f0.f0 = s.f0.f0 → r.f0.f1 = s.f0.f1 → r = s
theorem Tok.one {t : List S43} (h : Tok t) : One t := by
  have z := Tok_iff.1 h
  refine ⟨z.1, fun r hr s hs e1 e2 => ?_⟩
  obtain ⟨i, hi, rfl⟩ := List.mem_iff_getElem.1 hr
  obtain ⟨j, hj, rfl⟩ := List.mem_iff_getElem.1 hs
  rcases Nat.lt_trichotomy i j with c | c | c
  · have := List.pairwise_iff_getElem.1 z.2.1 i j hi hj c
    unfold AR Ahead at this
    omega
  · subst c; rfl
  · have := List.pairwise_iff_getElem.1 z.2.1 j i hj hi c
    unfold AR Ahead at this
    omega
theorem One.sub {t u : List S43} (h : One t) (hs : ∀ r ∈ u, r ∈ t) : One u := ⟨fun r hr => h.1 r (hs r hr), fun r hr s hs' => h.2 r (hs r hr) s (hs s hs')⟩
/-- Two blocks with an address in common: the shorter prefix holds the other one. -/
theorem nest {n l m k a : Int} (p : Pok n l) (q : Pok m k) (hl : l ≤ k) (h1 : Phas n l a) (h2 : Phas m k a) : n ≤ m ∧ m + psz k ≤ n + psz l := by
  obtain ⟨b0, b1, b2, b3, b4⟩ := p
  obtain ⟨c0, c1, c2, c3, c4⟩ := q
  unfold Phas at h1 h2
  have z := psz_pos k
  have n4 := psz_mod b0 hl c1 b4
  have zl : psz l % psz k = 0 := psz_mod b0 hl c1 (Int.emod_self)
  have e1 : (m + psz k) % psz k = 0 := by rw [Int.add_emod_right]; exact c4
  have e2 : (n + psz l) % psz k = 0 := by rw [Int.add_emod, n4, zl]; rfl
  exact ⟨mult_le z n4 c4 (by omega), mult_le z e1 e2 (by omega)⟩
theorem same_len {n l m a : Int} (p : Pok n l) (q : Pok m l) (h1 : Phas n l a) (h2 : Phas m l a) : n = m := by
  have x := nest p q (Int.le_refl _) h1 h2
  have y := nest q p (Int.le_refl _) h2 h1
  omega
/-- What the best route is. -/
theorem best_is {a : Int} : ∀ (t u : List S43) (s : Bool × Int × Int × Int), ((s.1 = false ∧ ∀ r ∈ u, ¬ Has r a) ∨ ∃ r ∈ u, Has r a ∧ s = (true, r.f0.f0, r.f0.f1, r.f1) ∧ ∀ q ∈ u, Has q a → q.f0.f1 ≤ r.f0.f1) →
    (((t.foldl (bstep a) s).1 = false ∧ ∀ r ∈ u ++ t, ¬ Has r a) ∨ ∃ r ∈ u ++ t, Has r a ∧ t.foldl (bstep a) s = (true, r.f0.f0, r.f0.f1, r.f1) ∧ ∀ q ∈ u ++ t, Has q a → q.f0.f1 ≤ r.f0.f1) := by
  intro t
  induction t with
  | nil =>
    intro u s h
    rw [List.append_nil]
    exact h
  | cons x t ih =>
    intro u s h
    have z := ih (u ++ [x]) (bstep a s x) ?_
    · rw [List.append_assoc] at z
      exact z
    · unfold bstep
      by_cases c : Phas x.f0.f0 x.f0.f1 a
      · rw [if_pos c]
        rcases h with ⟨h1, h2⟩ | ⟨r, hr, h1, h2, h3⟩
        · rw [h1, if_neg (by decide)]
          refine .inr ⟨x, by simp, c, rfl, fun q hq hqa => ?_⟩
          rcases List.mem_append.1 hq with hq | hq
          · exact absurd hqa (h2 q hq)
          · rw [List.mem_singleton.1 hq]; exact Int.le_refl _
        · subst h2
          rw [if_pos rfl]
          by_cases c2 : x.f0.f1 > r.f0.f1
          · rw [if_pos c2]
            refine .inr ⟨x, by simp, c, rfl, fun q hq hqa => ?_⟩
            rcases List.mem_append.1 hq with hq | hq
            · have := h3 q hq hqa; omega
            · rw [List.mem_singleton.1 hq]; exact Int.le_refl _
          · rw [if_neg c2]
            refine .inr ⟨r, List.mem_append_left _ hr, h1, rfl, fun q hq hqa => ?_⟩
            rcases List.mem_append.1 hq with hq | hq
            · exact h3 q hq hqa
            · rw [List.mem_singleton.1 hq]; omega
      · rw [if_neg c]
        rcases h with ⟨h1, h2⟩ | ⟨r, hr, h1, h2, h3⟩
        · refine .inl ⟨h1, fun q hq hqa => ?_⟩
          rcases List.mem_append.1 hq with hq | hq
          · exact h2 q hq hqa
          · rw [List.mem_singleton.1 hq] at hqa; exact c hqa
        · refine .inr ⟨r, List.mem_append_left _ hr, h1, h2, fun q hq hqa => ?_⟩
          rcases List.mem_append.1 hq with hq | hq
          · exact h3 q hq hqa
          · rw [List.mem_singleton.1 hq] at hqa; exact absurd hqa c
theorem best_cases (a : Int) (t : List S43) : ((bestOf a t).1 = false ∧ ∀ r ∈ t, ¬ Has r a) ∨ ∃ r ∈ t, Has r a ∧ bestOf a t = (true, r.f0.f0, r.f0.f1, r.f1) ∧ ∀ q ∈ t, Has q a → q.f0.f1 ≤ r.f0.f1 := by
  have z := best_is (a := a) t [] (false, 0, 0, 0) (.inl ⟨rfl, fun r hr => by cases hr⟩)
  exact z
/-- The hop of an address, -1 for none. -/
def FH (t : List S43) (a : Int) : Int := if (bestOf a t).1 = true then (bestOf a t).2.2.2 else -1
theorem FH_none {a : Int} {t : List S43} (h : ∀ r ∈ t, ¬ Has r a) : FH t a = -1 := by
  unfold FH
  rcases best_cases a t with ⟨h1, _⟩ | ⟨r, hr, h1, _⟩
  · rw [h1, if_neg (by decide)]
  · exact absurd h1 (h r hr)
theorem FH_some {a : Int} {t : List S43} (ho : One t) {r : S43} (hr : r ∈ t) (ha : Has r a) (hm : ∀ q ∈ t, Has q a → q.f0.f1 ≤ r.f0.f1) : FH t a = r.f1 ∧ (bestOf a t).1 = true ∧ (bestOf a t).2.2.2 = r.f1 := by
  unfold FH
  rcases best_cases a t with ⟨_, h2⟩ | ⟨q, hq, h1, h2, h3⟩
  · exact absurd ha (h2 r hr)
  · have x := hm q hq h1
    have y := h3 r hr ha
    have e : q.f0.f1 = r.f0.f1 := by omega
    have vq := (ho.1 q hq).1
    rw [e] at vq
    have hqa : Phas q.f0.f0 r.f0.f1 a := by rw [← e]; exact h1
    have e2 := same_len vq (ho.1 r hr).1 hqa ha
    have e3 := ho.2 q hq r hr e2 e
    subst e3
    rw [h2]
    exact ⟨rfl, rfl, rfl⟩
theorem FH_congr {a b : Int} : ∀ (t : List S43) (s : Bool × Int × Int × Int), (∀ r ∈ t, Has r a ↔ Has r b) → t.foldl (bstep a) s = t.foldl (bstep b) s := by
  intro t
  induction t with
  | nil => intro s _; rfl
  | cons x t ih =>
    intro s h
    have e : bstep a s x = bstep b s x := by
      have hx := h x List.mem_cons_self
      unfold Has at hx
      unfold bstep
      by_cases c : Phas x.f0.f0 x.f0.f1 a
      · rw [if_pos c, if_pos (hx.1 c)]
      · rw [if_neg c, if_neg (fun z => c (hx.2 z))]
    rw [List.foldl_cons, List.foldl_cons, e]
    exact ih _ (fun r hr => h r (List.mem_cons_of_mem _ hr))
/-- A route is idle: without it no address of it is led elsewhere. -/
def Idle (t : List S43) (r : S43) : Prop := ∀ a, Has r a → FH t a = FH (t.filter fun q => !isR r.f0.f0 r.f0.f1 q) a
/-- Longer routes within another one. -/
def Inn (t : List S43) (r q : S43) : Prop := q ∈ t ∧ q ≠ r ∧ r.f0.f1 ≤ q.f0.f1 ∧ Has r q.f0.f0
def Used (t : List S43) (r : S43) : Prop := ∃ a, Has r a ∧ ∀ q, Inn t r q → ¬ Has q a
def others (t : List S43) (r : S43) : List S43 := t.filter fun q => !(if q.f0.f1 ≤ r.f0.f1 ∧ Has q r.f0.f0 then (q.f0.f0 == r.f0.f0 && q.f0.f1 == r.f0.f1) && q.f1 == r.f1 else true)
theorem mem_others {t : List S43} {r q : S43} : q ∈ others t r ↔ q ∈ t ∧ q.f0.f1 ≤ r.f0.f1 ∧ Has q r.f0.f0 ∧ q ≠ r := by
  unfold others
  rw [List.mem_filter]
  by_cases c : q.f0.f1 ≤ r.f0.f1 ∧ Has q r.f0.f0
  · rw [if_pos c]
    constructor
    · rintro ⟨h1, h2⟩
      refine ⟨h1, c.1, c.2, fun e => ?_⟩
      subst e
      simp at h2
    · rintro ⟨h1, _, _, h2⟩
      refine ⟨h1, ?_⟩
      have : ¬ ((q.f0.f0 = r.f0.f0 ∧ q.f0.f1 = r.f0.f1) ∧ q.f1 = r.f1) := fun e => h2 (by
        obtain ⟨⟨q0, q1⟩, q2⟩ := q
        obtain ⟨⟨r0, r1⟩, r2⟩ := r
        simp at e
        obtain ⟨⟨rfl, rfl⟩, rfl⟩ := e
        rfl)
      cases hb : ((q.f0.f0 == r.f0.f0 && q.f0.f1 == r.f0.f1) && q.f1 == r.f1) with
      | false => rfl
      | true =>
        simp only [Bool.and_eq_true, beq_iff_eq] at hb
        exact absurd hb this
  · rw [if_neg c]
    constructor
    · rintro ⟨_, h2⟩
      simp at h2
    · rintro ⟨_, h2, h3, _⟩
      exact absurd ⟨h2, h3⟩ c
theorem mem_rest {t : List S43} (ho : One t) {r q : S43} (hr : r ∈ t) : (q ∈ t.filter fun q => !isR r.f0.f0 r.f0.f1 q) ↔ q ∈ t ∧ q ≠ r := by
  rw [List.mem_filter]
  unfold isR
  constructor
  · rintro ⟨h1, h2⟩
    refine ⟨h1, fun e => ?_⟩
    subst e
    simp at h2
  · rintro ⟨h1, h2⟩
    refine ⟨h1, ?_⟩
    have : ¬ (q.f0.f0 = r.f0.f0 ∧ q.f0.f1 = r.f0.f1) := fun e => h2 (ho.2 q h1 r hr e.1 e.2)
    rw [decide_eq_false this]
    rfl
/-- The program's test says whether a route is idle. -/
theorem idle_iff {t : List S43} (ho : One t) {r : S43} (hr : r ∈ t) : Idle t r ↔ (¬ Used t r ∨ ((bestOf r.f0.f0 (others t r)).1 = true ∧ (bestOf r.f0.f0 (others t r)).2.2.2 = r.f1)) := by
  have vr := ho.1 r hr
  have rest1 : One (t.filter fun q => !isR r.f0.f0 r.f0.f1 q) := ho.sub (fun q hq => ((mem_rest ho hr).1 hq).1)
  have oth1 : One (others t r) := ho.sub (fun q hq => (mem_others.1 hq).1)
  -- an address that a longer route within holds
  have inn : ∀ a, Has r a → (∃ q, Inn t r q ∧ Has q a) → FH t a = FH (t.filter fun q => !isR r.f0.f0 r.f0.f1 q) a := by
    rintro a ha ⟨q, ⟨q1, q2, q3, q4⟩, q5⟩
    have lt : r.f0.f1 < q.f0.f1 := by
      by_cases e : r.f0.f1 = q.f0.f1
      · have vq := (ho.1 q q1).1
        rw [← e] at vq
        have hqa : Phas q.f0.f0 r.f0.f1 a := by rw [e]; exact q5
        exact absurd (ho.2 q q1 r hr (same_len vq vr.1 hqa ha) e.symm) q2
      · omega
    rcases best_cases a t with ⟨_, h2⟩ | ⟨s, hs, s1, s2, s3⟩
    · exact absurd ha (h2 r hr)
    · have sr : s ≠ r := fun e => by
        have := s3 q q1 q5
        rw [e] at this
        omega
      have hs' := (mem_rest ho hr).2 ⟨hs, sr⟩
      rw [(FH_some ho hs s1 s3).1, (FH_some rest1 hs' s1 (fun x hx hxa => s3 x ((mem_rest ho hr).1 hx).1 hxa)).1]
  -- an address that none holds
  have free : ∀ a, Has r a → (∀ q, Inn t r q → ¬ Has q a) → (FH t a = FH (t.filter fun q => !isR r.f0.f0 r.f0.f1 q) a ↔ ((bestOf r.f0.f0 (others t r)).1 = true ∧ (bestOf r.f0.f0 (others t r)).2.2.2 = r.f1)) := by
    intro a ha hn
    have short : ∀ q ∈ t, q ≠ r → Has q a → q.f0.f1 ≤ r.f0.f1 ∧ Has q r.f0.f0 := fun q hq hqr hqa => by
      have vq := ho.1 q hq
      by_cases c : q.f0.f1 ≤ r.f0.f1
      · have z := nest vq.1 vr.1 c hqa ha
        have p := psz_pos r.f0.f1
        refine ⟨c, ?_⟩
        unfold Has Phas
        omega
      · have z := nest vr.1 vq.1 (show r.f0.f1 ≤ q.f0.f1 by omega) ha hqa
        have p := psz_pos q.f0.f1
        refine absurd hqa (hn q ⟨hq, hqr, by omega, ?_⟩)
        unfold Has Phas
        omega
    have long : ∀ q ∈ others t r, Has q a := fun q hq => by
      obtain ⟨q1, q2, q3, q4⟩ := mem_others.1 hq
      have p := psz_pos r.f0.f1
      have z := nest (ho.1 q q1).1 vr.1 q2 (a := r.f0.f0) q3 (by unfold Phas; omega)
      unfold Has Phas at ha ⊢
      omega
    have ft : FH t a = r.f1 := (FH_some ho hr ha (fun q hq hqa => by
      by_cases e : q = r
      · rw [e]; exact Int.le_refl _
      · exact (short q hq e hqa).1)).1
    rw [ft]
    rcases best_cases r.f0.f0 (others t r) with ⟨h1, h2⟩ | ⟨s, hs, s1, s2, s3⟩
    · rw [FH_none (fun q hq hqa => by
        obtain ⟨q1, q2⟩ := (mem_rest ho hr).1 hq
        obtain ⟨q3, q4⟩ := short q q1 q2 hqa
        exact h2 q (mem_others.2 ⟨q1, q3, q4, q2⟩) q4), h1]
      constructor
      · intro h
        have := vr.2.1
        omega
      · intro h
        cases h.1
    · obtain ⟨m1, m2, m3, m4⟩ := mem_others.1 hs
      rw [(FH_some rest1 ((mem_rest ho hr).2 ⟨m1, m4⟩) (long s hs) (fun q hq hqa => by
        obtain ⟨q1, q2⟩ := (mem_rest ho hr).1 hq
        obtain ⟨q3, q4⟩ := short q q1 q2 hqa
        exact s3 q (mem_others.2 ⟨q1, q3, q4, q2⟩) q4)).1, s2]
      exact ⟨fun h => ⟨rfl, h.symm⟩, fun h => h.2.symm⟩
  constructor
  · intro h
    by_cases u : Used t r
    · obtain ⟨a, a1, a2⟩ := u
      exact .inr ((free a a1 a2).1 (h a a1))
    · exact .inl u
  · intro h a ha
    by_cases c : ∃ q, Inn t r q ∧ Has q a
    · exact inn a ha c
    · have c' : ∀ q, Inn t r q → ¬ Has q a := fun q hq hqa => c ⟨q, hq, hqa⟩
      rcases h with h | h
      · exact absurd ⟨a, ha, c'⟩ h
      · exact (free a ha c').2 h
/-- What the scan for a used address knows behind the routes u. -/
def Sc (u : List S43) (r : S43) (ins en : Int) : Prop := ∃ E, ((E = r.f0.f0 - 1 ∧ en = -1 ∧ ∀ q, ¬ Inn u r q) ∨ (E = en ∧ ∃ q, Inn u r q ∧ q.f0.f0 + psz q.f0.f1 - 1 = en)) ∧
  (∀ q, Inn u r q → q.f0.f0 + psz q.f0.f1 - 1 ≤ en) ∧ 0 ≤ ins ∧ ins ≤ E + 1 - r.f0.f0 ∧ (ins = E + 1 - r.f0.f0 ↔ ∀ a, r.f0.f0 ≤ a → a ≤ E → ∃ q, Inn u r q ∧ Has q a)
theorem Inn.snoc {u : List S43} {r x q : S43} : Inn (u ++ [x]) r q ↔ Inn u r q ∨ (q = x ∧ x ≠ r ∧ r.f0.f1 ≤ x.f0.f1 ∧ Has r x.f0.f0) := by
  unfold Inn
  rw [List.mem_append, List.mem_singleton]
  constructor
  · rintro ⟨h1 | h1, h2, h3, h4⟩
    · exact .inl ⟨h1, h2, h3, h4⟩
    · subst h1; exact .inr ⟨rfl, h2, h3, h4⟩
  · rintro (⟨h1, h2, h3, h4⟩ | ⟨rfl, h2, h3, h4⟩)
    · exact ⟨.inl h1, h2, h3, h4⟩
    · exact ⟨.inr rfl, h2, h3, h4⟩
theorem Sc.out {u : List S43} {r x : S43} {ins en : Int} (h : Sc u r ins en) (hx : ¬ (x ≠ r ∧ r.f0.f1 ≤ x.f0.f1 ∧ Has r x.f0.f0)) : Sc (u ++ [x]) r ins en := by
  have e : ∀ q, Inn (u ++ [x]) r q ↔ Inn u r q := fun q => by
    rw [Inn.snoc]
    exact ⟨fun h => h.elim id (fun z => absurd z.2 hx), .inl⟩
  unfold Sc at h ⊢
  simp only [e]
  exact h
theorem Sc.new {u : List S43} {r x : S43} {ins en : Int} (h : Sc u r ins en) (hx : x ≠ r ∧ r.f0.f1 ≤ x.f0.f1 ∧ Has r x.f0.f0) (hn : x.f0.f0 > en) : Sc (u ++ [x]) r (ins + psz x.f0.f1) (x.f0.f0 + psz x.f0.f1 - 1) := by
  have p := psz_pos x.f0.f1
  obtain ⟨E, h1, h2, h3, h4, h5⟩ := h
  have hxr : r.f0.f0 ≤ x.f0.f0 := hx.2.2.1
  have hE : E ≤ x.f0.f0 - 1 := by
    rcases h1 with ⟨e, _, _⟩ | ⟨e, _⟩
    · omega
    · omega
  have hEn : ∀ q, Inn u r q → q.f0.f0 + psz q.f0.f1 - 1 ≤ E := fun q hq => by
    rcases h1 with ⟨_, _, e⟩ | ⟨e, _⟩
    · exact absurd hq (e q)
    · have := h2 q hq; omega
  refine ⟨x.f0.f0 + psz x.f0.f1 - 1, .inr ⟨rfl, x, Inn.snoc.2 (.inr ⟨rfl, hx⟩), rfl⟩, fun q hq => ?_, by omega, by omega, ?_⟩
  · rcases Inn.snoc.1 hq with hq | ⟨rfl, _⟩
    · have := h2 q hq; omega
    · omega
  · constructor
    · intro e a a1 a2
      have e1 : ins = E + 1 - r.f0.f0 := by omega
      by_cases c : a ≤ E
      · obtain ⟨q, q1, q2⟩ := h5.1 e1 a a1 c
        exact ⟨q, Inn.snoc.2 (.inl q1), q2⟩
      · refine ⟨x, Inn.snoc.2 (.inr ⟨rfl, hx⟩), ?_⟩
        unfold Has Phas
        omega
    · intro hc
      have e1 : ins = E + 1 - r.f0.f0 := h5.2 (fun a a1 a2 => by
        obtain ⟨q, q1, q2⟩ := hc a a1 (by omega)
        rcases Inn.snoc.1 q1 with q1 | ⟨rfl, _⟩
        · exact ⟨q, q1, q2⟩
        · unfold Has Phas at q2
          omega)
      have e2 : E = x.f0.f0 - 1 := by
        by_cases c : E = x.f0.f0 - 1
        · exact c
        · have hr1 : r.f0.f0 ≤ E + 1 := by omega
          obtain ⟨q, q1, q2⟩ := hc (E + 1) hr1 (by omega)
          rcases Inn.snoc.1 q1 with q1 | ⟨rfl, _⟩
          · have := hEn q q1
            unfold Has Phas at q2
            omega
          · unfold Has Phas at q2
            omega
      omega
theorem Sc.old {u : List S43} {r x : S43} {ins en : Int} (h : Sc u r ins en) (hu : ∀ q ∈ u, VR q ∧ AR q x) (vx : VR x) (hx : x ≠ r ∧ r.f0.f1 ≤ x.f0.f1 ∧ Has r x.f0.f0) (hn : ¬ x.f0.f0 > en) : Sc (u ++ [x]) r ins en := by
  have p := psz_pos x.f0.f1
  obtain ⟨E, h1, h2, h3, h4, h5⟩ := h
  have x0 := vx.1.2.2.1
  rcases h1 with ⟨_, e, _⟩ | ⟨e, q0, q1, q2⟩
  · omega
  · obtain ⟨v0, a0⟩ := hu q0 q1.1
    have p0 := psz_pos q0.f0.f1
    have le : q0.f0.f0 ≤ x.f0.f0 := by unfold AR Ahead at a0; omega
    have ha : Phas q0.f0.f0 q0.f0.f1 x.f0.f0 := by unfold Phas; omega
    have hb : Phas x.f0.f0 x.f0.f1 x.f0.f0 := by unfold Phas; omega
    have within : q0.f0.f0 ≤ x.f0.f0 ∧ x.f0.f0 + psz x.f0.f1 ≤ q0.f0.f0 + psz q0.f0.f1 := by
      by_cases c : q0.f0.f1 ≤ x.f0.f1
      · exact nest v0.1 vx.1 c ha hb
      · have z := nest vx.1 v0.1 (show x.f0.f1 ≤ q0.f0.f1 by omega) hb ha
        unfold AR Ahead at a0
        omega
    refine ⟨E, .inr ⟨e, q0, Inn.snoc.2 (.inl q1), q2⟩, fun q hq => ?_, h3, h4, h5.trans ?_⟩
    · rcases Inn.snoc.1 hq with hq | ⟨rfl, _⟩
      · exact h2 q hq
      · omega
    · constructor
      · intro hc a a1 a2
        obtain ⟨q, z1, z2⟩ := hc a a1 a2
        exact ⟨q, Inn.snoc.2 (.inl z1), z2⟩
      · intro hc a a1 a2
        obtain ⟨q, z1, z2⟩ := hc a a1 a2
        rcases Inn.snoc.1 z1 with z1 | ⟨rfl, _⟩
        · exact ⟨q, z1, z2⟩
        · refine ⟨q0, q1, ?_⟩
          unfold Has Phas at z2 ⊢
          omega
theorem Sc.done {t : List S43} {r : S43} {ins en : Int} (h : Sc t r ins en) (hv : ∀ q ∈ t, VR q) (vr : VR r) : ins < psz r.f0.f1 ↔ Used t r := by
  have p := psz_pos r.f0.f1
  obtain ⟨E, h1, h2, h3, h4, h5⟩ := h
  have hin : ∀ q, Inn t r q → q.f0.f0 + psz q.f0.f1 ≤ r.f0.f0 + psz r.f0.f1 := fun q hq => by
    have pq := psz_pos q.f0.f1
    exact (nest vr.1 (hv q hq.1).1 hq.2.2.1 hq.2.2.2 (by unfold Phas; omega)).2
  have hE : E ≤ r.f0.f0 + psz r.f0.f1 - 1 := by
    rcases h1 with ⟨e, _, _⟩ | ⟨e, q, q1, q2⟩
    · omega
    · have := hin q q1; omega
  constructor
  · intro hl
    by_cases c : Used t r
    · exact c
    · have all : ∀ a, Has r a → ∃ q, Inn t r q ∧ Has q a := fun a ha => by
        by_cases d : ∃ q, Inn t r q ∧ Has q a
        · exact d
        · exact absurd ⟨a, ha, fun q hq hqa => d ⟨q, hq, hqa⟩⟩ c
      obtain ⟨q, q1, q2⟩ := all (r.f0.f0 + psz r.f0.f1 - 1) (by unfold Has Phas; omega)
      have l := h2 q q1
      have eE : E = r.f0.f0 + psz r.f0.f1 - 1 := by
        rcases h1 with ⟨_, _, e⟩ | ⟨e, _⟩
        · exact absurd q1 (e q)
        · unfold Has Phas at q2; omega
      have := h5.2 (fun a a1 a2 => all a (by unfold Has Phas; omega))
      omega
  · rintro ⟨a, a1, a2⟩
    by_cases c : ins < psz r.f0.f1
    · exact c
    · have e1 : ins = E + 1 - r.f0.f0 := by omega
      have e2 : E = r.f0.f0 + psz r.f0.f1 - 1 := by omega
      unfold Has Phas at a1
      obtain ⟨q, q1, q2⟩ := h5.1 e1 a a1.1 (by omega)
      exact absurd q2 (a2 q q1)
theorem impl_cov {n l m k : Int} (p : Pok n l) : impl_Prefix_covers.f n l m k = some (decide (l ≤ k ∧ Phas n l m)) := by
  unfold impl_Prefix_covers.f
  by_cases c : l ≤ k
  · rw [if_pos c, impl_has p]
    simp [c]
  · rw [if_neg c]
    simp [c]
theorem used_ok {t : List S43} (g : Tok t) {r : S43} (hr : r ∈ t) {k : Nat} (hk : t.length * 2 + 1 < k) : ∃ b, impl_isUsed.f k t r.f0.f0 r.f0.f1 r.f1 = some b ∧ (b = true ↔ Used t r) := by
  have z := Tok_iff.1 g
  have vr := z.1 r hr
  have h120 := g.2
  have pr := psz_le vr.1.1 vr.1.2.1
  have key : ∀ (d i k : Nat) (ins en : Int), i + d = t.length → d * 2 < k → Sc (t.take i) r ins en → ins ≤ 65536 → ∃ b, impl_isUsed.l0 k ins en t t.length i r.f0.f0 r.f0.f1 r.f1 = some b ∧ (b = true ↔ Used t r) := by
    intro d
    induction d with
    | zero =>
      intro i k ins en hi hk hS hl
      obtain ⟨k, rfl⟩ : ∃ m, k = m + 1 := ⟨k - 1, by omega⟩
      have e : i = t.length := by omega
      rw [e, List.take_length] at hS
      simp only [impl_isUsed.l0]
      rw [if_neg (by omega), impl_Size r.f0.f0 vr.1.1 vr.1.2.1]
      simp only [Option.bind_some]
      exact ⟨_, rfl, by rw [decide_eq_true_eq]; exact hS.done z.1 vr⟩
    | succ d ih =>
      intro i k ins en hi hk hS hl
      obtain ⟨k, rfl⟩ : ∃ m, k = m + 2 := ⟨k - 2, by omega⟩
      have hil : i < t.length := by omega
      have er : rd_T43 t (i : Int) = t[i] := rd_natR hil
      have et : t.take i ++ [t[i]] = t.take (i + 1) := by
        rw [List.take_add_one, List.getElem?_eq_getElem hil]
        rfl
      have vx := z.1 _ (List.getElem_mem hil)
      have e1 : wrap64 ((i : Int) + 1) = ((i + 1 : Nat) : Int) := by rw [w64 (by omega) (by omega)]; rfl
      have skip : ∀ a b c, Sc (t.take (i + 1)) r ins en → ∃ bb, impl_isUsed.j1 (k + 1) ins en t t.length i false r.f0.f0 r.f0.f1 r.f1 a b c = some bb ∧ (bb = true ↔ Used t r) := fun a b c hs => by
        simp only [impl_isUsed.j1]
        rw [if_neg (by decide), w64 (by omega) (by omega), show (i : Int) + 1 = ((i + 1 : Nat) : Int) by omega]
        exact ih (i + 1) k ins en (by omega) (by omega) hs hl
      clear e1
      simp only [impl_isUsed.l0]
      rw [if_pos (by omega), if_pos (by omega), if_pos (by omega), er]
      by_cases c : t[i] = r
      · have eb : ((!(t[i].f0.f0 == r.f0.f0) || (!(t[i].f0.f1 == r.f0.f1))) || (!(t[i].f1 == r.f1))) = false := by rw [c]; simp
        rw [eb, if_neg (by decide)]
        refine skip _ _ _ ?_
        rw [← et]
        exact hS.out (fun h => h.1 c)
      · have eb : ((!(t[i].f0.f0 == r.f0.f0) || (!(t[i].f0.f1 == r.f0.f1))) || (!(t[i].f1 == r.f1))) = true := by
          by_cases c1 : t[i].f0.f0 = r.f0.f0
          · by_cases c2 : t[i].f0.f1 = r.f0.f1
            · exact absurd (g.one.2 _ (List.getElem_mem hil) r hr c1 c2) c
            · simp [c2]
          · simp [c1]
        rw [eb, if_pos rfl, impl_cov vr.1]
        simp only [Option.bind_some]
        by_cases c2 : r.f0.f1 ≤ t[i].f0.f1 ∧ Phas r.f0.f0 r.f0.f1 t[i].f0.f0
        · rw [decide_eq_true c2, if_pos rfl]
          by_cases c3 : t[i].f0.f0 > en
          · rw [decide_eq_true c3]
            have hs := hS.new (x := t[i]) ⟨c, c2.1, c2.2⟩ c3
            rw [et] at hs
            have px := psz_le vx.1.1 vx.1.2.1
            have pp := psz_pos t[i].f0.f1
            have x3 := vx.1.2.2.1
            have x4 := vx.1.2.2.2.1
            have lim : ins + psz t[i].f0.f1 ≤ 65536 := by
              obtain ⟨E, h1, _, _, h4, _⟩ := hs
              rcases h1 with ⟨_, e, _⟩ | ⟨e, _⟩
              · omega
              · have tp := Pok.top vx.1
                have r3 := vr.1.2.2.1
                omega
            simp only [impl_isUsed.j1]
            rw [if_pos trivial, impl_Size t[i].f0.f0 vx.1.1 vx.1.2.1]
            simp only [Option.bind_some]
            have h0 := hS
            obtain ⟨_, _, _, i0, _, _⟩ := h0
            rw [w64 (n := ins + psz t[i].f0.f1) (by omega) (by omega), w64 (n := t[i].f0.f0 + psz t[i].f0.f1) (by omega) (by omega), w64 (n := t[i].f0.f0 + psz t[i].f0.f1 - 1) (by omega) (by omega), w64 (n := (i : Int) + 1) (by omega) (by omega), show (i : Int) + 1 = ((i + 1 : Nat) : Int) by omega]
            exact ih (i + 1) k _ _ (by omega) (by omega) hs lim
          · rw [decide_eq_false c3]
            refine skip _ _ _ ?_
            rw [← et]
            refine hS.old (fun q hq => ?_) vx ⟨c, c2.1, c2.2⟩ c3
            obtain ⟨j, hj, ej⟩ := List.mem_take_iff_getElem.1 hq
            have ar := List.pairwise_iff_getElem.1 z.2.1 j i (by omega) hil (by omega)
            rw [ej] at ar
            exact ⟨z.1 q (List.mem_of_mem_take hq), ar⟩
        · rw [decide_eq_false c2, if_neg (by decide)]
          refine skip _ _ _ ?_
          rw [← et]
          exact hS.out (fun h => c2 ⟨h.2.1, h.2.2⟩)
  unfold impl_isUsed.f
  have e0 : ((0 : Nat) : Int) = 0 := rfl
  have start : Sc (t.take 0) r 0 (-1) := by
    have no : ∀ q, ¬ Inn (t.take 0) r q := fun q hq => by
      have := hq.1
      rw [List.take_zero] at this
      cases this
    refine ⟨r.f0.f0 - 1, .inl ⟨rfl, rfl, no⟩, fun q hq => absurd hq (no q), Int.le_refl _, by omega, ?_⟩
    exact ⟨fun _ a a1 a2 => by omega, fun _ => by omega⟩
  have q := key t.length 0 k 0 (-1) (by omega) (by omega) start (by omega)
  rw [e0] at q
  exact q
def notOver (r q : S43) : Bool := if q.f0.f1 ≤ r.f0.f1 ∧ Has q r.f0.f0 then (q.f0.f0 == r.f0.f0 && q.f0.f1 == r.f0.f1) && q.f1 == r.f1 else true
theorem others_eq (t : List S43) (r : S43) : others t r = t.filter fun q => !notOver r q := rfl
theorem clo_ok {q : S43} (vq : VR q) (r : S43) : impl_isRedundant_1.f q.f0.f0 q.f0.f1 q.f1 [r] = some (notOver r q) := by
  have e : rd_T43 [r] 0 = r := rfl
  unfold impl_isRedundant_1.f notOver
  rw [if_pos (by simp), e, impl_cov vq.1]
  simp only [Option.bind_some]
  by_cases c : q.f0.f1 ≤ r.f0.f1 ∧ Phas q.f0.f0 q.f0.f1 r.f0.f0
  · rw [decide_eq_true c, if_pos rfl, if_pos (show q.f0.f1 ≤ r.f0.f1 ∧ Has q r.f0.f0 from c)]
  · rw [decide_eq_false c, if_neg (by decide), if_neg (show ¬ (q.f0.f1 ≤ r.f0.f1 ∧ Has q r.f0.f0) from c)]
theorem getD_R {x : List S43} {i : Nat} (h : i < x.length) : rd_T43 x (i : Int) = x.getD i z43 := by
  rw [rd_natR h, List.getD_eq_getElem?_getD, List.getElem?_eq_getElem h]
  rfl
theorem del_ok {t : List S43} (h : t.length ≤ 1048576) (hv : ∀ q ∈ t, VR q) (r : S43) {k : Nat} (hk : t.length < k) : slices_DeleteFunc_impl_Route_impl_Route.f k t [r] = some (others t r) := by
  have hvr : ∀ (x : List S43) (i : Nat), (∀ q ∈ x, VR q) → i < x.length → VR (rd_T43 x (i : Int)) := fun x i hx hi => by
    rw [rd_natR hi]; exact hx _ (List.getElem_mem hi)
  have hi := index_loop (F := fun k i => slices_IndexFunc_impl_Route_impl_Route.l0 k t (t.length : Int) i [r]) (p := notOver r) z43 t (fun k i hi => by
    show slices_IndexFunc_impl_Route_impl_Route.l0 (k + 1) t (t.length : Int) i [r] = _
    simp only [slices_IndexFunc_impl_Route_impl_Route.l0]
    rw [if_pos (by omega), if_pos (by omega), if_pos (by omega), clo_ok (hvr t i hv hi), getD_R hi, w64 (by omega) (by omega)]
    simp only [Option.bind_some]) (fun k => by
    show slices_IndexFunc_impl_Route_impl_Route.l0 (k + 1) t (t.length : Int) (t.length : Int) [r] = _
    simp only [slices_IndexFunc_impl_Route_impl_Route.l0]
    rw [if_neg (by omega)]) t.length k 0 (by omega) hk
  unfold slices_DeleteFunc_impl_Route_impl_Route.f slices_IndexFunc_impl_Route_impl_Route.f
  rw [others_eq]
  rcases hi with ⟨h1, h2⟩ | ⟨j, h1, h2, h3, h4, h5⟩
  · have h1' : slices_IndexFunc_impl_Route_impl_Route.l0 k t (t.length : Int) 0 [r] = some (-1) := h1
    rw [h1', filter_none z43 t (fun q hq => h2 q (Nat.zero_le _) hq)]
    simp only [Option.bind_some, if_true]
  · have h1' : slices_IndexFunc_impl_Route_impl_Route.l0 k t (t.length : Int) 0 [r] = some (j : Int) := h1
    rw [h1']
    simp only [Option.bind_some]
    rw [if_neg (by omega), w64 (by omega) (by omega), ← filter_at z43 t h3 h4 (fun q hq => h5 q (Nat.zero_le _) hq)]
    have e1 : (j : Int) + 1 = ((j + 1 : Nat) : Int) := by omega
    rw [e1]
    have gen : ∀ (d k : Nat) (x : List S43) (i j : Nat), (∀ q ∈ x, VR q) → j + d = t.length → i < j → x.length = t.length → d < k → slices_DeleteFunc_impl_Route_impl_Route.l0 k x i j [r] = some (x.take i ++ (x.drop j).filter (fun y => !notOver r y)) := by
      intro d
      induction d with
      | zero =>
        intro k x i j hx hj hi hl hk
        obtain ⟨k, rfl⟩ : ∃ m, k = m + 1 := ⟨k - 1, by omega⟩
        simp only [slices_DeleteFunc_impl_Route_impl_Route.l0]
        rw [if_neg (by omega), if_pos (by omega), if_pos (by omega), Int.toNat_natCast, List.take_left' (by rw [List.length_take]; omega), List.drop_eq_nil_of_le (by omega)]
        simp
      | succ d ih =>
        intro k x i j hx hj hi hl hk
        obtain ⟨k, rfl⟩ : ∃ m, k = m + 1 := ⟨k - 1, by omega⟩
        have hjx : j < x.length := by omega
        have vj := hvr x j hx hjx
        have ej : rd_T43 x (j : Int) = x.getD j z43 := getD_R hjx
        simp only [slices_DeleteFunc_impl_Route_impl_Route.l0]
        rw [if_pos (by omega), if_pos (by omega), clo_ok vj, ej, w64 (n := (j : Int) + 1) (by omega) (by omega), w64 (n := (i : Int) + 1) (by omega) (by omega), drop_cons' x z43 hjx, List.filter_cons]
        simp only [Option.bind_some]
        rw [show (j : Int) + 1 = ((j + 1 : Nat) : Int) by omega, show (i : Int) + 1 = ((i + 1 : Nat) : Int) by omega]
        by_cases c : notOver r (x.getD j z43) = true
        · rw [if_pos c, ih k x i (j + 1) hx (by omega) (by omega) hl (by omega), c]
          rfl
        · have c' : notOver r (x.getD j z43) = false := by simpa using c
          have vx : VR (x.getD j z43) := by rw [← ej]; exact vj
          rw [if_neg c, if_pos (by omega), if_pos (by omega), Int.toNat_natCast]
          have hset : i < (x.set i (x.getD j z43)).length := by rw [List.length_set]; omega
          have q := ih k (x.set i (x.getD j z43)) (i + 1) (j + 1) (fun w hw => by
            rcases List.mem_or_eq_of_mem_set hw with hw | hw
            · exact hx w hw
            · rw [hw]; exact vx) (by omega) (by omega) (by rw [List.length_set]; exact hl) (by omega)
          rw [c']
          refine q.trans ?_
          rw [take_snoc' _ z43 hset, List.drop_set_of_lt (by omega), List.take_set_of_le (Nat.le_refl _), List.getD_eq_getElem?_getD (l := x.set i _), List.getElem?_set, if_pos rfl, if_pos (by omega)]
          simp
    exact gen (t.length - (j + 1)) k t j (j + 1) hv (by omega) (by omega) rfl (by omega)
theorem red_ok {t : List S43} (g : Tok t) {r : S43} (hr : r ∈ t) {k : Nat} (hk : t.length * 2 + 1 < k) : ∃ b, impl_isRedundant.f k t r.f0.f0 r.f0.f1 r.f1 = some b ∧ (b = true ↔ Idle t r) := by
  have z := Tok_iff.1 g
  have h120 := g.2
  obtain ⟨b, h1, h2⟩ := used_ok g hr hk
  have ii := idle_iff g.one hr
  have er : (⟨⟨r.f0.f0, r.f0.f1⟩, r.f1⟩ : S43) = r := rfl
  have ol : (others t r).length ≤ t.length := by unfold others; exact List.length_filter_le ..
  have og : Tok (others t r) := g.sub (by unfold others; exact List.filter_sublist)
  unfold impl_isRedundant.f
  rw [h1]
  simp only [Option.bind_some]
  by_cases u : b = true
  · have hu := h2.1 u
    have cl : slices_Clone_impl_Route_impl_Route.f t = some t := by
      unfold slices_Clone_impl_Route_impl_Route.f
      rw [if_pos (by omega)]
    rw [if_pos u, cl]
    simp only [Option.bind_some]
    rw [er, del_ok (by omega) z.1 r (by omega)]
    simp only [Option.bind_some]
    rw [impl_bestl (by omega) og.1 r.f0.f0 (by omega)]
    simp only [Option.bind_some, bout]
    by_cases c : (bestOf r.f0.f0 (others t r)).1 = true
    · rw [if_pos c]
      refine ⟨_, rfl, ?_⟩
      rw [beq_iff_eq, ii]
      exact ⟨fun h => .inr ⟨c, h⟩, fun h => h.elim (fun h => absurd hu h) (fun h => h.2)⟩
    · rw [if_neg c]
      refine ⟨_, rfl, ?_⟩
      rw [ii]
      exact ⟨(fun h => by cases h), fun h => h.elim (fun h => absurd hu h) (fun h => absurd h.1 c)⟩
  · rw [if_neg u]
    exact ⟨true, rfl, ⟨fun _ => ii.2 (.inl (fun h => u (h2.2 h))), fun _ => rfl⟩⟩
/-- The next border. -/
def Nx (t : List S43) (a x : Int) (i : Nat) : Prop := a < x ∧ ∀ q ∈ t.take i, ¬ (a < q.f0.f0 ∧ q.f0.f0 < x) ∧ ¬ (a < q.f0.f0 + psz q.f0.f1 ∧ q.f0.f0 + psz q.f0.f1 < x)
theorem next_ok {t u : List S43} (h : t.length ≤ 120) (hv : ∀ q ∈ t, VR q) {rn rl a : Int} (ha : 0 ≤ a ∧ a ≤ 65536) (k : Nat) : ∀ (d i K : Nat) (x : Int), i + d = t.length → K = k + d * 2 + 1 → Nx t a x i → x ≤ 65536 → ∃ y, Nx t a y t.length ∧ y ≤ x ∧ spec_l02Idle.l1 K a x i t rn rl u = spec_l02Idle.l0 k y t rn rl u := by
  intro d
  induction d with
  | zero =>
    intro i K x hi hK hN hx
    subst hK
    have e : i = t.length := by omega
    rw [e] at hN
    have := hN.1
    refine ⟨x, hN, Int.le_refl _, ?_⟩
    simp only [spec_l02Idle.l1]
    rw [if_neg (by omega), w64 (n := x - 1) (by omega) (by omega), w64 (by omega) (by omega), show x - 1 + 1 = x by omega]
  | succ d ih =>
    intro i K x hi hK hN hx
    obtain ⟨K, rfl⟩ : ∃ m, K = m + 2 := ⟨K - 2, by omega⟩
    have hil : i < t.length := by omega
    have er : rd_T43 t (i : Int) = t[i] := rd_natR hil
    have vx := hv _ (List.getElem_mem hil)
    have px := psz_le vx.1.1 vx.1.2.1
    have pp := psz_pos t[i].f0.f1
    have x3 := vx.1.2.2.1
    have x4 := vx.1.2.2.2.1
    have et : t.take (i + 1) = t.take i ++ [t[i]] := by
      rw [List.take_add_one, List.getElem?_eq_getElem hil]
      rfl
    have hax := hN.1
    have go : ∀ y : Int, a < y → y ≤ x → ¬ (a < t[i].f0.f0 ∧ t[i].f0.f0 < y) → ¬ (a < t[i].f0.f0 + psz t[i].f0.f1 ∧ t[i].f0.f0 + psz t[i].f0.f1 < y) → ∃ y', Nx t a y' t.length ∧ y' ≤ x ∧ spec_l02Idle.l1 K a y ((i + 1 : Nat) : Int) t rn rl u = spec_l02Idle.l0 k y' t rn rl u := fun y y1 y2 y3 y4 => by
      obtain ⟨y', z1, z2, z3⟩ := ih (i + 1) K y (by omega) (by omega) ⟨y1, fun q hq => by
        rw [et] at hq
        rcases List.mem_append.1 hq with hq | hq
        · have := hN.2 q hq
          omega
        · rw [List.mem_singleton.1 hq]; exact ⟨y3, y4⟩⟩ (by omega)
      exact ⟨y', z1, by omega, z3⟩
    simp only [spec_l02Idle.l1]
    rw [if_pos (by omega), if_pos (by omega), er, spec_Size vx.1.1 vx.1.2.1]
    simp only [Option.bind_some]
    rw [w64 (n := t[i].f0.f0 + psz t[i].f0.f1) (by omega) (by omega)]
    have e1 : wrap64 ((i : Int) + 1) = ((i + 1 : Nat) : Int) := by rw [w64 (by omega) (by omega)]; rfl
    by_cases c1 : t[i].f0.f0 > a
    · rw [if_pos c1]
      simp only [spec_l02Idle.j2]
      rw [e1]
      clear e1
      by_cases c2 : t[i].f0.f0 < x
      · rw [decide_eq_true c2, if_pos rfl, if_pos (by omega), if_neg (by omega)]
        exact go _ (by omega) (by omega) (by omega) (by omega)
      · rw [decide_eq_false c2, if_neg (by decide), if_pos (by omega), if_neg (by omega)]
        exact go _ (by omega) (by omega) (by omega) (by omega)
    · rw [if_neg c1]
      simp only [spec_l02Idle.j2]
      rw [if_neg (by decide), e1]
      clear e1
      by_cases c3 : t[i].f0.f0 + psz t[i].f0.f1 > a
      · rw [if_pos c3]
        by_cases c4 : t[i].f0.f0 + psz t[i].f0.f1 < x
        · rw [if_pos c4]
          exact go _ (by omega) (by omega) (by omega) (by omega)
        · rw [if_neg c4]
          exact go _ (by omega) (by omega) (by omega) (by omega)
      · rw [if_neg c3]
        exact go _ (by omega) (by omega) (by omega) (by omega)
theorem spec_FHop {t : List S43} (g : Tok t) {a : Int} (ha : 0 ≤ a ∧ a ≤ 65535) {k : Nat} (hk : t.length + 1 < k) : spec_FindHop.f k t a = some (FH t a) := by
  have h120 := g.2
  unfold spec_FindHop.f
  rw [spec_Best (by omega) a hk]
  unfold bestAns FH
  rw [if_pos ⟨g, ha⟩]
  simp only [Option.bind_some, bout]
  by_cases c : (bestOf a t).1 = true
  · rw [if_pos c, if_pos c]
  · rw [if_neg c, if_neg c]
theorem idle_ok {t : List S43} (g : Tok t) {i : Nat} (hi : i < t.length) {k : Nat} (hk : 20000000 < k) : ∃ b, spec_l02Idle.f k t i = some b ∧ (b = true ↔ Idle t t[i]) := by
  have HKK := Aside0.mk hk
  clear hk
  have z := Tok_iff.1 g
  have h120 := g.2
  have er : rd_T43 t (i : Int) = t[i] := rd_natR hi
  obtain ⟨r, hr⟩ : ∃ r, r = t[i] := ⟨_, rfl⟩
  have hm : r ∈ t := by rw [hr]; exact List.getElem_mem hi
  have vr := z.1 r hm
  have pr := psz_le vr.1.1 vr.1.2.1
  have pp := psz_pos r.f0.f1
  have tp := Pok.top vr.1
  have r3 := vr.1.2.2.1
  obtain ⟨u, hu⟩ : ∃ u, u = t.filter fun q => !isR r.f0.f0 r.f0.f1 q := ⟨_, rfl⟩
  have ul : u.length ≤ t.length := by rw [hu]; exact List.length_filter_le ..
  have gu : Tok u := g.sub (by rw [hu]; exact List.filter_sublist)
  have us : ∀ q ∈ u, q ∈ t := fun q hq => by rw [hu] at hq; exact (List.mem_filter.1 hq).1
  obtain ⟨C, hC⟩ : ∃ C : Nat, C = 300 := ⟨_, rfl⟩
  have hC2 : 250 < C := by omega
  have hCC := Aside0.mk hC
  clear hC
  have key : ∀ (N k : Nat) (a : Int), (r.f0.f0 + psz r.f0.f1 - a).toNat ≤ N → N * C + C < k → r.f0.f0 ≤ a → a ≤ r.f0.f0 + psz r.f0.f1 → (∀ b, r.f0.f0 ≤ b → b < a → FH t b = FH u b) → ∃ b, spec_l02Idle.l0 k a t r.f0.f0 r.f0.f1 u = some b ∧ (b = true ↔ ∀ b, Has r b → FH t b = FH u b) := by
    intro N
    induction N with
    | zero =>
      intro k a hN hk h1 h2 h3
      obtain ⟨k, rfl⟩ : ∃ m, k = m + 1 := ⟨k - 1, by omega⟩
      simp only [spec_l02Idle.l0]
      rw [spec_Size vr.1.1 vr.1.2.1]
      simp only [Option.bind_some]
      rw [w64 (by omega) (by omega), if_neg (by omega)]
      exact ⟨true, rfl, ⟨fun _ b hb => h3 b hb.1 (by have := hb.2; omega), fun _ => rfl⟩⟩
    | succ N ih =>
      intro k a hN hk h1 h2 h3
      rw [Nat.succ_mul] at hk
      generalize N * C = Z at hk ih
      obtain ⟨k, rfl⟩ : ∃ m, k = m + 1 := ⟨k - 1, by omega⟩
      simp only [spec_l02Idle.l0]
      rw [spec_Size vr.1.1 vr.1.2.1]
      simp only [Option.bind_some]
      rw [w64 (n := r.f0.f0 + psz r.f0.f1) (by omega) (by omega)]
      by_cases c : a < r.f0.f0 + psz r.f0.f1
      · rw [if_pos c, spec_FHop g (by omega) (by omega), spec_FHop gu (by omega) (by omega)]
        simp only [Option.bind_some]
        by_cases c2 : FH t a = FH u a
        · rw [if_pos c2]
          have e0 : ((0 : Nat) : Int) = 0 := rfl
          obtain ⟨y, y1, y2, y3⟩ := next_ok (u := u) (rn := r.f0.f0) (rl := r.f0.f1) h120 z.1 (a := a) (by omega) (k - t.length * 2 - 1) t.length 0 k (r.f0.f0 + psz r.f0.f1) (by omega) (by omega) ⟨c, fun q hq => by rw [List.take_zero] at hq; cases hq⟩ (by omega)
          rw [e0] at y3
          rw [y3]
          have hay := y1.1
          have g1 : (r.f0.f0 + psz r.f0.f1 - y).toNat ≤ N := by omega
          have g2 : Z + C < k - t.length * 2 - 1 := by omega
          have g3 : r.f0.f0 ≤ y := by omega
          refine ih (k - t.length * 2 - 1) y g1 g2 g3 y2 (fun b b1 b2 => ?_)
          by_cases c3 : b < a
          · exact h3 b b1 c3
          · have hh : ∀ q ∈ t, Has q a ↔ Has q b := fun q hq => by
              have := y1.2 q (by rw [List.take_length]; exact hq)
              unfold Has Phas
              omega
            have f1 : FH t b = FH t a := by
              have e := FH_congr t (false, 0, 0, 0) hh
              unfold FH bestOf
              rw [e]
            have f2 : FH u b = FH u a := by
              have e := FH_congr u (false, 0, 0, 0) (fun q hq => hh q (us q hq))
              unfold FH bestOf
              rw [e]
            rw [f1, f2]
            exact c2
        · rw [if_neg c2]
          refine ⟨false, rfl, ⟨fun h => (by cases h), fun h => absurd (h a ?_) c2⟩⟩
          unfold Has Phas
          omega
      · rw [if_neg c]
        exact ⟨true, rfl, ⟨fun _ b hb => h3 b hb.1 (by have := hb.2; omega), fun _ => rfl⟩⟩
  have hk := HKK.out
  unfold spec_l02Idle.f
  rw [if_pos (by omega), if_pos (by omega), er, ← hr, spec_less (by omega) r.f0.f0 r.f0.f1 (by omega)]
  simp only [Option.bind_some]
  rw [← hu]
  obtain ⟨N0, hN0⟩ : ∃ N0 : Nat, N0 = 65536 := ⟨_, rfl⟩
  have hz : N0 * C + C < k := by rw [hN0, hCC.out]; omega
  obtain ⟨b, q1, q2⟩ := key N0 k r.f0.f0 (by omega) hz (Int.le_refl _) (by omega) (fun b b1 b2 => by omega)
  refine ⟨b, q1, q2.trans ?_⟩
  unfold Idle
  rw [hu]
def E1 (t : List S43) (k : Nat) (f : Int) : Option (List S43 × Bool) := if f < 0 then some (t, true) else if 0 ≤ f then (if f < (t.length : Int) then (spec_l02Less.f k t (rd_T43 t f).f0.f0 (rd_T43 t f).f0.f1).bind fun u => spec_Squeeze.l0 k u else none) else none
def E2 (t : List S43) (k : Nat) (f : Int) : Option (List S43 × Bool) := if f < 0 then some (t, true) else (slices_Delete_impl_Route_impl_Route.f t f (wrap64 (f + 1))).bind fun u => impl_Squeeze.l0 k u
theorem sel_ok {t : List S43} (g : Tok t) : ∀ (d i : Nat) (f : Int), i + d = t.length → (f = -1 ∨ (0 ≤ f ∧ f < i)) → ∃ f', (f' = -1 ∨ (0 ≤ f' ∧ f' < (t.length : Int))) ∧ ∀ k, 20000000 < k → spec_Squeeze.l1 (k + d + 1) f i t = E1 t k f' ∧ impl_Squeeze.l1 (k + d + 1) f t t.length i t = E2 t k f' := by
  have h120 := g.2
  intro d
  induction d with
  | zero =>
    intro i f hi hf
    refine ⟨f, by omega, fun k hk => ⟨?_, ?_⟩⟩
    · simp only [spec_Squeeze.l1]
      rw [if_neg (by omega)]
      rfl
    · simp only [impl_Squeeze.l1]
      rw [if_neg (by omega)]
      rfl
  | succ d ih =>
    intro i f hi hf
    have hil : i < t.length := by omega
    have er : rd_T43 t (i : Int) = t[i] := rd_natR hil
    have e1 : (i : Int) + 1 = ((i + 1 : Nat) : Int) := by omega
    by_cases c : Idle t t[i] ∧ (f < 0 ∨ (rd_T43 t f).f0.f1 < t[i].f0.f1)
    · obtain ⟨f', p1, p2⟩ := ih (i + 1) i (by omega) (by omega)
      refine ⟨f', p1, fun k hk => ?_⟩
      obtain ⟨q1, q2⟩ := p2 k hk
      obtain ⟨b1, s1, s2⟩ := idle_ok g hil (k := k + d + 1) (by omega)
      obtain ⟨b2, r1, r2⟩ := red_ok g (List.getElem_mem hil) (k := k + d + 1) (by omega)
      have sb := s2.2 c.1
      have rb := r2.2 c.1
      have ek : k + (d + 1) + 1 = (k + d + 1) + 1 := by omega
      rw [ek]
      generalize k + d + 1 = K at q1 q2 s1 r1 ⊢
      refine ⟨?_, ?_⟩
      · simp only [spec_Squeeze.l1]
        rw [if_pos (by omega), w64 (n := (i : Int) + 1) (by omega) (by omega), e1, s1]
        simp only [Option.bind_some]
        rw [if_pos sb]
        by_cases c2 : f < 0
        · rw [if_pos c2]; exact q1
        · rw [if_neg c2, if_pos (by omega), if_pos (by omega), if_pos (by omega), er, if_pos (by omega)]
          exact q1
      · simp only [impl_Squeeze.l1]
        rw [if_pos (by omega), if_pos (by omega), if_pos (by omega), er, w64 (n := (i : Int) + 1) (by omega) (by omega), e1, r1]
        simp only [Option.bind_some]
        rw [if_pos rb]
        by_cases c2 : f < 0
        · rw [if_pos c2]; exact q2
        · rw [if_neg c2, if_pos (by omega), if_pos (by omega), if_pos (by omega)]
          exact q2
    · obtain ⟨f', p1, p2⟩ := ih (i + 1) f (by omega) (by omega)
      refine ⟨f', p1, fun k hk => ?_⟩
      obtain ⟨q1, q2⟩ := p2 k hk
      obtain ⟨b1, s1, s2⟩ := idle_ok g hil (k := k + d + 1) (by omega)
      obtain ⟨b2, r1, r2⟩ := red_ok g (List.getElem_mem hil) (k := k + d + 1) (by omega)
      have ek : k + (d + 1) + 1 = (k + d + 1) + 1 := by omega
      rw [ek]
      generalize k + d + 1 = K at q1 q2 s1 r1 ⊢
      refine ⟨?_, ?_⟩
      · simp only [spec_Squeeze.l1]
        rw [if_pos (by omega), w64 (n := (i : Int) + 1) (by omega) (by omega), e1, s1]
        simp only [Option.bind_some]
        by_cases c2 : f < 0
        · have : ¬ b1 = true := fun h => c ⟨s2.1 h, .inl c2⟩
          rw [if_pos c2, if_neg this]; exact q1
        · rw [if_neg c2, if_pos (by omega), if_pos (by omega), if_pos (by omega), er]
          by_cases c3 : t[i].f0.f1 > (rd_T43 t f).f0.f1
          · have : ¬ b1 = true := fun h => c ⟨s2.1 h, .inr c3⟩
            rw [if_pos c3, if_neg this]; exact q1
          · rw [if_neg c3]; exact q1
      · simp only [impl_Squeeze.l1]
        rw [if_pos (by omega), if_pos (by omega), if_pos (by omega), er, w64 (n := (i : Int) + 1) (by omega) (by omega), e1, r1]
        simp only [Option.bind_some]
        by_cases c4 : b2 = true
        · rw [if_pos c4]
          by_cases c2 : f < 0
          · exact absurd ⟨r2.1 c4, .inl c2⟩ c
          · have c3 : ¬ t[i].f0.f1 > (rd_T43 t f).f0.f1 := fun h => c ⟨r2.1 c4, .inr h⟩
            rw [if_neg c2, if_pos (by omega), if_pos (by omega), if_neg c3]
            exact q2
        · rw [if_neg c4]; exact q2
theorem sq_rounds : ∀ (m : Nat) (t : List S43), t.length ≤ m → Tok t → ∃ r : List S43, r.length ≤ t.length ∧ ∀ k, 20000200 + m * 200 < k → spec_Squeeze.l0 k t = some (r, true) ∧ impl_Squeeze.l0 k t = some (r, true) := by
  intro m
  induction m with
  | zero =>
    intro t hm g
    obtain ⟨f', p1, p2⟩ := sel_ok g t.length 0 (-1) (by omega) (.inl rfl)
    have e : f' = -1 := by omega
    subst e
    refine ⟨t, Nat.le_refl _, fun k hk => ?_⟩
    obtain ⟨k, rfl⟩ : ∃ j, k = (j + t.length + 1) + 1 := ⟨k - t.length - 2, by omega⟩
    obtain ⟨q1, q2⟩ := p2 k (by omega)
    have e0 : ((0 : Nat) : Int) = 0 := rfl
    rw [e0] at q1 q2
    simp only [spec_Squeeze.l0, impl_Squeeze.l0]
    rw [q1, q2]
    exact ⟨rfl, rfl⟩
  | succ m ih =>
    intro t hm g
    have h120 := g.2
    obtain ⟨f', p1, p2⟩ := sel_ok g t.length 0 (-1) (by omega) (.inl rfl)
    have e0 : ((0 : Nat) : Int) = 0 := rfl
    rcases p1 with p1 | ⟨p0, p1⟩
    · subst p1
      refine ⟨t, Nat.le_refl _, fun k hk => ?_⟩
      obtain ⟨k, rfl⟩ : ∃ j, k = (j + t.length + 1) + 1 := ⟨k - t.length - 2, by omega⟩
      obtain ⟨q1, q2⟩ := p2 k (by omega)
      rw [e0] at q1 q2
      simp only [spec_Squeeze.l0, impl_Squeeze.l0]
      rw [q1, q2]
      exact ⟨rfl, rfl⟩
    · obtain ⟨j, rfl⟩ := Int.eq_ofNat_of_zero_le p0
      have hj : j < t.length := by omega
      have el : (t.eraseIdx j).length = t.length - 1 := List.length_eraseIdx_of_lt hj
      obtain ⟨r, r1, r2⟩ := ih (t.eraseIdx j) (by omega) (g.sub (List.eraseIdx_sublist t j))
      refine ⟨r, by omega, fun k hk => ?_⟩
      obtain ⟨k, rfl⟩ : ∃ j, k = (j + t.length + 1) + 1 := ⟨k - t.length - 2, by omega⟩
      obtain ⟨q1, q2⟩ := p2 k (by omega)
      obtain ⟨z1, z2⟩ := r2 k (by omega)
      rw [e0] at q1 q2
      have dr := drop_one g.1 hj (a := (rd_T43 t (j : Int)).f0.f0) (b := (rd_T43 t (j : Int)).f0.f1) (decide_eq_true ⟨rfl, rfl⟩)
      simp only [spec_Squeeze.l0, impl_Squeeze.l0]
      rw [q1, q2]
      unfold E1 E2
      rw [if_neg (by omega), if_pos (by omega), if_pos (by omega), if_neg (by omega), spec_less (by omega) _ _ (by omega), dr]
      simp only [Option.bind_some]
      unfold slices_Delete_impl_Route_impl_Route.f
      rw [if_pos (by omega), if_pos (by omega), w64 (by omega) (by omega), if_pos rfl]
      simp only [Option.bind_some, Int.toNat_natCast]
      exact ⟨z1, z2⟩
theorem both_Squeeze {t : List S43} (h : t.length ≤ 1048576) : ∃ (r : List S43) (ok : Bool), r.length ≤ 1048576 ∧ ∀ k, 22000000 < k → spec_Squeeze.f k t = some (r, ok) ∧ impl_Squeeze.f k t = some (r, ok) := by
  have own : impl_ownTable.f t = some t := by
    unfold impl_ownTable.f slices_Clone_impl_Route_impl_Route.f
    rw [if_pos h]
    rfl
  by_cases g : Tok t
  · obtain ⟨r, r1, r2⟩ := sq_rounds t.length t (Nat.le_refl _) g
    have h120 := g.2
    refine ⟨r, true, by omega, fun k hk => ?_⟩
    obtain ⟨b1, s1, s2⟩ := spec_Tok h (k := k) (by omega)
    obtain ⟨b2, i1, i2⟩ := impl_tab h (k := k) (by omega)
    obtain ⟨z1, z2⟩ := r2 k (by omega)
    unfold spec_Squeeze.f impl_Squeeze.f
    rw [s1, own, i1]
    simp only [Option.bind_some]
    rw [if_pos (s2.2 g), if_pos (i2.2 g), spec_copy h (by omega)]
    simp only [Option.bind_some]
    exact ⟨z1, z2⟩
  · refine ⟨t, false, h, fun k hk => ?_⟩
    obtain ⟨b1, s1, s2⟩ := spec_Tok h (k := k) (by omega)
    obtain ⟨b2, i1, i2⟩ := impl_tab h (k := k) (by omega)
    unfold spec_Squeeze.f impl_Squeeze.f
    rw [s1, own, i1]
    simp only [Option.bind_some]
    rw [if_neg (fun x => g (s2.1 x)), if_neg (fun x => g (i2.1 x)), spec_copy h (by omega)]
    exact ⟨rfl, rfl⟩
theorem rd_getR {x : List S43} {j : Nat} : rd_T43 x j = x.getD j z43 := by
  unfold rd_T43
  rw [Int.toNat_natCast]
theorem rdR_set {x : List S43} {i j : Nat} (v : S43) (hi : i < x.length) : rd_T43 (x.set i v) j = if i = j then v else rd_T43 x j := by
  rw [rd_getR, rd_getR, List.getD_eq_getElem?_getD, List.getD_eq_getElem?_getD, List.getElem?_set]
  by_cases c : i = j
  · subst c; simp [hi]
  · simp [c]
theorem mark_RouteS2 (a : Int) (h0 : 0 ≤ a) (ha : a ≤ 10485760) {l : List S43} {k : Nat} (h : l.length ≤ 1048576) (hk : l.length < k) :
    ∃ M, laws_markRouteS.f k l a = some (a + 3 * l.length, M) ∧ M.length = l.length ∧ ∀ j : Nat, j < l.length → rd_T43 M j = (⟨⟨a + 3 * (j : Int), a + 3 * (j : Int) + 1⟩, a + 3 * (j : Int) + 1 + 1⟩ : S43) := by
  have key : ∀ (d k i : Nat) (x : List S43), i + d = x.length → d < k → x.length ≤ 1048576 → (∀ j : Nat, j < i → rd_T43 x j = (⟨⟨a + 3 * (j : Int), a + 3 * (j : Int) + 1⟩, a + 3 * (j : Int) + 1 + 1⟩ : S43)) →
      ∃ M, laws_markRouteS.l0 k x (a + 3 * i) i = some (a + 3 * x.length, M) ∧ M.length = x.length ∧ ∀ j : Nat, j < x.length → rd_T43 M j = (⟨⟨a + 3 * (j : Int), a + 3 * (j : Int) + 1⟩, a + 3 * (j : Int) + 1 + 1⟩ : S43) := by
    intro d
    induction d with
    | zero =>
      intro k i x hi hk hx hj
      obtain ⟨k, rfl⟩ : ∃ m, k = m + 1 := ⟨k - 1, by omega⟩
      obtain rfl : i = x.length := by omega
      simp only [laws_markRouteS.l0]
      rw [if_neg (by omega)]
      exact ⟨x, rfl, rfl, hj⟩
    | succ d ih =>
      intro k i x hi hk hx hj
      obtain ⟨k, rfl⟩ : ∃ m, k = m + 1 := ⟨k - 1, by omega⟩
      have hil : i < x.length := by omega
      have hfin : ∃ M, laws_markRouteS.l0 k (x.set i (⟨⟨a + 3 * (i : Int), a + 3 * (i : Int) + 1⟩, a + 3 * (i : Int) + 1 + 1⟩ : S43)) (a + 3 * ((i + 1 : Nat) : Int)) ((i + 1 : Nat) : Int) = some (a + 3 * x.length, M) ∧ M.length = x.length ∧ ∀ j : Nat, j < x.length → rd_T43 M j = (⟨⟨a + 3 * (j : Int), a + 3 * (j : Int) + 1⟩, a + 3 * (j : Int) + 1 + 1⟩ : S43) := by
        have z := ih k (i + 1) (x.set i (⟨⟨a + 3 * (i : Int), a + 3 * (i : Int) + 1⟩, a + 3 * (i : Int) + 1 + 1⟩ : S43)) (by rw [List.length_set]; omega) (by omega) (by rw [List.length_set]; exact hx) (fun j hj2 => by
          rw [rdR_set _ hil]
          by_cases c : i = j
          · subst c; rw [if_pos rfl]
          · rw [if_neg c]; exact hj j (by omega))
        rw [List.length_set] at z; exact z
      simp only [laws_markRouteS.l0, Option.bind_some]
      rw [if_pos (by omega), if_pos (by omega)]
      simp only [Int.toNat_natCast, List.set_set, rdR_set _ hil, if_true]
      have w1 : wrap64 (a + 3 * (i : Int) + 1) = a + 3 * (i : Int) + 1 := w64 (by omega) (by omega)
      have w2' : wrap64 (a + 3 * (i : Int) + 1 + 1) = a + 3 * (i : Int) + 1 + 1 := w64 (by omega) (by omega)
      have w3 : wrap64 (a + 3 * (i : Int) + 1 + 1 + 1) = a + 3 * ((i + 1 : Nat) : Int) := by rw [w64 (by omega) (by omega)]; omega
      have w4 : wrap64 ((i : Int) + 1) = ((i + 1 : Nat) : Int) := by rw [w64 (by omega) (by omega)]; omega
      rw [w1, w2', w3, w4]
      exact hfin
  have z := key l.length k 0 l (by omega) hk h (fun j hj => by omega)
  have e : a + 3 * ((0 : Nat) : Int) = a := by omega
  rw [e] at z
  exact z
theorem held_RouteS2 (a : Int) (h0 : 0 ≤ a) (ha : a ≤ 10485760) {M : List S43} {k : Nat} (h : M.length ≤ 1048576) (hk : M.length < k) (hM : ∀ j : Nat, j < M.length → rd_T43 M j = (⟨⟨a + 3 * (j : Int), a + 3 * (j : Int) + 1⟩, a + 3 * (j : Int) + 1 + 1⟩ : S43)) : laws_heldRouteS.f k M a = some (a + 3 * M.length) := by
  have key : ∀ (d k i : Nat), i + d = M.length → d < k → laws_heldRouteS.l0 k M (a + 3 * i) i = some (a + 3 * M.length) := by
    intro d
    induction d with
    | zero =>
      intro k i hi hk
      obtain ⟨k, rfl⟩ : ∃ m, k = m + 1 := ⟨k - 1, by omega⟩
      obtain rfl : i = M.length := by omega
      simp only [laws_heldRouteS.l0]
      rw [if_neg (by omega)]
    | succ d ih =>
      intro k i hi hk
      obtain ⟨k, rfl⟩ : ∃ m, k = m + 1 := ⟨k - 1, by omega⟩
      have z := ih k (i + 1) (by omega) (by omega)
      have w1 : wrap64 (a + 3 * (i : Int) + 1) = a + 3 * (i : Int) + 1 := w64 (by omega) (by omega)
      have w2' : wrap64 (a + 3 * (i : Int) + 1 + 1) = a + 3 * (i : Int) + 1 + 1 := w64 (by omega) (by omega)
      have w3 : wrap64 (a + 3 * (i : Int) + 1 + 1 + 1) = a + 3 * ((i + 1 : Nat) : Int) := by rw [w64 (by omega) (by omega)]; omega
      have w4 : wrap64 ((i : Int) + 1) = ((i + 1 : Nat) : Int) := by rw [w64 (by omega) (by omega)]; omega
      have c1 : (i : Int) < (M.length : Int) := by clear w1 w2' w3 w4 z; omega
      have c2 : (0 : Int) ≤ (i : Int) := by clear w1 w2' w3 w4 z; omega
      simp only [laws_heldRouteS.l0]
      rw [if_pos c1, if_pos c2, hM i (by clear w1 w2' w3 w4 z; omega), w1, if_pos rfl, if_pos rfl, w2', if_pos rfl, w3, w4]
      exact z
  have z := key M.length k 0 (by omega) hk
  have e : a + 3 * ((0 : Nat) : Int) = a := by omega
  rw [e] at z
  exact z
theorem mark_Table2 (a : Int) (h0 : 0 ≤ a) (ha : a ≤ 10485760) {l : List S43} {k : Nat} (h : l.length ≤ 1048576) (hk : l.length < k) :
    ∃ M, laws_markTable.f k l a = some (a + 3 * l.length, M) ∧ ∀ k' : Nat, l.length < k' → laws_heldTable.f k' M a = some (a + 3 * l.length) := by
  obtain ⟨M, h1, h2, h3⟩ := mark_RouteS2 a h0 ha h hk
  refine ⟨M, ?_, fun k' hk' => ?_⟩
  · unfold laws_markTable.f
    rw [h1]; rfl
  · unfold laws_heldTable.f
    rw [held_RouteS2 a h0 ha (M := M) (k := k') (by omega) (by omega) (by rw [h2]; exact h3), h2]
    simp only [Option.bind_some]
    rw [if_neg (by omega)]
theorem FnExactSqueeze : FnExactSqueeze.Pure := by
  intro l hw
  have hm : l.length ≤ 9223372036854775807 := hw.1
  obtain ⟨K, hK⟩ : ∃ K, K = l.length + 23000000 := ⟨_, rfl⟩
  refine ⟨K + 3, ?_⟩
  unfold laws_FnExactSqueeze.f
  rw [sz_Table hm]
  simp only [Option.bind_some]
  by_cases hl : l.length ≤ 1048576
  · have hn : (l.map cvR).length = l.length := List.length_map ..
    obtain ⟨r, ok, hlen, hr⟩ := both_Squeeze (t := l.map cvR) (by omega)
    have hs := (hr (K + 3) (by omega)).1
    have hi := (hr (K + 3) (by omega)).2
    have hi2 := (hr (K + 1) (by omega)).2
    obtain ⟨M1, m1, _⟩ := mark_Table2 1 (by omega) (by omega) (l := l.map cvR) (k := K + 2) (by omega) (by omega)
    obtain ⟨M2, m2, m3⟩ := mark_Table2 1 (by omega) (by omega) (l := r) (k := K + 1) (by omega) (by omega)
    have m5 := m3 (K + 1) (by omega)
    have m6 := m3 K (by omega)
    rw [if_pos hl, if_neg (by omega), to_Table hl (by omega)]
    simp only [Option.bind_some]
    rw [hs]
    simp only [Option.bind_some]
    rw [hi]
    simp only [Option.bind_some]
    rw [eq_Table (by omega) (by omega)]
    simp only [Option.bind_some, if_true, bne_self_eq_false]
    simp only [laws_FnExactSqueeze.j0]
    rw [if_neg (by decide), to_Table hl (by omega)]
    simp only [Option.bind_some]
    rw [eq_Table (by omega) (by omega)]
    simp only [Option.bind_some, if_true]
    rw [m1]
    simp only [Option.bind_some]
    rw [if_neg (by omega), eq_Table (by omega) (by omega)]
    simp only [Option.bind_some, if_true, bne_self_eq_false]
    simp only [laws_FnExactSqueeze.j1]
    rw [if_neg (by decide), m2]
    simp only [Option.bind_some]
    rw [m5]
    simp only [Option.bind_some]
    rw [if_neg (by omega), if_pos trivial, to_Table hl (by omega)]
    simp only [Option.bind_some]
    rw [hi2]
    simp only [Option.bind_some]
    rw [eq_Table (by omega) (by omega)]
    simp only [Option.bind_some, if_true, bne_self_eq_false]
    simp only [laws_FnExactSqueeze.j2]
    rw [if_neg (by decide), m6]
    simp only [Option.bind_some]
    rw [if_neg (by omega)]
    simp
  · rw [if_neg hl]; rfl

end Go.Proofs.Ytflfbaofgfandaa.Pure
