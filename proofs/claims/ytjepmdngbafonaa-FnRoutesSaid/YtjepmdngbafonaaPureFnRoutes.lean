/- The plain law of FnRoutes: the program's law answers true at every draw. -/
import Derived.Test.YtjepmdngbafonaaStmtFnRoutes
namespace Go.Proofs.Ytjepmdngbafonaa.Pure
open Go.RowKit Go.Proofs.Ytjepmdngbafonaa.QFnRoutes Go.Proofs.YtjepmdngbafonaaR.PrintWords Go.Proofs.YtjepmdngbafonaaR.PrintLast Go.Proofs.YtjepmdngbafonaaR.PrintMore
set_option linter.unusedVariables false
set_option linter.unusedSimpArgs false

theorem len17 {l : Int} (h0 : 0 ≤ l) (h1 : l ≤ 16) : l = 0 ∨ l = 1 ∨ l = 2 ∨ l = 3 ∨ l = 4 ∨ l = 5 ∨ l = 6 ∨ l = 7 ∨ l = 8 ∨ l = 9 ∨ l = 10 ∨ l = 11 ∨ l = 12 ∨ l = 13 ∨ l = 14 ∨ l = 15 ∨ l = 16 := by omega
/-- How many addresses a prefix of length l has. -/
def psz (l : Int) : Int := 2 ^ (16 - l).toNat
theorem psz_pos (l : Int) : 0 < psz l := Int.pow_pos (by decide)
theorem psz_le {l : Int} (h0 : 0 ≤ l) (h1 : l ≤ 16) : psz l ≤ 65536 := by
  rcases len17 h0 h1 with rfl | rfl | rfl | rfl | rfl | rfl | rfl | rfl | rfl | rfl | rfl | rfl | rfl | rfl | rfl | rfl | rfl <;> decide
theorem psz_half {l : Int} (h0 : 0 ≤ l) (h1 : l ≤ 15) : psz l = 2 * psz (l + 1) := by
  rcases len17 h0 (by omega) with rfl | rfl | rfl | rfl | rfl | rfl | rfl | rfl | rfl | rfl | rfl | rfl | rfl | rfl | rfl | rfl | rfl <;> first | decide | omega
theorem psz_top {l : Int} (h0 : 0 ≤ l) (h1 : l ≤ 16) : 65536 = psz l * 2 ^ l.toNat := by
  rcases len17 h0 h1 with rfl | rfl | rfl | rfl | rfl | rfl | rfl | rfl | rfl | rfl | rfl | rfl | rfl | rfl | rfl | rfl | rfl <;> decide
theorem w64 {n : Int} (h0 : -9223372036854775808 ≤ n) (h1 : n ≤ 9223372036854775807) : wrap64 n = n := by unfold wrap64; omega
theorem shl_psz {l : Int} (h0 : 0 ≤ l) (h1 : l ≤ 16) : shl .i64 1 (16 - l) = psz l := by
  rcases len17 h0 h1 with rfl | rfl | rfl | rfl | rfl | rfl | rfl | rfl | rfl | rfl | rfl | rfl | rfl | rfl | rfl | rfl | rfl <;> decide
theorem u64w {n : Int} (h0 : 0 ≤ n) (h1 : n ≤ 16) : IntKind.u64.wrap n = n := by
  rcases len17 h0 h1 with rfl | rfl | rfl | rfl | rfl | rfl | rfl | rfl | rfl | rfl | rfl | rfl | rfl | rfl | rfl | rfl | rfl <;> decide
/-- A valid prefix. -/
def Pok (n l : Int) : Prop := 0 ≤ l ∧ l ≤ 16 ∧ 0 ≤ n ∧ n ≤ 65535 ∧ n % psz l = 0
instance (n l : Int) : Decidable (Pok n l) := by unfold Pok; infer_instance
theorem Pok.top {n l : Int} (h : Pok n l) : n + psz l ≤ 65536 := by
  obtain ⟨h0, h1, h2, h3, h4⟩ := h
  have e := psz_top h0 h1
  have p := psz_pos l
  have d := Int.emod_add_mul_ediv n (psz l)
  rw [h4, Int.zero_add] at d
  have q : n / psz l < 2 ^ l.toNat := by
    apply Int.ediv_lt_of_lt_mul p
    rw [Int.mul_comm]; omega
  have m : psz l * (n / psz l + 1) ≤ psz l * 2 ^ l.toNat := Int.mul_le_mul_of_nonneg_left (by omega) (by omega)
  rw [Int.mul_add] at m
  omega
theorem spec_In (a b c : Int) : spec_l01In.f a b c = some (decide (b ≤ a ∧ a ≤ c)) := by
  unfold spec_l01In.f
  by_cases h : b ≤ a <;> simp [h]
theorem spec_Addr (a : Int) : spec_l01Addr.f a = some (decide (0 ≤ a ∧ a ≤ 65535)) := by
  unfold spec_l01Addr.f; rw [spec_In]; rfl
theorem spec_Size {l : Int} (h0 : 0 ≤ l) (h1 : l ≤ 16) : spec_l01Size2.f l = some (psz l) := by
  unfold spec_l01Size2.f
  rw [w64 (by omega) (by omega), u64w (by omega) (by omega), if_pos (by omega), shl_psz h0 h1]
theorem spec_Pok (n l : Int) : spec_PrefixOk.f n l = some (decide (Pok n l)) := by
  unfold spec_PrefixOk.f
  rw [spec_In, spec_Addr]
  simp only [Option.bind_some, decide_eq_true_eq]
  by_cases hl : 0 ≤ l ∧ l ≤ 16
  · rw [if_pos hl]
    by_cases hn : 0 ≤ n ∧ n ≤ 65535
    · rw [if_pos hn, spec_Size hl.1 hl.2]
      have p := psz_pos l
      simp only [Option.bind_some]
      rw [if_neg (by omega), Int.tmod_eq_emod_of_nonneg hn.1]
      congr 1
      by_cases e : n % psz l = 0
      · rw [e]; simp [Pok, hl, hn, e]
      · simp [Pok, hl, hn, e]
    · rw [if_neg hn]; congr 1; symm; rw [decide_eq_false_iff_not]; unfold Pok; omega
  · rw [if_neg hl]; congr 1; symm; rw [decide_eq_false_iff_not]; unfold Pok; omega
theorem impl_In (a b c : Int) : impl_within.f a b c = some (decide (b ≤ a ∧ a ≤ c)) := by
  unfold impl_within.f
  by_cases h : b ≤ a <;> simp [h]
theorem impl_Addr (a : Int) : impl_isAddr.f a = some (decide (0 ≤ a ∧ a ≤ 65535)) := by
  unfold impl_isAddr.f; rw [impl_In]; rfl
theorem impl_Size (n : Int) {l : Int} (h0 : 0 ≤ l) (h1 : l ≤ 16) : impl_Prefix_size.f n l = some (psz l) := by
  unfold impl_Prefix_size.f
  rw [w64 (by omega) (by omega), if_pos (by omega), shl_psz h0 h1]
theorem impl_Pok (n l : Int) : impl_PrefixOk.f n l = some (decide (Pok n l)) := by
  unfold impl_PrefixOk.f
  rw [impl_In, impl_Addr]
  simp only [Option.bind_some, decide_eq_true_eq]
  by_cases hl : 0 ≤ l ∧ l ≤ 16
  · rw [if_pos hl]
    by_cases hn : 0 ≤ n ∧ n ≤ 65535
    · rw [if_pos hn, impl_Size n hl.1 hl.2]
      have p := psz_pos l
      simp only [Option.bind_some]
      rw [if_neg (by omega), Int.tmod_eq_emod_of_nonneg hn.1]
      congr 1
      by_cases e : n % psz l = 0
      · rw [e]; simp [Pok, hl, hn, e]
      · simp [Pok, hl, hn, e]
    · rw [if_neg hn]; congr 1; symm; rw [decide_eq_false_iff_not]; unfold Pok; omega
  · rw [if_neg hl]; congr 1; symm; rw [decide_eq_false_iff_not]; unfold Pok; omega
/-- A prefix holds an address. -/
def Phas (n l a : Int) : Prop := n ≤ a ∧ a ≤ n + psz l - 1
instance (n l a : Int) : Decidable (Phas n l a) := by unfold Phas; infer_instance
theorem spec_Has (n l a : Int) : spec_HasAddr.f n l a = some (decide (Pok n l ∧ Phas n l a)) := by
  unfold spec_HasAddr.f
  rw [spec_Pok]
  simp only [Option.bind_some, decide_eq_true_eq]
  by_cases h : Pok n l
  · have p := psz_pos l
    have p2 := psz_le h.1 h.2.1
    have h3 := h
    unfold Pok at h3
    rw [if_pos h, spec_Size h.1 h.2.1]
    simp only [Option.bind_some]
    rw [w64 (n := n + psz l) (by omega) (by omega), w64 (by omega) (by omega), spec_In]
    simp [h, Phas]
  · simp [h]
theorem impl_has {n l : Int} (h : Pok n l) (a : Int) : impl_Prefix_has.f n l a = some (decide (Phas n l a)) := by
  have p := psz_pos l
  have p2 := psz_le h.1 h.2.1
  have h3 := h
  unfold Pok at h3
  unfold impl_Prefix_has.f
  rw [impl_Size n h.1 h.2.1]
  simp only [Option.bind_some]
  rw [w64 (n := n + psz l) (by omega) (by omega), w64 (by omega) (by omega), impl_In]
  rfl
/-- A loop that asks each index and ends at the first refusal. -/
theorem all_loop {F : Nat → Int → Option Bool} {n : Nat} {P : Nat → Prop} {e : Bool}
    (hs : ∀ (k i : Nat), i < n → (∀ j, j < i → P j) → (P i ∧ F (k + 1) i = F k ((i : Int) + 1)) ∨ (¬ P i ∧ F (k + 1) i = some false))
    (he : ∀ k : Nat, (∀ j, j < n → P j) → F (k + 1) n = some e) : ∀ (d k i : Nat), i + d = n → d < k → (∀ j, j < i → P j) →
    ∃ b, F k i = some b ∧ (b = true ↔ ((∀ j, j < n → P j) ∧ e = true)) := by
  intro d
  induction d with
  | zero =>
    intro k i hi hk hp
    obtain ⟨k, rfl⟩ : ∃ m, k = m + 1 := ⟨k - 1, by omega⟩
    obtain rfl : i = n := by omega
    exact ⟨e, he k hp, ⟨fun h => ⟨hp, h⟩, fun h => h.2⟩⟩
  | succ d ih =>
    intro k i hi hk hp
    obtain ⟨k, rfl⟩ : ∃ m, k = m + 1 := ⟨k - 1, by omega⟩
    rcases hs k i (by omega) hp with ⟨h1, h2⟩ | ⟨h1, h2⟩
    · have e1 : (i : Int) + 1 = ((i + 1 : Nat) : Int) := by omega
      rw [h2, e1]
      refine ih k (i + 1) (by omega) (by omega) (fun j hj => ?_)
      by_cases hji : j = i
      · rw [hji]; exact h1
      · exact hp j (by omega)
    · refine ⟨false, h2, ⟨(fun h => by cases h), fun h => absurd (h.1 i (by omega)) h1⟩⟩
/-- A loop that copies a list, element by element. -/
theorem copy_loop {α β : Type} {F : Nat → List α → List β → Int → Option (List β)} {cv : α → β} (z : α) {N : Nat}
    (hs : ∀ (k i : Nat) (x : List α) (y : List β), x.length ≤ N → i < x.length → i < y.length → F (k + 1) x y i = F k x (y.set i (cv (x.getD i z))) ((i : Int) + 1))
    (he : ∀ (k : Nat) (x : List α) (y : List β), F (k + 1) x y x.length = some y) (x : List α) (hN : x.length ≤ N) : ∀ (d k i : Nat) (y : List β), i + d = x.length → d < k → y.length = x.length →
    y.take i = (x.take i).map cv → F k x y i = some (x.map cv) := by
  intro d
  induction d with
  | zero =>
    intro k i y hi hk hl ht
    obtain ⟨k, rfl⟩ : ∃ m, k = m + 1 := ⟨k - 1, by omega⟩
    obtain rfl : i = x.length := by omega
    rw [he]
    rw [List.take_of_length_le (by omega), List.take_of_length_le (by omega)] at ht
    rw [ht]
  | succ d ih =>
    intro k i y hi hk hl ht
    obtain ⟨k, rfl⟩ : ∃ m, k = m + 1 := ⟨k - 1, by omega⟩
    have e1 : (i : Int) + 1 = ((i + 1 : Nat) : Int) := by omega
    rw [hs k i x y hN (by omega) (by omega), e1]
    refine ih k (i + 1) _ (by omega) (by omega) (by rw [List.length_set, hl]) ?_
    have hx : i < x.length := by omega
    have hy : i < y.length := by omega
    rw [List.take_succ_eq_append_getElem (by rw [List.length_set]; exact hy), List.take_succ_eq_append_getElem hx, List.map_append, List.take_set, ht]
    congr 1
    · rw [List.set_eq_of_length_le]
      simp; omega
    · simp [List.getD_eq_getElem?_getD, hx]
/-- Two equal lists, compared element by element. -/
theorem same_loop {α : Type} {F : Nat → List α → List α → Int → Option Bool} {N : Nat}
    (hs : ∀ (k i : Nat) (x : List α), x.length ≤ N → i < x.length → F (k + 1) x x i = F k x x ((i : Int) + 1))
    (he : ∀ (k : Nat) (x : List α), F (k + 1) x x x.length = some true) (x : List α) (hN : x.length ≤ N) : ∀ (d k i : Nat), i + d = x.length → d < k → F k x x i = some true := by
  intro d
  induction d with
  | zero =>
    intro k i hi hk
    obtain ⟨k, rfl⟩ : ∃ m, k = m + 1 := ⟨k - 1, by omega⟩
    obtain rfl : i = x.length := by omega
    exact he k x
  | succ d ih =>
    intro k i hi hk
    obtain ⟨k, rfl⟩ : ∃ m, k = m + 1 := ⟨k - 1, by omega⟩
    have e1 : (i : Int) + 1 = ((i + 1 : Nat) : Int) := by omega
    rw [hs k i x hN (by omega), e1]
    exact ih k (i + 1) (by omega) (by omega)
/-- The same where what stands behind the loop wants m rounds more. -/
theorem all_loopm (m : Nat) {F : Nat → Int → Option Bool} {n : Nat} {P : Nat → Prop} {e : Bool}
    (hs : ∀ (k i : Nat), i < n → (∀ j, j < i → P j) → (P i ∧ F (k + 1) i = F k ((i : Int) + 1)) ∨ (¬ P i ∧ F (k + 1) i = some false))
    (he : ∀ k : Nat, m ≤ k → (∀ j, j < n → P j) → F (k + 1) n = some e) : ∀ (d k i : Nat), i + d = n → d + m < k → (∀ j, j < i → P j) →
    ∃ b, F k i = some b ∧ (b = true ↔ ((∀ j, j < n → P j) ∧ e = true)) := by
  intro d
  induction d with
  | zero =>
    intro k i hi hk hp
    obtain ⟨k, rfl⟩ : ∃ m, k = m + 1 := ⟨k - 1, by omega⟩
    obtain rfl : i = n := by omega
    exact ⟨e, he k (by omega) hp, ⟨fun h => ⟨hp, h⟩, fun h => h.2⟩⟩
  | succ d ih =>
    intro k i hi hk hp
    obtain ⟨k, rfl⟩ : ∃ m, k = m + 1 := ⟨k - 1, by omega⟩
    rcases hs k i (by omega) hp with ⟨h1, h2⟩ | ⟨h1, h2⟩
    · have e1 : (i : Int) + 1 = ((i + 1 : Nat) : Int) := by omega
      rw [h2, e1]
      refine ih k (i + 1) (by omega) (by omega) (fun j hj => ?_)
      by_cases hji : j = i
      · rw [hji]; exact h1
      · exact hp j (by omega)
    · refine ⟨false, h2, ⟨(fun h => by cases h), fun h => absurd (h.1 i (by omega)) h1⟩⟩
/-- slices.IndexFunc: the first place at which p holds. -/
theorem index_loop {α : Type} {F : Nat → Int → Option Int} {p : α → Bool} (z : α) (x : List α)
    (hs : ∀ (k i : Nat), i < x.length → F (k + 1) i = if p (x.getD i z) = true then some (i : Int) else F k ((i : Int) + 1))
    (he : ∀ k : Nat, F (k + 1) (x.length : Int) = some (-1)) : ∀ (d k i : Nat), i + d = x.length → d < k →
    (F k i = some (-1) ∧ ∀ q, i ≤ q → q < x.length → p (x.getD q z) = false) ∨ (∃ j : Nat, F k i = some (j : Int) ∧ i ≤ j ∧ j < x.length ∧ p (x.getD j z) = true ∧ ∀ q, i ≤ q → q < j → p (x.getD q z) = false) := by
  intro d
  induction d with
  | zero =>
    intro k i hi hk
    obtain ⟨k, rfl⟩ : ∃ m, k = m + 1 := ⟨k - 1, by omega⟩
    obtain rfl : i = x.length := by omega
    exact .inl ⟨he k, fun q h1 h2 => by omega⟩
  | succ d ih =>
    intro k i hi hk
    obtain ⟨k, rfl⟩ : ∃ m, k = m + 1 := ⟨k - 1, by omega⟩
    rw [hs k i (by omega)]
    by_cases c : p (x.getD i z) = true
    · exact .inr ⟨i, by rw [if_pos c], Nat.le_refl _, by omega, c, fun q h1 h2 => by omega⟩
    · have c' : p (x.getD i z) = false := by simpa using c
      have e1 : (i : Int) + 1 = ((i + 1 : Nat) : Int) := by omega
      rw [if_neg c, e1]
      have hq : ∀ q, i ≤ q → ¬ i + 1 ≤ q → p (x.getD q z) = false := fun q h1 h2 => by
        have : q = i := by omega
        rw [this]; exact c'
      rcases ih k (i + 1) (by omega) (by omega) with ⟨h1, h2⟩ | ⟨j, h1, h2, h3, h4, h5⟩
      · exact .inl ⟨h1, fun q q1 q2 => if c3 : i + 1 ≤ q then h2 q c3 q2 else hq q q1 c3⟩
      · exact .inr ⟨j, h1, by omega, h3, h4, fun q q1 q2 => if c3 : i + 1 ≤ q then h5 q c3 q2 else hq q q1 c3⟩
theorem drop_cons' {α : Type} (x : List α) (z : α) {j : Nat} (hj : j < x.length) : x.drop j = x.getD j z :: x.drop (j + 1) := by
  rw [List.drop_eq_getElem_cons hj, List.getD_eq_getElem?_getD, List.getElem?_eq_getElem hj]
  rfl
theorem take_snoc' {α : Type} (x : List α) (z : α) {j : Nat} (hj : j < x.length) : x.take (j + 1) = x.take j ++ [x.getD j z] := by
  rw [List.take_succ_eq_append_getElem hj, List.getD_eq_getElem?_getD, List.getElem?_eq_getElem hj]
  rfl
/-- slices.DeleteFunc's loop: what does not satisfy p moves to the front. -/
theorem del_loop {α : Type} {F : Nat → List α → Int → Int → Option (List α)} {p : α → Bool} (z : α) (n : Nat)
    (hs : ∀ (k : Nat) (x : List α) (i j : Nat), i < j → j < x.length → x.length = n → F (k + 1) x i j = if p (x.getD j z) = true then F k x i ((j : Int) + 1) else F k (x.set i (x.getD j z)) ((i : Int) + 1) ((j : Int) + 1))
    (he : ∀ (k : Nat) (x : List α) (i : Nat), i < n → x.length = n → F (k + 1) x i (n : Int) = some (x.take i)) : ∀ (d k : Nat) (x : List α) (i j : Nat), j + d = n → i < j → x.length = n → d < k →
    F k x i j = some (x.take i ++ (x.drop j).filter (fun y => !p y)) := by
  intro d
  induction d with
  | zero =>
    intro k x i j hj hi hx hk
    obtain ⟨k, rfl⟩ : ∃ m, k = m + 1 := ⟨k - 1, by omega⟩
    obtain rfl : j = n := by omega
    rw [he k x i (by omega) hx, List.drop_eq_nil_of_le (by omega)]
    simp
  | succ d ih =>
    intro k x i j hj hi hx hk
    obtain ⟨k, rfl⟩ : ∃ m, k = m + 1 := ⟨k - 1, by omega⟩
    have hjx : j < x.length := by omega
    have hix : i < x.length := by omega
    have e1 : (j : Int) + 1 = ((j + 1 : Nat) : Int) := by omega
    have e2 : (i : Int) + 1 = ((i + 1 : Nat) : Int) := by omega
    rw [hs k x i j hi hjx hx, e1, e2, drop_cons' x z hjx, List.filter_cons]
    by_cases c : p (x.getD j z) = true
    · rw [if_pos c, ih k x i (j + 1) (by omega) (by omega) hx (by omega), c]
      simp
    · have c' : p (x.getD j z) = false := by simpa using c
      rw [if_neg c, ih k (x.set i (x.getD j z)) (i + 1) (j + 1) (by omega) (by omega) (by rw [List.length_set]; exact hx) (by omega), c']
      have hset : i < (x.set i (x.getD j z)).length := by rw [List.length_set]; exact hix
      rw [take_snoc' _ z hset, List.drop_set_of_lt (by omega), List.take_set_of_le (Nat.le_refl _), List.getD_eq_getElem?_getD, List.getElem?_set, if_pos rfl, if_pos hix]
      simp
/-- The first place, and the rest filtered: the whole filtered. -/
theorem filter_at {α : Type} {p : α → Bool} (z : α) (x : List α) {j : Nat} (hj : j < x.length) (hp : p (x.getD j z) = true) (h : ∀ q, q < j → p (x.getD q z) = false) : x.take j ++ (x.drop (j + 1)).filter (fun y => !p y) = x.filter (fun y => !p y) := by
  have e1 : (x.take j).filter (fun y => !p y) = x.take j := by
    rw [List.filter_eq_self]
    intro y hy
    obtain ⟨q, hq, rfl⟩ := List.mem_iff_getElem.1 hy
    have hq2 : q < j := by rw [List.length_take] at hq; omega
    have := h q hq2
    rw [List.getD_eq_getElem?_getD, List.getElem?_eq_getElem (by omega)] at this
    rw [List.getElem_take]
    simpa using this
  have e2 : x = x.take j ++ (x.getD j z :: x.drop (j + 1)) := by
    rw [← drop_cons' x z hj, List.take_append_drop]
  have e3 : x.filter (fun y => !p y) = (x.take j).filter (fun y => !p y) ++ (x.getD j z :: x.drop (j + 1)).filter (fun y => !p y) := by
    rw [← List.filter_append, ← e2]
  rw [e3, e1, List.filter_cons, hp]
  simp
theorem filter_none {α : Type} {p : α → Bool} (z : α) (x : List α) (h : ∀ q, q < x.length → p (x.getD q z) = false) : x.filter (fun y => !p y) = x := by
  rw [List.filter_eq_self]
  intro y hy
  obtain ⟨q, hq, rfl⟩ := List.mem_iff_getElem.1 hy
  have := h q hq
  rw [List.getD_eq_getElem?_getD, List.getElem?_eq_getElem hq] at this
  simpa using this
/-- A loop that appends what satisfies q. -/
theorem keep_loop {α γ : Type} {F : Nat → Int → List α → Option γ} {q : α → Bool} (z : α) (x : List α) {N : Nat} {G : List α → Option γ} (m : Nat)
    (hs : ∀ (k i : Nat) (acc : List α), i < x.length → acc.length ≤ i → F (k + 1) i acc = F k ((i : Int) + 1) (if q (x.getD i z) = true then acc ++ [x.getD i z] else acc))
    (he : ∀ (k : Nat) (acc : List α), m ≤ k → acc.length ≤ x.length → F (k + 1) (x.length : Int) acc = G acc) : ∀ (d k i : Nat) (acc : List α), i + d = x.length → acc.length ≤ i → d + m < k → F k i acc = G (acc ++ (x.drop i).filter q) := by
  intro d
  induction d with
  | zero =>
    intro k i acc hi ha hk
    obtain ⟨k, rfl⟩ : ∃ m, k = m + 1 := ⟨k - 1, by omega⟩
    obtain rfl : i = x.length := by omega
    rw [he k acc (by omega) ha, List.drop_eq_nil_of_le (Nat.le_refl _)]
    simp
  | succ d ih =>
    intro k i acc hi ha hk
    obtain ⟨k, rfl⟩ : ∃ m, k = m + 1 := ⟨k - 1, by omega⟩
    have e1 : (i : Int) + 1 = ((i + 1 : Nat) : Int) := by omega
    have hix : i < x.length := by omega
    rw [hs k i acc hix ha, e1, drop_cons' x z hix, List.filter_cons]
    by_cases c : q (x.getD i z) = true
    · rw [if_pos c, if_pos c, ih k (i + 1) _ (by omega) (by rw [List.length_append]; simp only [List.length_cons, List.length_nil]; omega) (by omega)]
      simp
    · rw [if_neg c, if_neg c, ih k (i + 1) _ (by omega) (by omega) (by omega)]
/-- Prefix a stands ahead of prefix b. -/
def Ahead (n l m k : Int) : Prop := n < m ∨ n = m ∧ l < k
theorem spec_Ahead (n l m k : Int) : ∃ b, spec_l02Ahead.f n l m k = some b ∧ (b = true ↔ Ahead n l m k) := by
  unfold spec_l02Ahead.f Ahead
  by_cases h : n < m
  · exact ⟨true, by rw [if_pos h], by simp [h]⟩
  · by_cases h2 : n = m
    · exact ⟨decide (l < k), by rw [if_neg h, if_pos h2], by simp [h2]⟩
    · exact ⟨false, by rw [if_neg h, if_neg h2], by simp [h, h2]⟩
theorem impl_Compare {n l m k : Int} (h1 : Pok n l) (h2 : Pok m k) : ∃ c, impl_comparePrefixes.f n l m k = some c ∧ (¬ c ≥ 0 ↔ Ahead n l m k) := by
  obtain ⟨a0, a1, a2, a3, _⟩ := h1
  obtain ⟨b0, b1, b2, b3, _⟩ := h2
  unfold impl_comparePrefixes.f Ahead
  by_cases h : n = m
  · refine ⟨l - k, by rw [if_pos h, w64 (by omega) (by omega)], by omega⟩
  · refine ⟨n - m, by rw [if_neg h, w64 (by omega) (by omega)], by omega⟩
/-- The route at an index is valid and stands behind the one ahead of it. -/
def Rat (t : List S30) (j : Nat) : Prop :=
  Pok (rd_T30 t j).f0.f0 (rd_T30 t j).f0.f1 ∧ (0 ≤ (rd_T30 t j).f1 ∧ (rd_T30 t j).f1 ≤ 999) ∧
    (0 < j → Ahead (rd_T30 t ((j : Int) - 1)).f0.f0 (rd_T30 t ((j : Int) - 1)).f0.f1 (rd_T30 t j).f0.f0 (rd_T30 t j).f0.f1)
theorem spec_tab {t : List S30} (h : t.length ≤ 1048576) {k : Nat} (hk : t.length < k) : ∃ b, spec_TableOk.l0 k 0 t = some b ∧ (b = true ↔ ∀ j, j < t.length → Rat t j) := by
  have x := all_loop (F := fun k i => spec_TableOk.l0 k i t) (n := t.length) (P := Rat t) (e := true) ?_ ?_ t.length k 0 (by omega) hk (fun j hj => by omega)
  · obtain ⟨b, h1, h2⟩ := x
    exact ⟨b, h1, by simpa using h2⟩
  · intro k i hi hp
    simp only [spec_TableOk.l0]
    rw [if_pos (by omega), if_pos (by omega), spec_Pok, spec_In]
    simp only [Option.bind_some, decide_eq_true_eq]
    by_cases c1 : Pok (rd_T30 t i).f0.f0 (rd_T30 t i).f0.f1
    · rw [if_pos c1]
      by_cases c2 : 0 ≤ (rd_T30 t i).f1 ∧ (rd_T30 t i).f1 ≤ 999
      · rw [if_pos c2]
        by_cases c3 : i = 0
        · subst c3
          rw [if_neg (by omega), w64 (by omega) (by omega)]
          exact .inl ⟨⟨c1, c2, fun h => by omega⟩, rfl⟩
        · rw [if_pos (by omega), w64 (n := (i : Int) - 1) (by omega) (by omega), if_pos (by omega), if_pos (by omega)]
          obtain ⟨b, hb, hb2⟩ := spec_Ahead (rd_T30 t ((i : Int) - 1)).f0.f0 (rd_T30 t ((i : Int) - 1)).f0.f1 (rd_T30 t i).f0.f0 (rd_T30 t i).f0.f1
          rw [hb]
          simp only [Option.bind_some]
          by_cases c4 : b = true
          · rw [if_pos c4, w64 (by omega) (by omega)]
            exact .inl ⟨⟨c1, c2, fun _ => hb2.1 c4⟩, rfl⟩
          · rw [if_neg c4]
            exact .inr ⟨fun h => c4 (hb2.2 (h.2.2 (by omega))), rfl⟩
      · rw [if_neg c2]
        exact .inr ⟨fun h => c2 h.2.1, rfl⟩
    · rw [if_neg c1]
      exact .inr ⟨fun h => c1 h.1, rfl⟩
  · intro k _
    simp only [spec_TableOk.l0]
    rw [if_neg (by omega)]
theorem impl_tab {t : List S30} (h : t.length ≤ 1048576) {k : Nat} (hk : t.length < k) : ∃ b, impl_TableOk.f k t = some b ∧ (b = true ↔ (∀ j, j < t.length → Rat t j) ∧ t.length ≤ 120) := by
  unfold impl_TableOk.f
  have x := all_loop (F := fun k i => impl_TableOk.l0 k t t.length i t) (n := t.length) (P := Rat t) (e := decide (t.length ≤ 120)) ?_ ?_ t.length k 0 (by omega) hk (fun j hj => by omega)
  · obtain ⟨b, h1, h2⟩ := x
    exact ⟨b, h1, by simpa using h2⟩
  · intro k i hi hp
    simp only [impl_TableOk.l0]
    unfold impl_isRoute.f
    rw [if_pos (by omega), if_pos (by omega), if_pos (by omega), impl_Pok, impl_In]
    simp only [Option.bind_some, decide_eq_true_eq]
    by_cases c1 : Pok (rd_T30 t i).f0.f0 (rd_T30 t i).f0.f1
    · rw [if_pos c1]
      simp only [Option.bind_some, decide_eq_true_eq]
      by_cases c2 : 0 ≤ (rd_T30 t i).f1 ∧ (rd_T30 t i).f1 ≤ 999
      · rw [if_pos c2]
        by_cases c3 : i = 0
        · subst c3
          rw [if_neg (by omega), w64 (by omega) (by omega)]
          exact .inl ⟨⟨c1, c2, fun h => by omega⟩, rfl⟩
        · rw [if_pos (by omega), w64 (n := (i : Int) - 1) (by omega) (by omega), if_pos (by omega), if_pos (by omega)]
          have e1 : (((i - 1 : Nat) : Int)) = (i : Int) - 1 := by omega
          have pv := (hp (i - 1) (by omega)).1
          rw [e1] at pv
          obtain ⟨b, hb, hb2⟩ := impl_Compare pv c1
          rw [hb]
          simp only [Option.bind_some]
          by_cases c4 : b ≥ 0
          · rw [if_pos c4]
            exact .inr ⟨fun h => hb2.2 (h.2.2 (by omega)) c4, rfl⟩
          · rw [if_neg c4, w64 (by omega) (by omega)]
            exact .inl ⟨⟨c1, c2, fun _ => hb2.1 c4⟩, rfl⟩
      · rw [if_neg c2]
        exact .inr ⟨fun h => c2 h.2.1, rfl⟩
    · rw [if_neg c1]
      simp only [Option.bind_some]
      exact .inr ⟨fun h => c1 h.1, rfl⟩
  · intro k _
    simp only [impl_TableOk.l0]
    rw [if_neg (by omega)]
    congr 1
    rw [decide_eq_decide]; omega
/-- A valid table. -/
def Tok (t : List S30) : Prop := (∀ j, j < t.length → Rat t j) ∧ t.length ≤ 120
theorem spec_Tok {t : List S30} (h : t.length ≤ 1048576) {k : Nat} (hk : t.length < k) : ∃ b, spec_TableOk.f k t = some b ∧ (b = true ↔ Tok t) := by
  unfold spec_TableOk.f Tok
  by_cases hl : (t.length : Int) > 120
  · exact ⟨false, by rw [if_pos hl], by simp; omega⟩
  · obtain ⟨b, h1, h2⟩ := spec_tab h hk
    exact ⟨b, by rw [if_neg hl, h1], by rw [h2]; exact ⟨fun x => ⟨x, by omega⟩, fun x => x.1⟩⟩
/-- A loop that carries a state over a list. -/
theorem fold_loop {σ α ρ : Type} {F : Nat → σ → Int → Option ρ} {g : σ → α → σ} {out : σ → ρ} (t : List α) (z : α)
    (hs : ∀ (k i : Nat) (s : σ), i < t.length → F (k + 1) s i = F k (g s (t.getD i z)) ((i : Int) + 1))
    (he : ∀ (k : Nat) (s : σ), F (k + 1) s t.length = some (out s)) : ∀ (d k i : Nat) (s : σ), i + d = t.length → d < k → F k s i = some (out ((t.drop i).foldl g s)) := by
  intro d
  induction d with
  | zero =>
    intro k i s hi hk
    obtain ⟨k, rfl⟩ : ∃ m, k = m + 1 := ⟨k - 1, by omega⟩
    obtain rfl : i = t.length := by omega
    rw [he, List.drop_length]; rfl
  | succ d ih =>
    intro k i s hi hk
    obtain ⟨k, rfl⟩ : ∃ m, k = m + 1 := ⟨k - 1, by omega⟩
    have e1 : (i : Int) + 1 = ((i + 1 : Nat) : Int) := by omega
    rw [hs k i s (by omega), e1, ih k (i + 1) _ (by omega) (by omega)]
    have hil : i < t.length := by omega
    rw [List.drop_eq_getElem_cons hil, List.foldl_cons, List.getD_eq_getElem?_getD, List.getElem?_eq_getElem hil]
    rfl
/-- One route more: the longer prefix that holds the address wins, the earlier of two. -/
def bstep (a : Int) (s : Bool × Int × Int × Int) (r : S30) : Bool × Int × Int × Int :=
  if Phas r.f0.f0 r.f0.f1 a then (if s.1 = true then (if r.f0.f1 > s.2.2.1 then (true, r.f0.f0, r.f0.f1, r.f1) else s) else (true, r.f0.f0, r.f0.f1, r.f1)) else s
def bestOf (a : Int) (t : List S30) : Bool × Int × Int × Int := t.foldl (bstep a) (false, 0, 0, 0)
def bout (s : Bool × Int × Int × Int) : Int × Int × Int × Bool := (s.2.1, s.2.2.1, s.2.2.2, s.1)
theorem rd_get (t : List S30) (i : Nat) : rd_T30 t i = t.getD i z30 := by simp [rd_T30]
theorem spec_best {t : List S30} (h : t.length ≤ 1048576) (ht : ∀ j, j < t.length → Rat t j) (a : Int) {k : Nat} (hk : t.length < k) :
    spec_BestRoute.l0 k a false 0 t 0 0 0 = some (bout (bestOf a t)) := by
  have x := fold_loop (F := fun k (s : Bool × Int × Int × Int) i => spec_BestRoute.l0 k a s.1 i t s.2.1 s.2.2.1 s.2.2.2) (g := bstep a) (out := bout) t z30 ?_ ?_ t.length k 0 (false, 0, 0, 0) (by omega) hk
  · exact x
  · intro k i s hi
    have hr := (ht i hi).1
    simp only [spec_BestRoute.l0]
    rw [if_pos (by omega), if_pos (by omega), spec_Has, w64 (by omega) (by omega), ← rd_get]
    unfold bstep
    simp only [Option.bind_some, decide_eq_true_eq, hr, true_and]
    by_cases c1 : Phas (rd_T30 t i).f0.f0 (rd_T30 t i).f0.f1 a
    · rw [if_pos c1, if_pos c1]
      by_cases c2 : s.1 = true
      · rw [if_pos c2, if_pos c2]
        by_cases c3 : (rd_T30 t i).f0.f1 > s.2.2.1
        · rw [if_pos c3, if_pos c3]
        · rw [if_neg c3, if_neg c3]
      · rw [if_neg c2, if_neg c2]
    · rw [if_neg c1, if_neg c1]
  · intro k s
    simp only [spec_BestRoute.l0]
    rw [if_neg (by omega)]
    rfl
theorem impl_bestl {t : List S30} (h : t.length ≤ 1048576) (ht : ∀ j, j < t.length → Rat t j) (a : Int) {k : Nat} (hk : t.length < k) :
    impl_best.f k t a = some (bout (bestOf a t)) := by
  have x := fold_loop (F := fun k (s : Bool × Int × Int × Int) i => impl_best.l0 k a s.1 t t.length i s.2.1 s.2.2.1 s.2.2.2) (g := bstep a) (out := bout) t z30 ?_ ?_ t.length k 0 (false, 0, 0, 0) (by omega) hk
  · exact x
  · intro k i s hi
    have hr := (ht i hi).1
    simp only [impl_best.l0]
    rw [if_pos (by omega), if_pos (by omega), if_pos (by omega), impl_has hr, w64 (by omega) (by omega), ← rd_get]
    unfold bstep
    simp only [Option.bind_some, decide_eq_true_eq]
    by_cases c1 : Phas (rd_T30 t i).f0.f0 (rd_T30 t i).f0.f1 a
    · rw [if_pos c1, if_pos c1]
      by_cases c2 : s.1 = true
      · rw [if_pos c2, if_pos c2]
        by_cases c3 : (rd_T30 t i).f0.f1 > s.2.2.1
        · rw [if_pos c3, if_pos c3]
        · rw [if_neg c3, if_neg c3]
      · rw [if_neg c2, if_neg c2]
    · rw [if_neg c1, if_neg c1]
  · intro k s
    simp only [impl_best.l0]
    rw [if_neg (by omega)]
    rfl
open Classical in
/-- What BestRoute answers. -/
noncomputable def bestAns (t : List S30) (a : Int) : Int × Int × Int × Bool := if Tok t ∧ 0 ≤ a ∧ a ≤ 65535 then bout (bestOf a t) else (0, 0, 0, false)
theorem spec_Best {t : List S30} (h : t.length ≤ 1048576) (a : Int) {k : Nat} (hk : t.length + 1 < k) : spec_BestRoute.f k t a = some (bestAns t a) := by
  obtain ⟨k, rfl⟩ : ∃ m, k = m + 1 := ⟨k - 1, by omega⟩
  obtain ⟨b, h1, h2⟩ := spec_Tok h (k := k + 1) (by omega)
  unfold spec_BestRoute.f bestAns
  rw [h1, spec_Addr]
  simp only [Option.bind_some]
  by_cases c : b = true
  · have ht := h2.1 c
    rw [if_pos c]
    by_cases ca : 0 ≤ a ∧ a ≤ 65535
    · rw [decide_eq_true ca]
      simp only [Bool.not_true, spec_BestRoute.j0]
      rw [if_neg (by decide), spec_best h ht.1 a (by omega), if_pos ⟨ht, ca⟩]
    · rw [if_neg (fun h => ca h.2)]
      simp only [ca, decide_false, Bool.not_false, spec_BestRoute.j0]
      rfl
  · rw [if_neg c, if_neg (fun h => c (h2.2 h.1))]
    simp only [spec_BestRoute.j0]
    rw [if_pos trivial]
theorem impl_Best {t : List S30} (h : t.length ≤ 1048576) (a : Int) {k : Nat} (hk : t.length < k) : impl_BestRoute.f k t a = some (bestAns t a) := by
  obtain ⟨b, h1, h2⟩ := impl_tab h hk
  unfold impl_BestRoute.f bestAns
  rw [h1, impl_Addr]
  simp only [Option.bind_some]
  by_cases c : b = true
  · have ht : Tok t := h2.1 c
    rw [if_pos c]
    by_cases ca : 0 ≤ a ∧ a ≤ 65535
    · rw [decide_eq_true ca, if_pos rfl, impl_bestl h ht.1 a hk, if_pos ⟨ht, ca⟩]
      rfl
    · rw [if_neg (c := Tok t ∧ 0 ≤ a ∧ a ≤ 65535) (fun h => ca h.2)]
      simp [ca]
  · rw [if_neg c, if_neg (fun h => c (h2.2 h.1))]
theorem psz_split {m l : Int} (h0 : 0 ≤ m) (h1 : m ≤ l) (h2 : l ≤ 16) : psz m = psz l * 2 ^ (l - m).toNat := by
  unfold psz
  rw [← Int.pow_add]
  congr 1
  omega
theorem psz_mod {a m l : Int} (h0 : 0 ≤ m) (h1 : m ≤ l) (h2 : l ≤ 16) (h : a % psz m = 0) : a % psz l = 0 := by
  rw [psz_split h0 h1 h2] at h
  have d := Int.emod_add_mul_ediv a (psz l * 2 ^ (l - m).toNat)
  rw [h, Int.zero_add, Int.mul_assoc] at d
  rw [← d]
  exact Int.mul_emod_right _ _
theorem mult_le {a b z : Int} (hz : 0 < z) (ha : a % z = 0) (hb : b % z = 0) (h : a < b + z) : a ≤ b := by
  have da := Int.emod_add_mul_ediv a z
  have db := Int.emod_add_mul_ediv b z
  rw [ha, Int.zero_add] at da
  rw [hb, Int.zero_add] at db
  have h2 : z * (a / z) < z * (b / z + 1) := by
    rw [Int.mul_add, da, db]
    omega
  have h3 : a / z < b / z + 1 := Int.lt_of_mul_lt_mul_left h2 (Int.le_of_lt hz)
  have h4 : z * (a / z) ≤ z * (b / z) := Int.mul_le_mul_of_nonneg_left (by omega) (Int.le_of_lt hz)
  rw [da, db] at h4
  exact h4
theorem rd_getR {x : List S30} {j : Nat} : rd_T30 x j = x.getD j z30 := by
  unfold rd_T30
  rw [Int.toNat_natCast]
theorem rdR_set {x : List S30} {i j : Nat} (v : S30) (hi : i < x.length) : rd_T30 (x.set i v) j = if i = j then v else rd_T30 x j := by
  rw [rd_getR, rd_getR, List.getD_eq_getElem?_getD, List.getD_eq_getElem?_getD, List.getElem?_set]
  by_cases c : i = j
  · subst c; simp [hi]
  · simp [c]
/-- Whether a route has the prefix (a, b). -/
def isR (a b : Int) (r : S30) : Bool := decide (r.f0.f0 = a ∧ r.f0.f1 = b)
theorem rd_natR {x : List S30} {i : Nat} (h : i < x.length) : rd_T30 x (i : Int) = x[i] := by
  simp [rd_T30, List.getD_eq_getElem?_getD, List.getElem?_eq_getElem h]
theorem tok_asc {t : List S30} (h : ∀ j, j < t.length → Rat t j) : ∀ (j i : Nat), i < j → j < t.length → Ahead (rd_T30 t (i : Int)).f0.f0 (rd_T30 t (i : Int)).f0.f1 (rd_T30 t (j : Int)).f0.f0 (rd_T30 t (j : Int)).f0.f1 := by
  intro j
  induction j with
  | zero => intro i hi; omega
  | succ j ih =>
    intro i hi hj
    have x := (h (j + 1) hj).2.2 (by omega)
    have e : ((j + 1 : Nat) : Int) - 1 = (j : Int) := by omega
    rw [e] at x
    by_cases c : i = j
    · subst c; exact x
    · have y := ih i (by omega) (by omega)
      unfold Ahead at x y ⊢
      omega
/-- A route of a prefix stands at one place: without it the list is short of that place. -/
theorem drop_one {t : List S30} (h : ∀ j, j < t.length → Rat t j) {a b : Int} {j : Nat} (hj : j < t.length) (hp : isR a b (rd_T30 t (j : Int)) = true) : t.filter (fun r => !isR a b r) = t.eraseIdx j := by
  have hp' := of_decide_eq_true hp
  have others : ∀ q, q < t.length → q ≠ j → isR a b (rd_T30 t (q : Int)) = false := fun q hq hne => by
    refine decide_eq_false (fun e => ?_)
    rcases Nat.lt_or_gt_of_ne hne with c | c
    · have := tok_asc h j q c hj
      unfold Ahead at this
      omega
    · have := tok_asc h q j c hq
      unfold Ahead at this
      omega
  have gd : ∀ q, q < t.length → t.getD q z30 = rd_T30 t (q : Int) := fun q hq => by
    rw [rd_natR hq, List.getD_eq_getElem?_getD, List.getElem?_eq_getElem hq]
    rfl
  have e := filter_at (p := isR a b) z30 t hj (by rw [gd j hj]; exact hp) (fun q hq => by rw [gd q (by omega)]; exact others q (by omega) (by omega))
  have e2 : (t.drop (j + 1)).filter (fun y => !isR a b y) = t.drop (j + 1) := by
    rw [List.filter_eq_self]
    intro y hy
    obtain ⟨q, hq, rfl⟩ := List.mem_iff_getElem.1 hy
    rw [List.length_drop] at hq
    have z := others (j + 1 + q) (by omega) (by omega)
    rw [rd_natR (by omega)] at z
    rw [List.getElem_drop, z]
    rfl
  rw [e2] at e
  rw [← e, List.eraseIdx_eq_take_drop_succ]
theorem drop_none {t : List S30} {a b : Int} (h : ∀ q : Nat, q < t.length → isR a b (rd_T30 t (q : Int)) = false) : t.filter (fun r => !isR a b r) = t := by
  refine filter_none (p := isR a b) z30 t (fun q hq => ?_)
  have z := h q hq
  rw [rd_natR hq] at z
  rw [List.getD_eq_getElem?_getD, List.getElem?_eq_getElem hq]
  exact z
theorem wr1 {i : Nat} (h : i ≤ 1048576) : wrap64 ((i : Int) + 1) = ((i + 1 : Nat) : Int) := by rw [w64 (by omega) (by omega)]; omega
theorem spec_less {t : List S30} (h : t.length ≤ 1048576) (a b : Int) {k : Nat} (hk : t.length < k) : spec_l02Less.f k t a b = some (t.filter (fun r => !isR a b r)) := by
  have key : ∀ (d i k : Nat) (acc : List S30), i + d = t.length → d < k → acc.length ≤ i → spec_l02Less.l0 k i t a b acc = some (acc ++ (t.drop i).filter (fun r => !isR a b r)) := by
    intro d
    induction d with
    | zero =>
      intro i k acc hi hk ha
      obtain ⟨k, rfl⟩ : ∃ m, k = m + 1 := ⟨k - 1, by omega⟩
      simp only [spec_l02Less.l0]
      rw [if_neg (by omega), List.drop_eq_nil_of_le (by omega)]
      simp
    | succ d ih =>
      intro i k acc hi hk ha
      obtain ⟨k, rfl⟩ : ∃ m, k = m + 1 := ⟨k - 1, by omega⟩
      have hil : i < t.length := by omega
      have er : rd_T30 t (i : Int) = t[i] := rd_natR hil
      have ed : t.drop i = t[i] :: t.drop (i + 1) := List.drop_eq_getElem_cons hil
      simp only [spec_l02Less.l0]
      rw [if_pos (by omega), if_pos (by omega), wr1 (by omega), er, ed, List.filter_cons]
      by_cases c : isR a b t[i] = true
      · have c' := of_decide_eq_true c
        have e : (!(t[i].f0.f0 == a) || !(t[i].f0.f1 == b)) = false := by rw [c'.1, c'.2]; simp
        rw [e, if_neg (by decide), c, ih (i + 1) k acc (by omega) (by omega) (by omega)]
        rfl
      · have c' : isR a b t[i] = false := by simpa using c
        have c2 := of_decide_eq_false c'
        have e : (!(t[i].f0.f0 == a) || !(t[i].f0.f1 == b)) = true := by
          by_cases c3 : t[i].f0.f0 = a
          · have c4 : ¬ t[i].f0.f1 = b := fun c4 => c2 ⟨c3, c4⟩
            simp [c4]
          · simp [c3]
        rw [e, if_pos rfl, if_pos (by omega), c', ih (i + 1) k (acc ++ [t[i]]) (by omega) (by omega) (by rw [List.length_append, List.length_singleton]; omega), List.append_assoc]
        rfl
  have z := key t.length 0 k [] (by omega) (by omega) (Nat.le_refl _)
  unfold spec_l02Less.f
  rw [List.drop_zero, List.nil_append] at z
  exact z
theorem spec_copy {t : List S30} (h : t.length ≤ 1048576) {k : Nat} (hk : t.length < k) : spec_l02Copy.f k t = some t := by
  have key : ∀ (d i k : Nat) (acc : List S30), i + d = t.length → d < k → acc.length ≤ i → spec_l02Copy.l0 k i t acc = some (acc ++ t.drop i) := by
    intro d
    induction d with
    | zero =>
      intro i k acc hi hk ha
      obtain ⟨k, rfl⟩ : ∃ m, k = m + 1 := ⟨k - 1, by omega⟩
      simp only [spec_l02Copy.l0]
      rw [if_neg (by omega), List.drop_eq_nil_of_le (by omega), List.append_nil]
    | succ d ih =>
      intro i k acc hi hk ha
      obtain ⟨k, rfl⟩ : ∃ m, k = m + 1 := ⟨k - 1, by omega⟩
      have hil : i < t.length := by omega
      have er : rd_T30 t (i : Int) = t[i] := rd_natR hil
      have ed : t.drop i = t[i] :: t.drop (i + 1) := List.drop_eq_getElem_cons hil
      simp only [spec_l02Copy.l0]
      rw [if_pos (by omega), if_pos (by omega), if_pos (by omega), wr1 (by omega), er, ed, ih (i + 1) k (acc ++ [t[i]]) (by omega) (by omega) (by rw [List.length_append, List.length_singleton]; omega), List.append_assoc]
      rfl
  have z := key t.length 0 k [] (by omega) (by omega) (Nat.le_refl _)
  unfold spec_l02Copy.f
  rw [List.drop_zero, List.nil_append] at z
  exact z
theorem u64n {n : Int} (h0 : 0 ≤ n) (h1 : n < 18446744073709551616) : IntKind.u64.wrap n = n := by
  have e : IntKind.u64.wrap n = n % 18446744073709551616 := rfl
  rw [e]; omega
theorem mid_ {i j : Nat} (h : i + j ≤ 4000) : wrap64 ((IntKind.u64.wrap (wrap64 ((i : Int) + (j : Int)))) / 2) = (((i + j) / 2 : Nat) : Int) := by
  rw [w64 (n := (i : Int) + j) (by omega) (by omega), u64n (by omega) (by omega), w64 (by omega) (by omega)]
  omega
theorem cmp_val {x y z a b : Int} (h1 : Pok x y) (h2 : Pok a b) : ∃ v, impl_findRoute_1.f x y z a b = some v ∧ (v < 0 ↔ Ahead x y a b) ∧ ((v == 0) = decide (x = a ∧ y = b)) := by
  obtain ⟨a0, a1, a2, a3, _⟩ := h1
  obtain ⟨b0, b1, b2, b3, _⟩ := h2
  unfold impl_findRoute_1.f impl_comparePrefixes.f Ahead
  by_cases h : x = a
  · rw [if_pos h, w64 (by omega) (by omega)]
    refine ⟨_, rfl, by omega, ?_⟩
    rw [Bool.eq_iff_iff, beq_iff_eq, decide_eq_true_iff]
    omega
  · rw [if_neg h, w64 (by omega) (by omega)]
    refine ⟨_, rfl, by omega, ?_⟩
    rw [Bool.eq_iff_iff, beq_iff_eq, decide_eq_true_iff]
    omega
/-- The search ends at the place c, ahead of which all routes are ahead, behind which none is. -/
theorem bs_at {t : List S30} (h4 : t.length ≤ 1000) (ht : ∀ j, j < t.length → Rat t j) {a b : Int} (hp : Pok a b) {c : Nat} (hc : c ≤ t.length) (h1 : ∀ q : Nat, q < c → Ahead (rd_T30 t (q : Int)).f0.f0 (rd_T30 t (q : Int)).f0.f1 a b) (h2 : ∀ q : Nat, c ≤ q → q < t.length → ¬ Ahead (rd_T30 t (q : Int)).f0.f0 (rd_T30 t (q : Int)).f0.f1 a b) : ∀ (d lo hi k : Nat), hi ≤ lo + d → lo ≤ c → c ≤ hi → hi ≤ t.length → d < k → slices_BinarySearchFunc_impl_Route_impl_Route_impl_Prefix.l0 k t t.length lo hi a b = some ((c : Int), decide (c < t.length ∧ isR a b (rd_T30 t (c : Int)) = true)) := by
  intro d
  induction d with
  | zero =>
    intro lo hi k g1 g2 g3 g5 hk
    obtain ⟨k, rfl⟩ : ∃ m, k = m + 1 := ⟨k - 1, by omega⟩
    obtain rfl : lo = c := by omega
    simp only [slices_BinarySearchFunc_impl_Route_impl_Route_impl_Prefix.l0]
    rw [if_neg (by omega)]
    by_cases cl : lo < t.length
    · obtain ⟨v, hv, _, hv2⟩ := cmp_val (z := (rd_T30 t (lo : Int)).f1) (ht lo cl).1 hp
      rw [if_pos (by omega), if_pos (by omega), if_pos (by omega), hv]
      simp only [Option.bind_some]
      rw [hv2]
      have e : decide (lo < t.length ∧ isR a b (rd_T30 t (lo : Int)) = true) = decide ((rd_T30 t (lo : Int)).f0.f0 = a ∧ (rd_T30 t (lo : Int)).f0.f1 = b) := by
        rw [decide_eq_decide]
        unfold isR
        rw [decide_eq_true_iff]
        exact ⟨fun x => x.2, fun x => ⟨cl, x⟩⟩
      rw [e]
    · rw [if_neg (by omega)]
      have e : decide (lo < t.length ∧ isR a b (rd_T30 t (lo : Int)) = true) = false := decide_eq_false (fun x => cl x.1)
      rw [e]
  | succ d ih =>
    intro lo hi k g1 g2 g3 g5 hk
    by_cases c0 : lo < hi
    · obtain ⟨k, rfl⟩ : ∃ m, k = m + 1 := ⟨k - 1, by omega⟩
      have hm : (lo + hi) / 2 < t.length := by omega
      obtain ⟨v, hv, hv2, _⟩ := cmp_val (z := (rd_T30 t (((lo + hi) / 2 : Nat) : Int)).f1) (ht _ hm).1 hp
      simp only [slices_BinarySearchFunc_impl_Route_impl_Route_impl_Prefix.l0]
      rw [if_pos (by omega), mid_ (by omega), if_pos (by omega), if_pos (by omega), hv]
      simp only [Option.bind_some]
      by_cases cj : (lo + hi) / 2 < c
      · rw [if_pos (hv2.2 (h1 _ cj)), wr1 (by omega)]
        exact ih ((lo + hi) / 2 + 1) hi k (by omega) (by omega) g3 g5 (by omega)
      · rw [if_neg (fun z => h2 _ (by omega) hm (hv2.1 z))]
        exact ih lo ((lo + hi) / 2) k (by omega) g2 (by omega) (by omega) (by omega)
    · exact ih lo hi k (by omega) g2 g3 g5 (by omega)
theorem place {t : List S30} (ht : ∀ j, j < t.length → Rat t j) (a b : Int) : ∃ c : Nat, c ≤ t.length ∧ (∀ q : Nat, q < c → Ahead (rd_T30 t (q : Int)).f0.f0 (rd_T30 t (q : Int)).f0.f1 a b) ∧ (∀ q : Nat, c ≤ q → q < t.length → ¬ Ahead (rd_T30 t (q : Int)).f0.f0 (rd_T30 t (q : Int)).f0.f1 a b) := by
  have key : ∀ n : Nat, n ≤ t.length → ∃ c : Nat, c ≤ n ∧ (∀ q : Nat, q < c → Ahead (rd_T30 t (q : Int)).f0.f0 (rd_T30 t (q : Int)).f0.f1 a b) ∧ (∀ q : Nat, c ≤ q → q < n → ¬ Ahead (rd_T30 t (q : Int)).f0.f0 (rd_T30 t (q : Int)).f0.f1 a b) := by
    intro n
    induction n with
    | zero => exact fun _ => ⟨0, Nat.le_refl _, fun q h => by omega, fun q _ h => by omega⟩
    | succ n ih =>
      intro hn
      obtain ⟨c, h0, h1, h2⟩ := ih (by omega)
      by_cases g : Ahead (rd_T30 t (n : Int)).f0.f0 (rd_T30 t (n : Int)).f0.f1 a b
      · refine ⟨n + 1, Nat.le_refl _, fun q hq => ?_, fun q _ h => by omega⟩
        by_cases e : q = n
        · rw [e]; exact g
        · have x := tok_asc ht n q (by omega) (by omega)
          unfold Ahead at x g ⊢
          omega
      · refine ⟨c, by omega, h1, fun q hq hqn => ?_⟩
        by_cases e : q = n
        · rw [e]; exact g
        · exact h2 q hq (by omega)
  exact key t.length (Nat.le_refl _)
/-- r put ahead of the first route that it is ahead of. -/
def insP (r : S30) : List S30 → List S30
  | [] => [r]
  | x :: l => if (spec_l02Ahead.f r.f0.f0 r.f0.f1 x.f0.f0 x.f0.f1 == some true) = true then r :: x :: l else x :: insP r l
theorem insP_len (r : S30) : ∀ l, (insP r l).length = l.length + 1
  | [] => rfl
  | x :: l => by
    unfold insP
    split
    · simp
    · rw [List.length_cons, insP_len r l, List.length_cons]
theorem insP_mem (r : S30) : ∀ l, r ∈ insP r l
  | [] => by simp [insP]
  | x :: l => by
    unfold insP
    split
    · simp
    · exact List.mem_cons_of_mem _ (insP_mem r l)
theorem ahs {n l m k : Int} : (spec_l02Ahead.f n l m k == some true) = true ↔ Ahead n l m k := by
  obtain ⟨b, h1, h2⟩ := spec_Ahead n l m k
  rw [h1, ← h2]
  simp
theorem insP_at (r : S30) : ∀ (A B : List S30), (∀ x ∈ A, ¬ Ahead r.f0.f0 r.f0.f1 x.f0.f0 x.f0.f1) → (∀ x ∈ B, Ahead r.f0.f0 r.f0.f1 x.f0.f0 x.f0.f1) → insP r (A ++ B) = A ++ r :: B
  | [], [], _, _ => rfl
  | [], y :: B, _, hB => by
    rw [List.nil_append, insP, if_pos (ahs.2 (hB y (by simp)))]
    rfl
  | x :: A, B, hA, hB => by
    rw [List.cons_append, insP, if_neg (fun h => hA x (by simp) (ahs.1 h)), insP_at r A B (fun z hz => hA z (by simp [hz])) hB]
    rfl
theorem sput_loop {t o : List S30} (r : S30) (ho : o.length ≤ 1048576) {R : List S30 × Bool} {M : Nat} (hM : 1 ≤ M) (hR : ∀ k, M ≤ k → spec_PutRoute.j1 k t (insP r o) = some R) :
    ∀ (d i k : Nat) (A B acc : List S30), o = A ++ B → i = A.length → B.length = d → d + M < k → acc.length ≤ i + 1 →
      (acc = A → insP r o = A ++ insP r B → spec_PutRoute.l0 k false i t r.f0.f0 r.f0.f1 r.f1 o acc = some R) ∧ (insP r o = acc ++ B → spec_PutRoute.l0 k true i t r.f0.f0 r.f0.f1 r.f1 o acc = some R) := by
  intro d
  induction d with
  | zero =>
    intro i k A B acc hAB hi hd hk hacc
    obtain ⟨k, rfl⟩ : ∃ m, k = m + 1 := ⟨k - 1, by omega⟩
    obtain rfl : B = [] := List.eq_nil_of_length_eq_zero hd
    have hil : i = o.length := by rw [hAB, List.append_nil]; exact hi
    refine ⟨fun e1 e2 => ?_, fun e1 => ?_⟩
    · simp only [spec_PutRoute.l0]
      rw [if_neg (by omega), if_neg (by decide), if_pos (by omega)]
      have z := hR k (by omega)
      rw [e2] at z
      rw [e1]
      exact z
    · simp only [spec_PutRoute.l0]
      rw [if_neg (by omega), if_pos trivial]
      have z := hR k (by omega)
      rw [e1, List.append_nil] at z
      exact z
  | succ d ih =>
    intro i k A B acc hAB hi hd hk hacc
    obtain ⟨k, rfl⟩ : ∃ m, k = m + 1 := ⟨k - 1, by omega⟩
    obtain ⟨y, B, rfl⟩ : ∃ y B', B = y :: B' := by
      cases B with
      | nil => simp at hd
      | cons y B => exact ⟨y, B, rfl⟩
    have hol : o.length = A.length + (B.length + 1) := by rw [hAB, List.length_append, List.length_cons]
    have hdB : B.length = d := by rw [List.length_cons] at hd; omega
    have hil : i < o.length := by omega
    have er : rd_T30 o (i : Int) = y := by
      rw [rd_natR hil]
      simp [hAB, hi]
    have hA' : o = (A ++ [y]) ++ B := by rw [hAB, List.append_assoc]; rfl
    have hl' : i + 1 = (A ++ [y]).length := by rw [List.length_append, List.length_singleton, hi]
    refine ⟨fun e1 e2 => ?_, fun e1 => ?_⟩
    · subst e1
      simp only [spec_PutRoute.l0]
      rw [if_pos (by omega), if_neg (by decide), if_pos (by omega), er]
      obtain ⟨b, hb, hb2⟩ := spec_Ahead r.f0.f0 r.f0.f1 y.f0.f0 y.f0.f1
      rw [hb]
      simp only [Option.bind_some]
      by_cases cb : b = true
      · have z := (ih (i + 1) k (acc ++ [y]) B ((acc ++ [r]) ++ [y]) hA' hl' hdB (by omega) (by simp only [List.length_append, List.length_singleton]; omega)).2 (by
          rw [e2, insP, if_pos (by rw [hb, cb]; rfl)]
          simp [List.append_assoc])
        rw [if_pos cb, if_pos (by omega), if_pos (by rw [List.length_append, List.length_singleton]; omega), wr1 (by omega)]
        exact z
      · have z := (ih (i + 1) k (acc ++ [y]) B (acc ++ [y]) hA' hl' hdB (by omega) (by simp only [List.length_append, List.length_singleton]; omega)).1 rfl (by
          rw [e2, insP, if_neg (fun h => cb (hb2.2 (ahs.1 h))), List.append_assoc]
          rfl)
        rw [if_neg cb, if_pos (by omega), wr1 (by omega)]
        exact z
    · simp only [spec_PutRoute.l0]
      have z := (ih (i + 1) k (A ++ [y]) B (acc ++ [y]) hA' hl' hdB (by omega) (by simp only [List.length_append, List.length_singleton]; omega)).2 (by rw [e1, List.append_assoc]; rfl)
      rw [if_pos (by omega), if_pos trivial, if_pos (by omega), if_pos (by omega), er, wr1 (by omega)]
      exact z
theorem sput {t : List S30} (r : S30) (o : List S30) (ho : o.length ≤ 1048576) {R : List S30 × Bool} {M : Nat} (hM : 1 ≤ M) (hR : ∀ k, M ≤ k → spec_PutRoute.j1 k t (insP r o) = some R) {k : Nat} (hk : o.length + M < k) : spec_PutRoute.l0 k false 0 t r.f0.f0 r.f0.f1 r.f1 o [] = some R := by
  have z := (sput_loop r ho hM hR o.length 0 k [] o [] rfl rfl rfl hk (by simp)).1 rfl rfl
  exact z
theorem Tok_mem {l : List S30} (h : Tok l) {r : S30} (hr : r ∈ l) : Pok r.f0.f0 r.f0.f1 ∧ 0 ≤ r.f1 ∧ r.f1 ≤ 999 := by
  obtain ⟨j, hj, rfl⟩ := List.mem_iff_getElem.1 hr
  have z := h.1 j hj
  rw [← rd_natR hj]
  exact ⟨z.1, z.2.1⟩
theorem Tok_set {t : List S30} (h : Tok t) {j : Nat} (hj : j < t.length) {r : S30} (hp : (rd_T30 t (j : Int)).f0.f0 = r.f0.f0 ∧ (rd_T30 t (j : Int)).f0.f1 = r.f0.f1) (hr : 0 ≤ r.f1 ∧ r.f1 ≤ 999) : Tok (t.set j r) := by
  have e0 : ∀ q : Nat, (rd_T30 (t.set j r) (q : Int)).f0.f0 = (rd_T30 t (q : Int)).f0.f0 ∧ (rd_T30 (t.set j r) (q : Int)).f0.f1 = (rd_T30 t (q : Int)).f0.f1 := fun q => by
    rw [rdR_set r hj]
    split
    · rename_i c
      subst c
      exact ⟨hp.1.symm, hp.2.symm⟩
    · exact ⟨rfl, rfl⟩
  refine ⟨fun q hq => ?_, by rw [List.length_set]; exact h.2⟩
  rw [List.length_set] at hq
  have z := h.1 q hq
  refine ⟨by rw [(e0 q).1, (e0 q).2]; exact z.1, ?_, fun h0 => ?_⟩
  · rw [rdR_set r hj]
    split
    · exact hr
    · exact z.2.1
  · have e1 : ((q : Int) - 1) = ((q - 1 : Nat) : Int) := by omega
    have z2 := z.2.2 h0
    rw [e1] at z2 ⊢
    rw [(e0 q).1, (e0 q).2, (e0 (q - 1)).1, (e0 (q - 1)).2]
    exact z2
theorem rd_ins {t : List S30} {c : Nat} (hc : c ≤ t.length) (r : S30) (q : Nat) (hq : q < t.length + 1) : rd_T30 (t.take c ++ r :: t.drop c) (q : Int) = if q < c then rd_T30 t (q : Int) else if q = c then r else rd_T30 t ((q - 1 : Nat) : Int) := by
  have hl : (t.take c).length = c := by rw [List.length_take]; omega
  rw [rd_getR, rd_getR, rd_getR, List.getD_eq_getElem?_getD, List.getD_eq_getElem?_getD, List.getD_eq_getElem?_getD, List.getElem?_append, hl]
  by_cases h1 : q < c
  · rw [if_pos h1, if_pos h1, List.getElem?_take, if_pos h1]
  · rw [if_neg h1, if_neg h1]
    by_cases h2 : q = c
    · rw [if_pos h2, h2, Nat.sub_self]; rfl
    · rw [if_neg h2]
      obtain ⟨m, hm⟩ : ∃ m, q - c = m + 1 := ⟨q - c - 1, by omega⟩
      rw [hm, List.getElem?_cons_succ, List.getElem?_drop]
      congr 2
      omega
theorem Tok_ins {t : List S30} (h : Tok t) (hl : t.length < 120) {c : Nat} (hc : c ≤ t.length) {r : S30} (hp : Pok r.f0.f0 r.f0.f1) (hr : 0 ≤ r.f1 ∧ r.f1 ≤ 999)
    (h1 : ∀ q : Nat, q < c → Ahead (rd_T30 t (q : Int)).f0.f0 (rd_T30 t (q : Int)).f0.f1 r.f0.f0 r.f0.f1) (h2 : ∀ q : Nat, c ≤ q → q < t.length → Ahead r.f0.f0 r.f0.f1 (rd_T30 t (q : Int)).f0.f0 (rd_T30 t (q : Int)).f0.f1) : Tok (t.take c ++ r :: t.drop c) := by
  have hlen : (t.take c ++ r :: t.drop c).length = t.length + 1 := by
    rw [List.length_append, List.length_cons, List.length_take, List.length_drop]; omega
  refine ⟨fun q hq => ?_, by omega⟩
  rw [hlen] at hq
  have e0 := rd_ins hc r q hq
  unfold Rat
  rw [e0]
  by_cases c1 : q < c
  · rw [if_pos c1]
    have z := h.1 q (by omega)
    refine ⟨z.1, z.2.1, fun h0 => ?_⟩
    have e1 : ((q : Int) - 1) = ((q - 1 : Nat) : Int) := by omega
    have z2 := z.2.2 h0
    rw [e1] at z2 ⊢
    rw [rd_ins hc r (q - 1) (by omega), if_pos (by omega)]
    exact z2
  · rw [if_neg c1]
    by_cases c2 : q = c
    · rw [if_pos c2]
      refine ⟨hp, hr, fun h0 => ?_⟩
      have e1 : ((q : Int) - 1) = ((q - 1 : Nat) : Int) := by omega
      rw [e1, rd_ins hc r (q - 1) (by omega), if_pos (by omega)]
      exact h1 (q - 1) (by omega)
    · rw [if_neg c2]
      have z := h.1 (q - 1) (by omega)
      refine ⟨z.1, z.2.1, fun h0 => ?_⟩
      have e1 : ((q : Int) - 1) = ((q - 1 : Nat) : Int) := by omega
      rw [e1, rd_ins hc r (q - 1) (by omega), if_neg (by omega)]
      by_cases c3 : q - 1 = c
      · rw [if_pos c3]
        exact h2 (q - 1) (by omega) (by omega)
      · rw [if_neg c3]
        have z2 := z.2.2 (by omega)
        have e2 : (((q - 1 : Nat) : Int) - 1) = ((q - 1 - 1 : Nat) : Int) := by omega
        rw [e2] at z2
        exact z2
theorem isRoute_ (a b c : Int) : impl_isRoute.f a b c = some (decide (Pok a b ∧ 0 ≤ c ∧ c ≤ 999)) := by
  unfold impl_isRoute.f
  rw [impl_Pok, impl_In]
  simp only [Option.bind_some, decide_eq_true_eq]
  by_cases h : Pok a b
  · rw [if_pos h]
    congr 1
    rw [decide_eq_decide]
    exact ⟨fun x => ⟨h, x⟩, fun x => x.2⟩
  · rw [if_neg h]
    congr 1
    exact (decide_eq_false (fun x => h x.1)).symm
set_option maxRecDepth 8000 in
theorem both_PutI {t : List S30} (h : t.length ≤ 1048576) (a b c : Int) : ∃ (r : List S30) (ok : Bool), r.length ≤ t.length + 1 ∧ (ok = true → Tok t ∧ Pok a b ∧ (0 ≤ c ∧ c ≤ 999) ∧ Tok r ∧ r = insP ⟨⟨a, b⟩, c⟩ (t.filter (fun q => !isR a b q))) ∧ ∀ k, 2 * t.length + 3000 < k → spec_PutRoute.f k t a b c = some (r, ok) ∧ impl_PutRoute.f k t a b c = some (r, ok) := by
  have own : impl_ownTable.f t = some t := by
    unfold impl_ownTable.f slices_Clone_impl_Route_impl_Route.f
    rw [if_pos h]
    rfl
  obtain ⟨R, hRd⟩ : ∃ R : S30, R = ⟨⟨a, b⟩, c⟩ := ⟨_, rfl⟩
  by_cases g : Tok t
  · have g2 := g.2
    by_cases v : Pok a b ∧ 0 ≤ c ∧ c ≤ 999
    · obtain ⟨p, p0, p1, p2⟩ := place g.1 a b
      by_cases hit : p < t.length ∧ isR a b (rd_T30 t (p : Int)) = true
      · have hp' := of_decide_eq_true hit.2
        have e := drop_one g.1 hit.1 hit.2
        have hT : Tok (t.set p R) := Tok_set g hit.1 (by rw [hRd]; exact hp') (by rw [hRd]; exact v.2)
        have hI : insP R (t.eraseIdx p) = t.set p R := by
          rw [List.eraseIdx_eq_take_drop_succ, insP_at R, List.set_eq_take_append_cons_drop, if_pos hit.1]
          · intro x hx
            obtain ⟨q, hq, rfl⟩ := List.mem_iff_getElem.1 hx
            rw [List.length_take] at hq
            rw [List.getElem_take, ← rd_natR (by omega)]
            have z := p1 q (by omega)
            rw [hRd]
            unfold Ahead at z ⊢
            dsimp only
            omega
          · intro x hx
            obtain ⟨q, hq, rfl⟩ := List.mem_iff_getElem.1 hx
            rw [List.length_drop] at hq
            rw [List.getElem_drop, ← rd_natR (by omega)]
            have z := tok_asc g.1 (p + 1 + q) p (by omega) (by omega)
            rw [hp'.1, hp'.2] at z
            rw [hRd]
            exact z
        have el : (t.eraseIdx p).length = t.length - 1 := List.length_eraseIdx_of_lt hit.1
        refine ⟨t.set p R, true, by rw [List.length_set]; omega, (fun _ => ⟨g, v.1, v.2, hT, by rw [e, ← hRd]; exact hI.symm⟩), fun k hk => ⟨?_, ?_⟩⟩
        · obtain ⟨b1, s1, s2⟩ := spec_Tok h (k := k) (by omega)
          have hj : ∀ k', t.length + 1000 ≤ k' → spec_PutRoute.j1 k' t (insP R (t.eraseIdx p)) = some (t.set p R, true) := fun k' hk' => by
            obtain ⟨k', rfl⟩ : ∃ m, k' = m + 1 := ⟨k' - 1, by omega⟩
            obtain ⟨b2, u1, u2⟩ := spec_Tok (t := t.set p R) (by rw [List.length_set]; omega) (k := k') (by rw [List.length_set]; omega)
            simp only [spec_PutRoute.j1]
            rw [hI, u1]
            simp only [Option.bind_some]
            rw [if_pos (u2.2 hT)]
          have z := sput (t := t) R (t.eraseIdx p) (by omega) (M := t.length + 1000) (by omega) hj (k := k) (by omega)
          unfold spec_PutRoute.f
          rw [s1]
          simp only [Option.bind_some]
          rw [if_pos (s2.2 g), spec_less h a b (by omega), e]
          simp only [Option.bind_some]
          rw [hRd] at z ⊢
          exact z
        · obtain ⟨k, rfl⟩ : ∃ m, k = m + 1 := ⟨k - 1, by omega⟩
          obtain ⟨b2, i1, i2⟩ := impl_tab h (k := k + 1) (by omega)
          have z := bs_at (by omega) g.1 v.1 p0 p1 p2 t.length 0 t.length k (by omega) (by omega) (by omega) (Nat.le_refl _) (by omega)
          have e0 : ((0 : Nat) : Int) = 0 := rfl
          rw [e0, decide_eq_true hit] at z
          unfold impl_PutRoute.f
          rw [i1, isRoute_]
          simp only [Option.bind_some]
          rw [if_pos (i2.2 g), decide_eq_true v]
          simp only [impl_PutRoute.j0]
          rw [if_neg (by decide), own]
          simp only [Option.bind_some]
          unfold impl_findRoute.f slices_BinarySearchFunc_impl_Route_impl_Route_impl_Prefix.f
          rw [z]
          simp only [Option.bind_some]
          rw [if_pos trivial, if_pos (by omega), if_pos (by omega), hRd]
          rfl
      · have hm : ∀ q : Nat, q < t.length → isR a b (rd_T30 t (q : Int)) = false := fun q hq => by
          refine decide_eq_false (fun e => ?_)
          rcases Nat.lt_trichotomy q p with hh | hh | hh
          · have z := p1 q hh
            unfold Ahead at z
            omega
          · subst hh
            exact hit ⟨hq, decide_eq_true e⟩
          · have z := tok_asc g.1 q p hh hq
            have z2 := p2 p (Nat.le_refl _) (by omega)
            rw [e.1, e.2] at z
            exact z2 z
        have hI : insP R t = t.take p ++ R :: t.drop p := by
          have w := insP_at R (t.take p) (t.drop p) ?_ ?_
          · rw [List.take_append_drop] at w
            exact w
          · intro x hx
            obtain ⟨q, hq, rfl⟩ := List.mem_iff_getElem.1 hx
            rw [List.length_take] at hq
            rw [List.getElem_take, ← rd_natR (by omega)]
            have z := p1 q (by omega)
            rw [hRd]
            unfold Ahead at z ⊢
            dsimp only
            omega
          · intro x hx
            obtain ⟨q, hq, rfl⟩ := List.mem_iff_getElem.1 hx
            rw [List.length_drop] at hq
            rw [List.getElem_drop, ← rd_natR (by omega)]
            have z := p2 (p + q) (by omega) (by omega)
            have z2 := of_decide_eq_false (hm (p + q) (by omega))
            rw [hRd]
            unfold Ahead at z ⊢
            dsimp only
            omega
        by_cases full : t.length = 120
        · refine ⟨t, false, by omega, (fun q => by cases q), fun k hk => ⟨?_, ?_⟩⟩
          · obtain ⟨b1, s1, s2⟩ := spec_Tok h (k := k) (by omega)
            have hj : ∀ k', t.length + 1000 ≤ k' → spec_PutRoute.j1 k' t (insP R t) = some (t, false) := fun k' hk' => by
              obtain ⟨k', rfl⟩ : ∃ m, k' = m + 1 := ⟨k' - 1, by omega⟩
              obtain ⟨b2, u1, u2⟩ := spec_Tok (t := insP R t) (by rw [insP_len]; omega) (k := k') (by rw [insP_len]; omega)
              simp only [spec_PutRoute.j1]
              rw [u1]
              simp only [Option.bind_some]
              rw [if_neg (fun x => by have := (u2.1 x).2; rw [insP_len] at this; omega), spec_copy h (by omega)]
              rfl
            have z := sput (t := t) R t (by omega) (M := t.length + 1000) (by omega) hj (k := k) (by omega)
            unfold spec_PutRoute.f
            rw [s1]
            simp only [Option.bind_some]
            rw [if_pos (s2.2 g), spec_less h a b (by omega), drop_none hm]
            simp only [Option.bind_some]
            rw [hRd] at z
            exact z
          · obtain ⟨k, rfl⟩ : ∃ m, k = m + 1 := ⟨k - 1, by omega⟩
            obtain ⟨b2, i1, i2⟩ := impl_tab h (k := k + 1) (by omega)
            have z := bs_at (by omega) g.1 v.1 p0 p1 p2 t.length 0 t.length k (by omega) (by omega) (by omega) (Nat.le_refl _) (by omega)
            have e0 : ((0 : Nat) : Int) = 0 := rfl
            rw [e0, decide_eq_false hit] at z
            unfold impl_PutRoute.f
            rw [i1, isRoute_]
            simp only [Option.bind_some]
            rw [if_pos (i2.2 g), decide_eq_true v]
            simp only [impl_PutRoute.j0]
            rw [if_neg (by decide), own]
            simp only [Option.bind_some]
            unfold impl_findRoute.f slices_BinarySearchFunc_impl_Route_impl_Route_impl_Prefix.f
            rw [z]
            simp only [Option.bind_some]
            rw [if_neg (by decide), if_pos (by omega)]
        · have hT : Tok (t.take p ++ R :: t.drop p) := Tok_ins g (by omega) p0 (by rw [hRd]; exact v.1) (by rw [hRd]; exact v.2) (by rw [hRd]; exact p1) (fun q hq hql => by
            have z := p2 q hq hql
            have z2 := of_decide_eq_false (hm q hql)
            rw [hRd]
            unfold Ahead at z ⊢
            dsimp only
            omega)
          have hlen : (t.take p ++ R :: t.drop p).length = t.length + 1 := by
            rw [List.length_append, List.length_cons, List.length_take, List.length_drop]; omega
          refine ⟨t.take p ++ R :: t.drop p, true, by omega, (fun _ => ⟨g, v.1, v.2, hT, by rw [drop_none hm, ← hRd]; exact hI.symm⟩), fun k hk => ⟨?_, ?_⟩⟩
          · obtain ⟨b1, s1, s2⟩ := spec_Tok h (k := k) (by omega)
            have hj : ∀ k', t.length + 1000 ≤ k' → spec_PutRoute.j1 k' t (insP R t) = some (t.take p ++ R :: t.drop p, true) := fun k' hk' => by
              obtain ⟨k', rfl⟩ : ∃ m, k' = m + 1 := ⟨k' - 1, by omega⟩
              obtain ⟨b2, u1, u2⟩ := spec_Tok (t := t.take p ++ R :: t.drop p) (by omega) (k := k') (by omega)
              simp only [spec_PutRoute.j1]
              rw [hI, u1]
              simp only [Option.bind_some]
              rw [if_pos (u2.2 hT)]
            have z := sput (t := t) R t (by omega) (M := t.length + 1000) (by omega) hj (k := k) (by omega)
            unfold spec_PutRoute.f
            rw [s1]
            simp only [Option.bind_some]
            rw [if_pos (s2.2 g), spec_less h a b (by omega), drop_none hm]
            simp only [Option.bind_some]
            rw [hRd] at z ⊢
            exact z
          · obtain ⟨k, rfl⟩ : ∃ m, k = m + 1 := ⟨k - 1, by omega⟩
            obtain ⟨b2, i1, i2⟩ := impl_tab h (k := k + 1) (by omega)
            have z := bs_at (by omega) g.1 v.1 p0 p1 p2 t.length 0 t.length k (by omega) (by omega) (by omega) (Nat.le_refl _) (by omega)
            have e0 : ((0 : Nat) : Int) = 0 := rfl
            rw [e0, decide_eq_false hit] at z
            unfold impl_PutRoute.f
            rw [i1, isRoute_]
            simp only [Option.bind_some]
            rw [if_pos (i2.2 g), decide_eq_true v]
            simp only [impl_PutRoute.j0]
            rw [if_neg (by decide), own]
            simp only [Option.bind_some]
            unfold impl_findRoute.f slices_BinarySearchFunc_impl_Route_impl_Route_impl_Prefix.f
            rw [z]
            simp only [Option.bind_some]
            unfold slices_Insert_impl_Route_impl_Route.f
            rw [if_neg (by decide), if_neg (by omega), if_pos (by omega), if_pos (by omega), if_pos h, if_pos List.length_singleton, hRd, Int.toNat_natCast]
            rfl
    · refine ⟨t, false, by omega, (fun q => by cases q), fun k hk => ⟨?_, ?_⟩⟩
      · obtain ⟨b1, s1, s2⟩ := spec_Tok h (k := k) (by omega)
        obtain ⟨o, ho⟩ : ∃ o, o = t.filter (fun r => !isR a b r) := ⟨_, rfl⟩
        have hol : o.length ≤ t.length := by rw [ho]; exact List.length_filter_le _ _
        have hj : ∀ k', t.length + 1000 ≤ k' → spec_PutRoute.j1 k' t (insP R o) = some (t, false) := fun k' hk' => by
          obtain ⟨k', rfl⟩ : ∃ m, k' = m + 1 := ⟨k' - 1, by omega⟩
          obtain ⟨b2, u1, u2⟩ := spec_Tok (t := insP R o) (by rw [insP_len]; omega) (k := k') (by rw [insP_len]; omega)
          simp only [spec_PutRoute.j1]
          rw [u1]
          simp only [Option.bind_some]
          rw [if_neg (fun x => v (by have z := Tok_mem (u2.1 x) (insP_mem R o); rw [hRd] at z; exact z)), spec_copy h (by omega)]
          rfl
        have z := sput (t := t) R o (by omega) (M := t.length + 1000) (by omega) hj (k := k) (by omega)
        unfold spec_PutRoute.f
        rw [s1]
        simp only [Option.bind_some]
        rw [if_pos (s2.2 g), spec_less h a b (by omega), ← ho]
        simp only [Option.bind_some]
        rw [hRd] at z
        exact z
      · obtain ⟨k, rfl⟩ : ∃ m, k = m + 1 := ⟨k - 1, by omega⟩
        obtain ⟨b2, i1, i2⟩ := impl_tab h (k := k + 1) (by omega)
        unfold impl_PutRoute.f
        rw [i1, isRoute_]
        simp only [Option.bind_some]
        rw [if_pos (i2.2 g), decide_eq_false v]
        simp only [impl_PutRoute.j0]
        rw [if_pos (by decide), own]
        rfl
  · refine ⟨t, false, by omega, (fun q => by cases q), fun k hk => ⟨?_, ?_⟩⟩
    · obtain ⟨b1, s1, s2⟩ := spec_Tok h (k := k) (by omega)
      unfold spec_PutRoute.f
      rw [s1]
      simp only [Option.bind_some]
      rw [if_neg (fun x => g (s2.1 x)), spec_copy h (by omega)]
      rfl
    · obtain ⟨k, rfl⟩ : ∃ m, k = m + 1 := ⟨k - 1, by omega⟩
      obtain ⟨b2, i1, i2⟩ := impl_tab h (k := k + 1) (by omega)
      unfold impl_PutRoute.f
      rw [i1]
      simp only [Option.bind_some]
      rw [if_neg (fun x => g (i2.1 x))]
      simp only [impl_PutRoute.j0]
      rw [if_pos trivial, own]
      rfl
def VR (r : S30) : Prop := Pok r.f0.f0 r.f0.f1 ∧ 0 ≤ r.f1 ∧ r.f1 ≤ 999
def AR (r s : S30) : Prop := Ahead r.f0.f0 r.f0.f1 s.f0.f0 s.f0.f1
def Has (r : S30) (a : Int) : Prop := Phas r.f0.f0 r.f0.f1 a
instance (r : S30) (a : Int) : Decidable (Has r a) := by unfold Has; infer_instance
theorem Tok_iff {t : List S30} : Tok t ↔ (∀ r ∈ t, VR r) ∧ t.Pairwise AR ∧ t.length ≤ 120 := by
  constructor
  · intro h
    refine ⟨fun r hr => ?_, ?_, h.2⟩
    · obtain ⟨i, hi, rfl⟩ := List.mem_iff_getElem.1 hr
      have z := h.1 i hi
      unfold Rat at z
      rw [rd_natR hi] at z
      exact ⟨z.1, z.2.1.1, z.2.1.2⟩
    · rw [List.pairwise_iff_getElem]
      intro i j hi hj hij
      have z := tok_asc h.1 j i hij hj
      rw [rd_natR hi, rd_natR hj] at z
      exact z
  · rintro ⟨h1, h2, h3⟩
    refine ⟨fun j hj => ?_, h3⟩
    have v := h1 _ (List.getElem_mem hj)
    unfold Rat
    rw [rd_natR hj]
    refine ⟨v.1, ⟨v.2.1, v.2.2⟩, fun h0 => ?_⟩
    have e : (j : Int) - 1 = ((j - 1 : Nat) : Int) := by omega
    rw [e, rd_natR (show j - 1 < t.length by omega)]
    exact List.pairwise_iff_getElem.1 h2 (j - 1) j (by omega) hj (by omega)
theorem Tok.sub {t u : List S30} (h : Tok t) (hs : u.Sublist t) : Tok u := by
  have z := Tok_iff.1 h
  exact Tok_iff.2 ⟨fun r hr => z.1 r (hs.subset hr), z.2.1.sublist hs, Nat.le_trans hs.length_le z.2.2⟩
/-- One prefix, one route. -/
def One (t : List S30) : Prop := (∀ r ∈ t, VR r) ∧ ∀ r ∈ t, ∀ s ∈ t, r.f0.f0 = s.f0.f0 → r.f0.f1 = s.f0.f1 → r = s
theorem Tok.one {t : List S30} (h : Tok t) : One t := by
  have z := Tok_iff.1 h
  refine ⟨z.1, fun r hr s hs e1 e2 => ?_⟩
  obtain ⟨i, hi, rfl⟩ := List.mem_iff_getElem.1 hr
  obtain ⟨j, hj, rfl⟩ := List.mem_iff_getElem.1 hs
  rcases Nat.lt_trichotomy i j with c | c | c
  · have := List.pairwise_iff_getElem.1 z.2.1 i j hi hj c
    unfold AR Ahead at this
    omega
  · subst c; rfl
  · have := List.pairwise_iff_getElem.1 z.2.1 j i hj hi c
    unfold AR Ahead at this
    omega
theorem One.sub {t u : List S30} (h : One t) (hs : ∀ r ∈ u, r ∈ t) : One u := ⟨fun r hr => h.1 r (hs r hr), fun r hr s hs' => h.2 r (hs r hr) s (hs s hs')⟩
/-- Two blocks with an address in common: the shorter prefix holds the other one. -/
theorem nest {n l m k a : Int} (p : Pok n l) (q : Pok m k) (hl : l ≤ k) (h1 : Phas n l a) (h2 : Phas m k a) : n ≤ m ∧ m + psz k ≤ n + psz l := by
  obtain ⟨b0, b1, b2, b3, b4⟩ := p
  obtain ⟨c0, c1, c2, c3, c4⟩ := q
  unfold Phas at h1 h2
  have z := psz_pos k
  have n4 := psz_mod b0 hl c1 b4
  have zl : psz l % psz k = 0 := psz_mod b0 hl c1 (Int.emod_self)
  have e1 : (m + psz k) % psz k = 0 := by rw [Int.add_emod_right]; exact c4
  have e2 : (n + psz l) % psz k = 0 := by rw [Int.add_emod, n4, zl]; rfl
  exact ⟨mult_le z n4 c4 (by omega), mult_le z e1 e2 (by omega)⟩
theorem same_len {n l m a : Int} (p : Pok n l) (q : Pok m l) (h1 : Phas n l a) (h2 : Phas m l a) : n = m := by
  have x := nest p q (Int.le_refl _) h1 h2
  have y := nest q p (Int.le_refl _) h2 h1
  omega
/-- What the best route is. -/
theorem best_is {a : Int} : ∀ (t u : List S30) (s : Bool × Int × Int × Int), ((s.1 = false ∧ ∀ r ∈ u, ¬ Has r a) ∨ ∃ r ∈ u, Has r a ∧ s = (true, r.f0.f0, r.f0.f1, r.f1) ∧ ∀ q ∈ u, Has q a → q.f0.f1 ≤ r.f0.f1) →
    (((t.foldl (bstep a) s).1 = false ∧ ∀ r ∈ u ++ t, ¬ Has r a) ∨ ∃ r ∈ u ++ t, Has r a ∧ t.foldl (bstep a) s = (true, r.f0.f0, r.f0.f1, r.f1) ∧ ∀ q ∈ u ++ t, Has q a → q.f0.f1 ≤ r.f0.f1) := by
  intro t
  induction t with
  | nil =>
    intro u s h
    rw [List.append_nil]
    exact h
  | cons x t ih =>
    intro u s h
    have z := ih (u ++ [x]) (bstep a s x) ?_
    · rw [List.append_assoc] at z
      exact z
    · unfold bstep
      by_cases c : Phas x.f0.f0 x.f0.f1 a
      · rw [if_pos c]
        rcases h with ⟨h1, h2⟩ | ⟨r, hr, h1, h2, h3⟩
        · rw [h1, if_neg (by decide)]
          refine .inr ⟨x, by simp, c, rfl, fun q hq hqa => ?_⟩
          rcases List.mem_append.1 hq with hq | hq
          · exact absurd hqa (h2 q hq)
          · rw [List.mem_singleton.1 hq]; exact Int.le_refl _
        · subst h2
          rw [if_pos rfl]
          by_cases c2 : x.f0.f1 > r.f0.f1
          · rw [if_pos c2]
            refine .inr ⟨x, by simp, c, rfl, fun q hq hqa => ?_⟩
            rcases List.mem_append.1 hq with hq | hq
            · have := h3 q hq hqa; omega
            · rw [List.mem_singleton.1 hq]; exact Int.le_refl _
          · rw [if_neg c2]
            refine .inr ⟨r, List.mem_append_left _ hr, h1, rfl, fun q hq hqa => ?_⟩
            rcases List.mem_append.1 hq with hq | hq
            · exact h3 q hq hqa
            · rw [List.mem_singleton.1 hq]; omega
      · rw [if_neg c]
        rcases h with ⟨h1, h2⟩ | ⟨r, hr, h1, h2, h3⟩
        · refine .inl ⟨h1, fun q hq hqa => ?_⟩
          rcases List.mem_append.1 hq with hq | hq
          · exact h2 q hq hqa
          · rw [List.mem_singleton.1 hq] at hqa; exact c hqa
        · refine .inr ⟨r, List.mem_append_left _ hr, h1, h2, fun q hq hqa => ?_⟩
          rcases List.mem_append.1 hq with hq | hq
          · exact h3 q hq hqa
          · rw [List.mem_singleton.1 hq] at hqa; exact absurd hqa c
theorem best_cases (a : Int) (t : List S30) : ((bestOf a t).1 = false ∧ ∀ r ∈ t, ¬ Has r a) ∨ ∃ r ∈ t, Has r a ∧ bestOf a t = (true, r.f0.f0, r.f0.f1, r.f1) ∧ ∀ q ∈ t, Has q a → q.f0.f1 ≤ r.f0.f1 := by
  have z := best_is (a := a) t [] (false, 0, 0, 0) (.inl ⟨rfl, fun r hr => by cases hr⟩)
  exact z
/-- The hop of an address, -1 for none. -/
def FH (t : List S30) (a : Int) : Int := if (bestOf a t).1 = true then (bestOf a t).2.2.2 else -1
theorem FH_none {a : Int} {t : List S30} (h : ∀ r ∈ t, ¬ Has r a) : FH t a = -1 := by
  unfold FH
  rcases best_cases a t with ⟨h1, _⟩ | ⟨r, hr, h1, _⟩
  · rw [h1, if_neg (by decide)]
  · exact absurd h1 (h r hr)
theorem FH_some {a : Int} {t : List S30} (ho : One t) {r : S30} (hr : r ∈ t) (ha : Has r a) (hm : ∀ q ∈ t, Has q a → q.f0.f1 ≤ r.f0.f1) : FH t a = r.f1 ∧ (bestOf a t).1 = true ∧ (bestOf a t).2.2.2 = r.f1 := by
  unfold FH
  rcases best_cases a t with ⟨_, h2⟩ | ⟨q, hq, h1, h2, h3⟩
  · exact absurd ha (h2 r hr)
  · have x := hm q hq h1
    have y := h3 r hr ha
    have e : q.f0.f1 = r.f0.f1 := by omega
    have vq := (ho.1 q hq).1
    rw [e] at vq
    have hqa : Phas q.f0.f0 r.f0.f1 a := by rw [← e]; exact h1
    have e2 := same_len vq (ho.1 r hr).1 hqa ha
    have e3 := ho.2 q hq r hr e2 e
    subst e3
    rw [h2]
    exact ⟨rfl, rfl, rfl⟩
theorem mem_insP {r q : S30} : ∀ {l : List S30}, q ∈ insP r l ↔ q = r ∨ q ∈ l
  | [] => by simp [insP]
  | x :: l => by
    simp only [insP]
    split
    · exact List.mem_cons
    · rw [List.mem_cons, mem_insP (l := l), List.mem_cons]
      constructor
      · rintro (h | h | h)
        · exact .inr (.inl h)
        · exact .inl h
        · exact .inr (.inr h)
      · rintro (h | h | h)
        · exact .inr (.inl h)
        · exact .inl h
        · exact .inr (.inr h)
theorem filter_insP {r : S30} {p : S30 → Bool} (h : p r = false) : ∀ l : List S30, (insP r l).filter p = l.filter p
  | [] => by simp [insP, h]
  | x :: l => by
    simp only [insP]
    split
    · rw [List.filter_cons, if_neg (by rw [h]; decide)]
    · rw [List.filter_cons, List.filter_cons, filter_insP h l]
/-- What a put route changes. -/
theorem FH_put {t u : List S30} {a b c : Int} (g : Tok t) (gu : Tok u) (hp : Pok a b) (hu : u = insP ⟨⟨a, b⟩, c⟩ (t.filter (fun q => !isR a b q))) (x : Int) :
    FH u x = if Phas a b x ∧ ((bestOf x t).1 = true → (bestOf x t).2.2.1 ≤ b) then c else FH t x := by
  obtain ⟨R, hR⟩ : ∃ R : S30, R = ⟨⟨a, b⟩, c⟩ := ⟨_, rfl⟩
  have mem : ∀ q, q ∈ u ↔ q = R ∨ (q ∈ t ∧ isR a b q = false) := fun q => by
    rw [hu, mem_insP, List.mem_filter, hR]
    constructor
    · rintro (h | ⟨h1, h2⟩)
      · exact .inl h
      · exact .inr ⟨h1, by simpa using h2⟩
    · rintro (h | ⟨h1, h2⟩)
      · exact .inl h
      · exact .inr ⟨h1, by simpa using h2⟩
  have Rin : R ∈ u := (mem R).2 (.inl rfl)
  have R0 : R.f0.f0 = a ∧ R.f0.f1 = b ∧ R.f1 = c := by rw [hR]; exact ⟨rfl, rfl, rfl⟩
  have ou := gu.one
  have ot := g.one
  by_cases ha : Phas a b x
  · have Rhas : Has R x := by unfold Has; rw [R0.1, R0.2.1]; exact ha
    rcases best_cases x t with ⟨h1, h2⟩ | ⟨r, hr, h1, h2, h3⟩
    · rw [if_pos ⟨ha, fun e => by rw [h1] at e; cases e⟩]
      have z := (FH_some ou Rin Rhas (fun q hq hqa => by
        rcases (mem q).1 hq with e | ⟨e, _⟩
        · rw [e]; exact Int.le_refl _
        · exact absurd hqa (h2 q e))).1
      rw [z, R0.2.2]
    · rw [h2]
      by_cases c1 : r.f0.f1 ≤ b
      · rw [if_pos ⟨ha, fun _ => c1⟩]
        have z := (FH_some ou Rin Rhas (fun q hq hqa => by
          rcases (mem q).1 hq with e | ⟨e, _⟩
          · rw [e]; exact Int.le_refl _
          · have := h3 q e hqa
            rw [R0.2.1]
            omega)).1
        rw [z, R0.2.2]
      · rw [if_neg (fun e => c1 (e.2 rfl))]
        have rin : r ∈ u := (mem r).2 (.inr ⟨hr, decide_eq_false (fun e => c1 (by omega))⟩)
        have z := (FH_some ou rin h1 (fun q hq hqa => by
          rcases (mem q).1 hq with e | ⟨e, _⟩
          · rw [e, R0.2.1]; omega
          · exact h3 q e hqa)).1
        have z2 := (FH_some ot hr h1 h3).1
        rw [z, z2]
  · rw [if_neg (fun e => ha e.1)]
    have ns : ∀ q, Has q x → isR a b q = false := fun q hq => decide_eq_false (fun e => ha (by
      unfold Has at hq
      rw [e.1, e.2] at hq
      exact hq))
    rcases best_cases x t with ⟨h1, h2⟩ | ⟨r, hr, h1, h2, h3⟩
    · rw [FH_none h2, FH_none (fun q hq hqa => by
        rcases (mem q).1 hq with e | ⟨e, _⟩
        · have := ns q hqa
          rw [e] at this
          exact absurd (decide_eq_true (show R.f0.f0 = a ∧ R.f0.f1 = b from ⟨R0.1, R0.2.1⟩)) (by unfold isR at this; rw [this]; decide)
        · exact h2 q e hqa)]
    · have rin : r ∈ u := (mem r).2 (.inr ⟨hr, ns r h1⟩)
      have z := (FH_some ou rin h1 (fun q hq hqa => by
        rcases (mem q).1 hq with e | ⟨e, _⟩
        · have := ns q hqa
          rw [e] at this
          exact absurd (decide_eq_true (show R.f0.f0 = a ∧ R.f0.f1 = b from ⟨R0.1, R0.2.1⟩)) (by unfold isR at this; rw [this]; decide)
        · exact h3 q e hqa)).1
      have z2 := (FH_some ot hr h1 h3).1
      rw [z, z2]
theorem impl_DropH {u : List S30} (g : Tok u) {a b : Int} (hp : Pok a b) (hit : ∃ j : Nat, j < u.length ∧ isR a b (rd_T30 u (j : Int)) = true) {k : Nat} (hk : u.length + 1000 < k) : impl_DropRoute.f k u a b = some (u.filter (fun q => !isR a b q), true) := by
  have g2 := g.2
  have own : impl_ownTable.f u = some u := by
    unfold impl_ownTable.f slices_Clone_impl_Route_impl_Route.f
    rw [if_pos (by omega)]
    rfl
  obtain ⟨p, p0, p1, p2⟩ := place g.1 a b
  have hh : p < u.length ∧ isR a b (rd_T30 u (p : Int)) = true := by
    obtain ⟨q, hq, e⟩ := hit
    have e' := of_decide_eq_true e
    rcases Nat.lt_trichotomy q p with hh | hh | hh
    · have z := p1 q hh
      unfold Ahead at z
      omega
    · subst hh
      exact ⟨hq, e⟩
    · have z := tok_asc g.1 q p hh hq
      have z2 := p2 p (Nat.le_refl _) (by omega)
      rw [e'.1, e'.2] at z
      exact absurd z z2
  have e := drop_one g.1 hh.1 hh.2
  obtain ⟨b2, i1, i2⟩ := impl_tab (show u.length ≤ 1048576 by omega) (k := k) (by omega)
  have z := bs_at (by omega) g.1 hp p0 p1 p2 u.length 0 u.length k (by omega) (by omega) (by omega) (Nat.le_refl _) (by omega)
  have e0 : ((0 : Nat) : Int) = 0 := rfl
  rw [e0, decide_eq_true hh] at z
  have hl := hh.1
  unfold impl_DropRoute.f impl_findRoute.f slices_BinarySearchFunc_impl_Route_impl_Route_impl_Prefix.f
  rw [own, i1]
  simp only [Option.bind_some]
  rw [if_pos (i2.2 g), z]
  simp only [Option.bind_some, if_true]
  unfold slices_Delete_impl_Route_impl_Route.f
  rw [if_pos (by omega), if_pos (by omega), w64 (by omega) (by omega), if_pos rfl, e]
  rfl
theorem rd_mem {o : List Int} {i : Int} (h0 : 0 ≤ i) (h : i < o.length) : rd o i ∈ o := by
  unfold rd
  rw [List.getD_eq_getElem?_getD, List.getElem?_eq_getElem (by omega)]
  exact List.getElem_mem _
theorem and255 (x : Int) : 0 ≤ Go.bits .and .i64 x 255 ∧ Go.bits .and .i64 x 255 ≤ 255 := by
  have e : Go.bits .and .i64 x 255 = IntKind.i64.wrap (((BitVec.ofInt 64 x).toNat &&& (BitVec.ofInt 64 255).toNat : Nat) : Int) := by
    simp only [Go.bits]
    rw [← BitVec.toNat_and]
    rfl
  have h : (BitVec.ofInt 64 x).toNat &&& (BitVec.ofInt 64 255).toNat ≤ 255 := Nat.and_le_right
  generalize (BitVec.ofInt 64 x).toNat &&& (BitVec.ofInt 64 255).toNat = m at e h
  rw [e, IntKind.wrap_i64]
  omega
theorem byte_ok (b : List Int) {i : Int} (h : Int) (hi : 0 ≤ i) (hb : b.length ≤ 1048576) : ∃ r i' h', spec_l01Byte.f b i h = some (r, i', h') ∧ (0 ≤ r ∧ r ≤ 255) ∧ 0 ≤ i' := by
  unfold spec_l01Byte.f
  by_cases c : i < (b.length : Int)
  · rw [if_pos c, if_pos hi]
    exact ⟨_, _, _, rfl, and255 _, by rw [w64 (by omega) (by omega)]; omega⟩
  · rw [if_neg c]
    exact ⟨_, _, _, rfl, and255 _, hi⟩
theorem tmod_ok {a n : Int} (h0 : 0 ≤ a) (h1 : 0 < n) : 0 ≤ Int.tmod a n ∧ Int.tmod a n < n := by
  rw [Int.tmod_eq_emod_of_nonneg h0]
  exact ⟨Int.emod_nonneg _ (by omega), Int.emod_lt_of_pos _ h1⟩
theorem below_ok (b : List Int) {i : Int} (h : Int) (hi : 0 ≤ i) (hb : b.length ≤ 1048576) (n : Int) : ∃ r i' h', spec_l01Below.f b i h n = some (r, i', h') ∧ 0 ≤ i' ∧ 0 ≤ r ∧ (0 < n → r < n) ∧ (n ≤ 0 → r = 0) := by
  unfold spec_l01Below.f
  by_cases c : n ≤ 0
  · rw [if_pos c]
    exact ⟨_, _, _, rfl, hi, Int.le_refl _, fun h => by omega, fun _ => rfl⟩
  · rw [if_neg c]
    obtain ⟨r1, i1, h1, e1, p1, q1⟩ := byte_ok b h hi hb
    rw [e1]
    simp only [Option.bind_some]
    by_cases c2 : n ≤ 256
    · rw [if_pos c2, if_neg (by omega)]
      have z := tmod_ok p1.1 (show 0 < n by omega)
      exact ⟨_, _, _, rfl, q1, z.1, fun _ => z.2, fun h => by omega⟩
    · rw [if_neg c2]
      obtain ⟨r2, i2, h2, e2, p2, q2⟩ := byte_ok b h1 q1 hb
      rw [e2]
      simp only [Option.bind_some]
      obtain ⟨r3, i3, h3, e3, p3, q3⟩ := byte_ok b h2 q2 hb
      rw [e3]
      simp only [Option.bind_some]
      have z := tmod_ok (a := r1 * 65536 + r2 * 256 + r3) (by omega) (show 0 < n by omega)
      rw [if_neg (by omega), w64 (n := r1 * 65536) (by omega) (by omega), w64 (n := r2 * 256) (by omega) (by omega), w64 (n := r1 * 65536 + r2 * 256) (by omega) (by omega), w64 (n := r1 * 65536 + r2 * 256 + r3) (by omega) (by omega)]
      exact ⟨_, _, _, rfl, q3, z.1, fun _ => z.2, fun h => by omega⟩
theorem pick_ok (b : List Int) {i : Int} (h : Int) (hi : 0 ≤ i) (hb : b.length ≤ 1048576) {l : List Int} (hl : 0 < l.length) : ∃ r i' h', spec_l01PickInt.f b i h l = some (r, i', h') ∧ 0 ≤ i' ∧ r ∈ l := by
  unfold spec_l01PickInt.f
  obtain ⟨r, i', h', e, p, q0, q, -⟩ := below_ok b h hi hb (l.length : Int)
  rw [e]
  simp only [Option.bind_some]
  have q1 := q (by omega)
  rw [if_pos q0, if_pos q1]
  exact ⟨_, _, _, rfl, p, rd_mem q0 q1⟩
theorem once_ok (b : List Int) {i : Int} (h : Int) (hi : 0 ≤ i) (hb : b.length ≤ 1048576) (n : Int) : ∃ r i' h', spec_l01Once.f b i h n = some (r, i', h') ∧ 0 ≤ i' := by
  unfold spec_l01Once.f
  obtain ⟨r, i', h', e, p, -⟩ := below_ok b h hi hb n
  rw [e]
  simp only [Option.bind_some]
  exact ⟨_, _, _, rfl, p⟩
theorem new_ok {l : List Int} (hl : l.length ≤ 1048576) {k : Nat} (hk : 4001 < k) : ∃ h, spec_l01New.f k l = some (l, 0, h) := by
  have key : ∀ (d i k : Nat) (x : Int), i + d = 4000 → d < k → ∃ h, spec_l01New.l0 k l x i = some (l, 0, h) := by
    intro d
    induction d with
    | zero =>
      intro i k x hi hk
      obtain ⟨k, rfl⟩ : ∃ m, k = m + 1 := ⟨k - 1, by omega⟩
      simp only [spec_l01New.l0]
      rw [if_neg (c := (i : Int) < 4000) (by omega)]
      by_cases c : (i : Int) < (l.length : Int)
      · rw [if_pos c]; exact ⟨_, rfl⟩
      · rw [if_neg c]; exact ⟨_, rfl⟩
    | succ d ih =>
      intro i k x hi hk
      obtain ⟨k, rfl⟩ : ∃ m, k = m + 1 := ⟨k - 1, by omega⟩
      simp only [spec_l01New.l0]
      rw [if_pos (c := (i : Int) < 4000) (by omega)]
      by_cases c : (i : Int) < (l.length : Int)
      · rw [if_pos c, if_pos (by omega), wr1 (by omega)]
        exact ih (i + 1) k _ (by omega) (by omega)
      · rw [if_neg c]; exact ⟨_, rfl⟩
  exact key 4000 0 k _ (by omega) (by omega)
theorem ex_bind {α β : Type} {o : Option α} {f : α → Option β} {Q : β → Prop} (a : α) (h : o = some a) (h2 : ∃ b, f a = some b ∧ Q b) : ∃ b, o.bind f = some b ∧ Q b := by
  obtain ⟨b, h3, h4⟩ := h2
  exact ⟨b, by rw [h]; exact h3, h4⟩
theorem ex_pos {β : Type} {p : Prop} [Decidable p] {x y : Option β} {Q : β → Prop} (h : p) (h2 : ∃ b, x = some b ∧ Q b) : ∃ b, (if p then x else y) = some b ∧ Q b := by
  rw [if_pos h]; exact h2
theorem ex_neg {β : Type} {p : Prop} [Decidable p] {x y : Option β} {Q : β → Prop} (h : ¬ p) (h2 : ∃ b, y = some b ∧ Q b) : ∃ b, (if p then x else y) = some b ∧ Q b := by
  rw [if_neg h]; exact h2
theorem draw_prefix {b : List Int} (hb : b.length ≤ 1048576) {i : Int} (h : Int) (hi : 0 ≤ i) : ∃ n l i' h', spec_l01DrawPrefix.f b i h = some (n, l, i', h') ∧ 0 ≤ i' := by
  unfold spec_l01DrawPrefix.f
  obtain ⟨r1, i1, h1, e1, p1, a1, b1, -⟩ := below_ok b h hi hb 17
  have b1 := b1 (by omega)
  rw [e1, Option.bind_some]
  obtain ⟨r2, i2, h2, e2, p2, a2, b2, -⟩ := below_ok b h1 p1 hb 9
  have b2 := b2 (by omega)
  rw [e2, Option.bind_some]
  obtain ⟨r3, i3, h3, e3, p3, a3, b3, -⟩ := below_ok b h2 p2 hb 9
  have b3 := b3 (by omega)
  rw [e3, Option.bind_some]
  rw [w64 (n := 8 + r2) (by omega) (by omega), w64 (n := 8 + r3) (by omega) (by omega)]
  obtain ⟨r4, i4, h4, e4, p4, m4⟩ := pick_ok b h3 p3 hb (l := [0, 1, 4, 8, 12, 15, 16, r1, 8 + r2, 8 + r3]) (by simp)
  have m4' : 0 ≤ r4 ∧ r4 ≤ 16 := by
    simp only [List.mem_cons, List.not_mem_nil, or_false] at m4
    omega
  rw [e4, Option.bind_some]
  obtain ⟨r5, i5, h5, e5, p5, -⟩ := below_ok b h4 p4 hb 65536
  rw [e5, Option.bind_some]
  obtain ⟨r6, i6, h6, e6, p6, -⟩ := below_ok b h5 p5 hb 2048
  rw [e6, Option.bind_some]
  obtain ⟨r7, i7, h7, e7, p7, -⟩ := pick_ok b h6 p6 hb (l := [0, 2560, r5, r6]) (by simp)
  have z := psz_pos r4
  rw [e7, Option.bind_some, spec_Size m4'.1 m4'.2, Option.bind_some, if_neg (by omega)]
  obtain ⟨r8, i8, h8, e8, p8⟩ := once_ok b h7 p7 hb 30
  rw [e8, Option.bind_some]
  by_cases c : r8 = true
  · rw [if_pos c]
    obtain ⟨r9, i9, h9, e9, p9, -⟩ := below_ok b h8 p8 hb 3
    rw [e9, Option.bind_some]
    by_cases c0 : r9 = 0
    · rw [if_pos c0]
      obtain ⟨r10, i10, h10, e10, p10, -⟩ := pick_ok b h9 p9 hb (l := [-1, 17, 3]) (by simp)
      rw [e10, Option.bind_some]
      exact ⟨_, _, _, _, rfl, p10⟩
    · rw [if_neg c0]
      by_cases c1 : r9 = 1
      · rw [if_pos c1]
        obtain ⟨r10, i10, h10, e10, p10, -⟩ := pick_ok b h9 p9 hb (l := [-1, 65536, 1, 65535]) (by simp)
        rw [e10, Option.bind_some]
        exact ⟨_, _, _, _, rfl, p10⟩
      · rw [if_neg c1]
        by_cases c2 : r9 = 2
        · rw [if_pos c2]
          exact ⟨_, _, _, _, rfl, p9⟩
        · rw [if_neg c2]
          exact ⟨_, _, _, _, rfl, p9⟩
  · rw [if_neg c]
    exact ⟨_, _, _, _, rfl, p8⟩
theorem halves_ok (n l : Int) : ∃ a b c d e, spec_Halves.f n l = some (a, b, c, d, e) := by
  unfold spec_Halves.f
  rw [spec_Pok]
  simp only [Option.bind_some, decide_eq_true_eq]
  by_cases h : Pok n l
  · rw [if_pos h]
    by_cases c : l = 16
    · rw [if_pos c]
      exact ⟨_, _, _, _, _, rfl⟩
    · obtain ⟨h1, h2, _⟩ := h
      rw [if_neg c, w64 (n := l + 1) (by omega) (by omega), spec_Size (by omega) (by omega)]
      simp only [Option.bind_some]
      exact ⟨_, _, _, _, _, rfl⟩
  · rw [if_neg h]
    exact ⟨_, _, _, _, _, rfl⟩
theorem putD {t : List S30} (h : t.length ≤ 1048000) (a b c : Int) {k : Nat} (hk : 2 * t.length + 3000 < k) : ∃ r ok, spec_PutRoute.f k t a b c = some (r, ok) ∧ r.length ≤ t.length + 1 := by
  obtain ⟨r, ok, h1, _, h2⟩ := both_PutI (t := t) (by omega) a b c
  exact ⟨r, ok, (h2 k hk).1, h1⟩
theorem table_end {b : List Int} (hb : b.length ≤ 1048576) {k : Nat} (q : Bool) {s1 : Int} (hs : 0 ≤ s1) (s2 : Int) {t : List S30} (ht : t.length ≤ 1000) (hq : q = true → 0 < t.length) : ∃ out s1' s2', spec_l02DrawTable.j2 (k + 1) q b s1 s2 t = some (out, s1', s2') ∧ out.length ≤ t.length + 1 ∧ 0 ≤ s1' := by
  simp only [spec_l02DrawTable.j2]
  by_cases c : q = true
  · have h0 := hq c
    rw [if_pos c]
    obtain ⟨r1, i1, h1, e1, p1, u1, v1, -⟩ := below_ok b s2 hs hb (t.length : Int)
    have v1 := v1 (by omega)
    rw [e1, Option.bind_some]
    obtain ⟨r2, i2, h2, e2, p2, -⟩ := below_ok b h1 p1 hb 3
    rw [e2, Option.bind_some]
    by_cases c1 : r2 = 0
    · rw [if_pos c1]
      obtain ⟨r3, i3, h3, e3, p3, -⟩ := pick_ok b h2 p2 hb (l := [(-1), 999, 1000]) (by simp)
      rw [e3, Option.bind_some]
      dsimp only
      rw [if_pos u1, if_pos v1]
      exact ⟨_, _, _, rfl, by rw [List.length_set]; omega, p3⟩
    · rw [if_neg c1]
      by_cases c2 : r2 = 1
      · rw [if_pos c2]
        obtain ⟨n, l, i3, h3, e3, p3⟩ := draw_prefix hb h2 p2
        rw [e3, Option.bind_some]
        dsimp only
        rw [if_pos u1, if_pos v1]
        exact ⟨_, _, _, rfl, by rw [List.length_set]; omega, p3⟩
      · rw [if_neg c2]
        by_cases c3 : r2 = 2
        · rw [if_pos c3, if_pos (by omega), if_pos (by omega)]
          exact ⟨_, _, _, rfl, by rw [List.length_append, List.length_singleton]; omega, p2⟩
        · rw [if_neg c3]
          exact ⟨_, _, _, rfl, by omega, p2⟩
  · rw [if_neg c]
    exact ⟨_, _, _, rfl, by omega, hs⟩
theorem table_ok {b : List Int} (hb : b.length ≤ 1048576) {n : Int} (hn : n ≤ 200) : ∀ (d i k : Nat) (s1 s2 : Int) (t : List S30), n ≤ (i : Int) + d → i + d ≤ 201 → 0 ≤ s1 → t.length ≤ i → d * 2 + 4000 < k →
    ∃ out s1' s2', spec_l02DrawTable.l0 k n i b s1 s2 t = some (out, s1', s2') ∧ out.length ≤ 1000 ∧ 0 ≤ s1' := by
  intro d
  induction d with
  | zero =>
    intro i k s1 s2 t hi h2 hs ht hk
    obtain ⟨k, rfl⟩ : ∃ m, k = m + 2 := ⟨k - 2, by omega⟩
    simp only [spec_l02DrawTable.l0]
    rw [if_neg (by omega)]
    obtain ⟨r1, i1, h1, e1, p1⟩ := once_ok b s2 hs hb 25
    rw [e1, Option.bind_some]
    dsimp only
    by_cases c : r1 = true
    · rw [if_pos c]
      obtain ⟨out, a1, a2, q1, q2, q3⟩ := table_end hb (k := k) (decide ((t.length : Int) > 0)) p1 h1 (t := t) (by omega) (fun q => by have := of_decide_eq_true q; omega)
      exact ⟨out, a1, a2, q1, by omega, q3⟩
    · rw [if_neg c]
      obtain ⟨out, a1, a2, q1, q2, q3⟩ := table_end hb (k := k) false p1 h1 (t := t) (by omega) (fun q => by cases q)
      exact ⟨out, a1, a2, q1, by omega, q3⟩
  | succ d ih =>
    intro i k s1 s2 t hi h2 hs ht hk
    by_cases ci : (i : Int) < n
    · obtain ⟨k, rfl⟩ : ∃ m, k = m + 2 := ⟨k - 2, by omega⟩
      have nx : ∀ (s1 s2 a c e : Int), 0 ≤ s1 → ∃ out s1' s2', (spec_PutRoute.f k t a c e).bind (fun bt => spec_l02DrawTable.l0 k n (wrap64 ((i : Int) + 1)) b s1 s2 bt.1) = some (out, s1', s2') ∧ out.length ≤ 1000 ∧ 0 ≤ s1' := fun s1 s2 a c e hs => by
        obtain ⟨r, ok, e1, e2⟩ := putD (t := t) (by omega) a c e (k := k) (by omega)
        rw [e1, Option.bind_some, wr1 (by omega)]
        exact ih (i + 1) k s1 s2 r (by omega) (by omega) hs (by omega) (by omega)
      have j1 : ∀ (q : Bool) (s1 s2 a c : Int), 0 ≤ s1 → (q = true → 0 < t.length) → ∃ out s1' s2', spec_l02DrawTable.j1 (k + 1) n i q b s1 s2 t a c = some (out, s1', s2') ∧ out.length ≤ 1000 ∧ 0 ≤ s1' := by
        intro q s1 s2 a c hs hq
        simp only [spec_l02DrawTable.j1]
        by_cases cq : q = true
        · have h0 := hq cq
          rw [if_pos cq]
          obtain ⟨r1, i1, h1, e1, p1, u1, v1, -⟩ := below_ok b s2 hs hb (t.length : Int)
          have v1 := v1 (by omega)
          rw [e1, Option.bind_some]
          dsimp only
          rw [if_pos u1, if_pos v1]
          obtain ⟨x1, x2, x3, x4, x5, hx⟩ := halves_ok (rd_T30 t r1).f0.f0 (rd_T30 t r1).f0.f1
          rw [hx, Option.bind_some]
          dsimp only
          by_cases c5 : x5 = true
          · rw [if_pos c5]
            obtain ⟨r2, i2, h2, e2, p2⟩ := once_ok b h1 p1 hb 2
            rw [e2, Option.bind_some]
            dsimp only
            by_cases c6 : r2 = true
            · rw [if_pos c6]
              obtain ⟨r3, i3, h3, e3, p3, -⟩ := below_ok b h2 p2 hb 4
              rw [e3, Option.bind_some]
              exact nx _ _ _ _ _ p3
            · rw [if_neg c6]
              obtain ⟨r3, i3, h3, e3, p3, -⟩ := below_ok b h2 p2 hb 4
              rw [e3, Option.bind_some]
              exact nx _ _ _ _ _ p3
          · rw [if_neg c5]
            obtain ⟨r3, i3, h3, e3, p3, -⟩ := below_ok b h1 p1 hb 4
            rw [e3, Option.bind_some]
            exact nx _ _ _ _ _ p3
        · rw [if_neg cq]
          obtain ⟨r3, i3, h3, e3, p3, -⟩ := below_ok b s2 hs hb 4
          rw [e3, Option.bind_some]
          exact nx _ _ _ _ _ p3
      simp only [spec_l02DrawTable.l0]
      rw [if_pos ci]
      obtain ⟨a, c, i1, h1, e1, p1⟩ := draw_prefix hb s2 hs
      rw [e1, Option.bind_some]
      dsimp only
      by_cases c1 : (t.length : Int) > 0
      · rw [if_pos c1]
        obtain ⟨r2, i2, h2, e2, p2⟩ := once_ok b h1 p1 hb 2
        rw [e2, Option.bind_some]
        exact j1 _ _ _ _ _ p2 (fun _ => by omega)
      · rw [if_neg c1]
        exact j1 _ _ _ _ _ p1 (fun q => by cases q)
    · exact ih i k s1 s2 t (by omega) (by omega) hs ht (by omega)
theorem size12_ok {l : List Int} (hl : l.length ≤ 1048576) : ∃ s, spec_l01Size.f l 12 = some s ∧ 0 < s ∧ s ≤ 12 := by
  unfold spec_l01Size.f
  rw [w64 (n := (l.length : Int) / 16) (by omega) (by omega), w64 (n := 2 + (l.length : Int) / 16) (by omega) (by omega)]
  by_cases c : 2 + (l.length : Int) / 16 > 12
  · rw [if_pos c]; exact ⟨_, rfl, by omega, by omega⟩
  · rw [if_neg c]; exact ⟨_, rfl, by omega, by omega⟩
theorem one_ok {l : List Int} (hl : l.length ≤ 1048576) {k : Nat} (hk : 10000 < k) : ∃ (t : List S30) (i h : Int), spec_l02DrawOne.f k l = some (t, l, i, h) ∧ t.length ≤ 1000 ∧ 0 ≤ i := by
  obtain ⟨h0, e0⟩ := new_ok hl (k := k) (by omega)
  obtain ⟨s, e1, s1, s2⟩ := size12_ok hl
  obtain ⟨r1, i1, h1, q1, w1, u1, v1, -⟩ := below_ok l h0 (Int.le_refl 0) hl s
  have v1 := v1 s1
  obtain ⟨r2, i2, h2, q2, w2⟩ := once_ok l h1 w1 hl 60
  unfold spec_l02DrawOne.f
  rw [e0, Option.bind_some, e1, Option.bind_some]
  dsimp only
  rw [q1, Option.bind_some]
  dsimp only
  rw [q2, Option.bind_some]
  dsimp only
  have key : ∀ n : Int, n ≤ 200 → ∃ out s1' s2', spec_l02DrawTable.f k l i2 h2 n = some (out, s1', s2') ∧ out.length ≤ 1000 ∧ 0 ≤ s1' := fun n hn => by
    unfold spec_l02DrawTable.f
    exact table_ok hl hn 200 0 k i2 h2 [] (by omega) (by omega) w2 (Nat.le_refl _) (by omega)
  by_cases c : r2 = true
  · rw [if_pos c]
    obtain ⟨out, a1, a2, x1, x2, x3⟩ := key 180 (by omega)
    rw [x1, Option.bind_some]
    exact ⟨_, _, _, rfl, x2, x3⟩
  · rw [if_neg c]
    obtain ⟨out, a1, a2, x1, x2, x3⟩ := key r1 (by omega)
    rw [x1, Option.bind_some]
    exact ⟨_, _, _, rfl, x2, x3⟩
theorem own_ok {b : List Int} (hb : b.length ≤ 1048576) {s1 : Int} (hs : 0 ≤ s1) (s2 : Int) (t : List S30) {k : Nat} (hk : 0 < k) : ∃ x y s1' s2', spec_l02DrawOwn.f k b s1 s2 t = some (x, y, s1', s2') ∧ 0 ≤ s1' := by
  obtain ⟨k, rfl⟩ : ∃ j, k = j + 1 := ⟨k - 1, by omega⟩
  have key : ∀ (q : Bool) (s1 s2 : Int), 0 ≤ s1 → (q = true → 0 < t.length) → ∃ x y s1' s2', spec_l02DrawOwn.j0 (k + 1) q b s1 s2 t = some (x, y, s1', s2') ∧ 0 ≤ s1' := by
    intro q s1 s2 hs hq
    simp only [spec_l02DrawOwn.j0]
    by_cases c : q = true
    · have h0 := hq c
      rw [if_pos c]
      obtain ⟨r, i, h, e, p, u, v, -⟩ := below_ok b s2 hs hb (t.length : Int)
      have v := v (by omega)
      rw [e, Option.bind_some]
      dsimp only
      rw [if_pos u, if_pos v]
      exact ⟨_, _, _, _, rfl, p⟩
    · rw [if_neg c]
      obtain ⟨n, l, i, h, e, p⟩ := draw_prefix hb s2 hs
      rw [e, Option.bind_some]
      exact ⟨_, _, _, _, rfl, p⟩
  unfold spec_l02DrawOwn.f
  by_cases c : (t.length : Int) > 0
  · rw [if_pos c]
    obtain ⟨r, i, h, e, p⟩ := once_ok b s2 hs hb 3
    rw [e, Option.bind_some]
    exact key _ _ _ p (fun _ => by omega)
  · rw [if_neg c]
    exact key _ _ _ hs (fun q => by cases q)
/-- The hop of any address. -/
def HF (t : List S30) (x : Int) : Int := if 0 ≤ x ∧ x ≤ 65535 then FH t x else -1
theorem spec_HF {t : List S30} (g : Tok t) (x : Int) {k : Nat} (hk : t.length + 1 < k) : spec_FindHop.f k t x = some (HF t x) := by
  have h120 := g.2
  unfold spec_FindHop.f
  rw [spec_Best (by omega) x hk]
  unfold bestAns HF FH
  by_cases ha : 0 ≤ x ∧ x ≤ 65535
  · rw [if_pos ⟨g, ha⟩, if_pos ha]
    simp only [Option.bind_some, bout]
    by_cases c : (bestOf x t).1 = true
    · rw [if_pos c, if_pos c]
    · rw [if_neg c, if_neg c]
  · rw [if_neg (fun q => ha q.2), if_neg ha]
    rfl
theorem impl_HF {t : List S30} (g : Tok t) (x : Int) {k : Nat} (hk : t.length + 1 < k) : impl_FindHop.f k t x = some (HF t x) := by
  have h120 := g.2
  unfold impl_FindHop.f
  rw [impl_Best (by omega) x (by omega)]
  unfold bestAns HF FH
  by_cases ha : 0 ≤ x ∧ x ≤ 65535
  · rw [if_pos ⟨g, ha⟩, if_pos ha]
    simp only [Option.bind_some, bout]
    by_cases c : (bestOf x t).1 = true
    · rw [if_pos c, if_pos c]
    · rw [if_neg c, if_neg c]
  · rw [if_neg (fun q => ha q.2), if_neg ha]
    rfl
theorem pok_end {a b : Int} (hp : Pok a b) : 0 ≤ a ∧ a + psz b ≤ 65536 := ⟨hp.2.2.1, hp.top⟩
theorem HF_put {t u : List S30} {a b c : Int} (g : Tok t) (gu : Tok u) (hp : Pok a b) (hu : u = insP ⟨⟨a, b⟩, c⟩ (t.filter (fun q => !isR a b q))) (x : Int) :
    HF u x = if Phas a b x ∧ ((bestAns t x).2.2.2 = true → (bestAns t x).2.1 ≤ b) then c else HF t x := by
  unfold HF
  by_cases ha : 0 ≤ x ∧ x ≤ 65535
  · have eb : bestAns t x = bout (bestOf x t) := by unfold bestAns; rw [if_pos ⟨g, ha⟩]
    rw [if_pos ha, if_pos ha, eb]
    exact FH_put g gu hp hu x
  · have e := pok_end hp
    rw [if_neg ha, if_neg ha, if_neg (fun q => by have := q.1; unfold Phas at this; omega)]
theorem at_some (l : List Int) {i : Int} (hi : 0 ≤ i) : ∃ v, laws_at.f l i = some v := by
  unfold laws_at.f
  by_cases c : i < (l.length : Int)
  · rw [if_pos c, if_pos hi]; exact ⟨_, rfl⟩
  · rw [if_neg c]; exact ⟨_, rfl⟩
theorem rts_l1 {t u w : List S30} {a b c : Int} (g : Tok t) (gu : Tok u) (hp : Pok a b) (hu : u = insP ⟨⟨a, b⟩, c⟩ (t.filter (fun q => !isR a b q))) (l : List Int) (x9 : Bool) (hw : x9 = true → w = t) :
    ∀ (d i K : Nat), i + d = 40 → d * 4 + 2000 < K → laws_FnRoutes.l1 K l x9 i t a b c u w = some true := by
  have h1 := g.2
  have h2 := gu.2
  intro d
  induction d with
  | zero =>
    intro i K hi hK
    obtain ⟨K, rfl⟩ : ∃ m, K = m + 1 := ⟨K - 1, by omega⟩
    simp only [laws_FnRoutes.l1]
    rw [if_neg (by omega)]
  | succ d ih =>
    intro i K hi hK
    obtain ⟨K, rfl⟩ : ∃ m, K = m + 3 := ⟨K - 3, by omega⟩
    obtain ⟨v1, e1⟩ := at_some l (i := (i : Int)) (by omega)
    obtain ⟨v2, e2⟩ := at_some l (i := wrap64 ((i : Int) + 2)) (by rw [w64 (by omega) (by omega)]; omega)
    have nx := ih (i + 1) K (by omega) (by omega)
    simp only [laws_FnRoutes.l1]
    rw [if_pos (by omega), e1, Option.bind_some, e2, Option.bind_some]
    generalize Int.tmod (wrap64 ((wrap64 ((wrap64 (a + (wrap64 (v1 * v2)))) - 40)) + 65536)) 65536 = X
    have core := HF_put g gu hp hu X
    have j4 : ∀ W, W = HF u X → laws_FnRoutes.j4 (K + 1) l x9 i X (HF t X) W t a b c u w = some true := by
      intro W hW
      simp only [laws_FnRoutes.j4]
      rw [impl_HF gu X (by omega), Option.bind_some, if_pos hW.symm]
      by_cases q : x9 = true
      · rw [if_pos q, hw q, impl_HF g X (by omega), Option.bind_some, if_pos rfl, wr1 (by omega)]
        rw [hw q] at nx
        exact nx
      · rw [if_neg q, wr1 (by omega)]
        exact nx
    have j3 : ∀ q : Bool, (q = true → c = HF u X) → (q = false → HF t X = HF u X) → laws_FnRoutes.j3 (K + 2) l x9 i X (HF t X) (HF t X) q t a b c u w = some true := by
      intro q q1 q2
      simp only [laws_FnRoutes.j3]
      by_cases z : q = true
      · rw [if_pos z]; exact j4 _ (q1 z)
      · rw [if_neg z]; exact j4 _ (q2 (by cases q with | true => exact absurd rfl z | false => rfl))
    rw [spec_HF g X (by omega), Option.bind_some, spec_Best (by omega) X (by omega), Option.bind_some, spec_Has, Option.bind_some]
    by_cases c1 : Phas a b X
    · rw [decide_eq_true ⟨hp, c1⟩, if_pos rfl]
      by_cases c2 : (bestAns t X).2.2.2 = true
      · rw [if_pos c2]
        refine j3 _ (fun q => ?_) (fun q => ?_)
        · rw [core, if_pos ⟨c1, fun _ => of_decide_eq_true q⟩]
        · rw [core, if_neg (fun z => of_decide_eq_false q (z.2 c2))]
      · rw [if_neg c2]
        refine j3 _ (fun q => ?_) (fun q => by cases q)
        rw [core, if_pos ⟨c1, fun z => absurd z c2⟩]
    · rw [decide_eq_false (fun z => c1 z.2), if_neg (by decide)]
      refine j3 _ (fun q => by cases q) (fun q => ?_)
      rw [core, if_neg (fun z => c1 z.1)]
theorem rts_l0 {t u : List S30} {a b c : Int} (g : Tok t) (gu : Tok u) (hp : Pok a b) (hu : u = insP ⟨⟨a, b⟩, c⟩ (t.filter (fun q => !isR a b q))) (l : List Int) :
    ∀ (d i K : Nat) (x9 : Bool), i + d = t.length → (x9 = true → ∀ q : Nat, q < i → isR a b (rd_T30 t (q : Int)) = false) → d + 4000 < K → laws_FnRoutes.l0 K l x9 i t a b c u = some true := by
  have h1 := g.2
  have h2 := gu.2
  intro d
  induction d with
  | zero =>
    intro i K x9 hi hx hK
    obtain ⟨K, rfl⟩ : ∃ m, K = m + 2 := ⟨K - 2, by omega⟩
    have hit : ∃ j : Nat, j < u.length ∧ isR a b (rd_T30 u (j : Int)) = true := by
      have hm : (⟨⟨a, b⟩, c⟩ : S30) ∈ u := by rw [hu]; exact insP_mem _ _
      obtain ⟨j, hj, e⟩ := List.getElem_of_mem hm
      refine ⟨j, hj, ?_⟩
      rw [rd_natR hj, e]
      exact decide_eq_true ⟨rfl, rfl⟩
    have j1 : ∀ (w : List S30) (q : Bool), (x9 = true → w = t) → q = false → laws_FnRoutes.j1 (K + 1) l x9 q t a b c u w = some true := by
      intro w q q1 q2
      subst q2
      simp only [laws_FnRoutes.j1]
      rw [if_neg (by decide)]
      exact rts_l1 g gu hp hu l x9 q1 40 0 K (by omega) (by omega)
    simp only [laws_FnRoutes.l0]
    rw [if_neg (by omega), impl_DropH gu hp hit (by omega), Option.bind_some]
    dsimp only
    rw [if_pos rfl]
    by_cases c9 : x9 = true
    · have none := drop_none (t := t) (a := a) (b := b) (fun q hq => hx c9 q (by omega))
      have back : u.filter (fun q => !isR a b q) = t := by
        have z := filter_insP (r := (⟨⟨a, b⟩, c⟩ : S30)) (p := fun q => !isR a b q) (by simp [isR]) (t.filter (fun q => !isR a b q))
        rw [← hu, none, none] at z
        exact z
      rw [if_pos c9, back]
      exact j1 t _ (fun _ => rfl) (by rw [bne_eq_false_iff_eq])
    · rw [if_neg c9]
      exact j1 _ _ (fun q => absurd q c9) rfl
  | succ d ih =>
    intro i K x9 hi hx hK
    obtain ⟨K, rfl⟩ : ∃ m, K = m + 1 := ⟨K - 1, by omega⟩
    simp only [laws_FnRoutes.l0]
    rw [if_pos (by omega), if_pos (by omega), wr1 (by omega)]
    by_cases c1 : isR a b (rd_T30 t (i : Int)) = true
    · have c2 := of_decide_eq_true c1
      rw [if_pos (by rw [c2.1, c2.2]; simp)]
      exact ih (i + 1) K false (by omega) (fun q => by cases q) (by omega)
    · rw [if_neg (fun q => c1 (decide_eq_true (by simpa using q)))]
      refine ih (i + 1) K x9 (by omega) (fun q j hj => ?_) (by omega)
      by_cases e : j = i
      · subst e
        cases z : isR a b (rd_T30 t (j : Int)) with
        | false => rfl
        | true => exact absurd z c1
      · exact hx q j (by omega)
theorem FnRoutes : FnRoutes.Pure := by
  intro l _
  refine ⟨l.length + 20000, ?_⟩
  have key : ∃ b, laws_FnRoutes.f (l.length + 20000) l = some b ∧ b = true := by
    unfold laws_FnRoutes.f
    by_cases hb : l.length ≤ 1048576
    · refine ex_bind false (by unfold laws_big.f; rw [decide_eq_false (by omega)]) ?_
      refine ex_neg (by decide) ?_
      obtain ⟨t, i, h, e, p1, p2⟩ := one_ok hb (k := l.length + 20000) (by omega)
      obtain ⟨a, b, i2, h2, e2, w2⟩ := own_ok hb p2 h t (k := l.length + 20000) (by omega)
      obtain ⟨r, i3, h3, e3, w3, -⟩ := below_ok l h2 w2 hb 1000
      obtain ⟨c, i4, h4, e4, w4, -⟩ := pick_ok l h3 w3 hb (l := [0, 1, 2, r, 999, 1000, (-1)]) (by simp)
      have ed : spec_DrawPutRoute.f (l.length + 20000) l = some (t, a, b, c) := by
        unfold spec_DrawPutRoute.f
        rw [e, Option.bind_some]
        dsimp only
        rw [e2, Option.bind_some]
        dsimp only
        rw [e3, Option.bind_some]
        dsimp only
        rw [e4]
        rfl
      refine ex_bind (t, a, b, c) ed ?_
      obtain ⟨u, ok, _, q1, q2⟩ := both_PutI (t := t) (by omega) a b c
      obtain ⟨s1, s2⟩ := q2 (l.length + 20000) (by omega)
      refine ex_bind (u, ok) s1 ?_
      by_cases c1 : ok = true
      · refine ex_pos c1 ?_
        obtain ⟨g, hp, _, gu, hu⟩ := q1 c1
        have h1 := g.2
        refine ex_bind (u, ok) s2 ?_
        refine ex_pos c1 ?_
        exact ⟨true, rts_l0 g gu hp hu l t.length 0 (l.length + 20000) true (by omega) (fun _ q hq => by omega) (by omega), rfl⟩
      · exact ex_neg c1 ⟨true, rfl, rfl⟩
    · refine ex_bind true (by unfold laws_big.f; rw [decide_eq_true (by omega)]) ?_
      exact ex_pos rfl ⟨true, rfl, rfl⟩
  obtain ⟨b, e, rfl⟩ := key
  exact e

end Go.Proofs.Ytjepmdngbafonaa.Pure
