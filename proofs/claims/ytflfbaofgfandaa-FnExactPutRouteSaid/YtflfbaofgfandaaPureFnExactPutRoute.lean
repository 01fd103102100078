/- The plain law of FnExactPutRoute: the program's answer is the reference's. -/
import Derived.Test.YtflfbaofgfandaaStmtFnExactPutRoute
namespace Go.Proofs.Ytflfbaofgfandaa.Pure
open Go.RowKit Go.Proofs.Ytflfbaofgfandaa.QFnExactPutRoute Go.Proofs.YtflfbaofgfandaaP.PrintWords Go.Proofs.YtflfbaofgfandaaP.PrintLast Go.Proofs.YtflfbaofgfandaaP.PrintMore
set_option linter.unusedVariables false
set_option linter.unusedSimpArgs false

theorem len17 {l : Int} (h0 : 0 ≤ l) (h1 : l ≤ 16) : l = 0 ∨ l = 1 ∨ l = 2 ∨ l = 3 ∨ l = 4 ∨ l = 5 ∨ l = 6 ∨ l = 7 ∨ l = 8 ∨ l = 9 ∨ l = 10 ∨ l = 11 ∨ l = 12 ∨ l = 13 ∨ l = 14 ∨ l = 15 ∨ l = 16 := by omega
/-- How many addresses a prefix of length l has. -/
def psz (l : Int) : Int := 2 ^ (16 - l).toNat
theorem psz_pos (l : Int) : 0 < psz l := Int.pow_pos (by decide)
theorem psz_le {l : Int} (h0 : 0 ≤ l) (h1 : l ≤ 16) : psz l ≤ 65536 := by
  rcases len17 h0 h1 with rfl | rfl | rfl | rfl | rfl | rfl | rfl | rfl | rfl | rfl | rfl | rfl | rfl | rfl | rfl | rfl | rfl <;> decide
theorem psz_half {l : Int} (h0 : 0 ≤ l) (h1 : l ≤ 15) : psz l = 2 * psz (l + 1) := by
  rcases len17 h0 (by omega) with rfl | rfl | rfl | rfl | rfl | rfl | rfl | rfl | rfl | rfl | rfl | rfl | rfl | rfl | rfl | rfl | rfl <;> first | decide | omega
theorem psz_top {l : Int} (h0 : 0 ≤ l) (h1 : l ≤ 16) : 65536 = psz l * 2 ^ l.toNat := by
  rcases len17 h0 h1 with rfl | rfl | rfl | rfl | rfl | rfl | rfl | rfl | rfl | rfl | rfl | rfl | rfl | rfl | rfl | rfl | rfl <;> decide
theorem w64 {n : Int} (h0 : -9223372036854775808 ≤ n) (h1 : n ≤ 9223372036854775807) : wrap64 n = n := by unfold wrap64; omega
theorem shl_psz {l : Int} (h0 : 0 ≤ l) (h1 : l ≤ 16) : shl .i64 1 (16 - l) = psz l := by
  rcases len17 h0 h1 with rfl | rfl | rfl | rfl | rfl | rfl | rfl | rfl | rfl | rfl | rfl | rfl | rfl | rfl | rfl | rfl | rfl <;> decide
theorem u64w {n : Int} (h0 : 0 ≤ n) (h1 : n ≤ 16) : IntKind.u64.wrap n = n := by
  rcases len17 h0 h1 with rfl | rfl | rfl | rfl | rfl | rfl | rfl | rfl | rfl | rfl | rfl | rfl | rfl | rfl | rfl | rfl | rfl <;> decide
/-- A valid prefix. -/
def Pok (n l : Int) : Prop := 0 ≤ l ∧ l ≤ 16 ∧ 0 ≤ n ∧ n ≤ 65535 ∧ n % psz l = 0
instance (n l : Int) : Decidable (Pok n l) := by unfold Pok; infer_instance
theorem Pok.top {n l : Int} (h : Pok n l) : n + psz l ≤ 65536 := by
  obtain ⟨h0, h1, h2, h3, h4⟩ := h
  have e := psz_top h0 h1
  have p := psz_pos l
  have d := Int.emod_add_mul_ediv n (psz l)
  rw [h4, Int.zero_add] at d
  have q : n / psz l < 2 ^ l.toNat := by
    apply Int.ediv_lt_of_lt_mul p
    rw [Int.mul_comm]; omega
  have m : psz l * (n / psz l + 1) ≤ psz l * 2 ^ l.toNat := Int.mul_le_mul_of_nonneg_left (by omega) (by omega)
  rw [Int.mul_add] at m
  omega
theorem spec_In (a b c : Int) : spec_l01In.f a b c = some (decide (b ≤ a ∧ a ≤ c)) := by
  unfold spec_l01In.f
  by_cases h : b ≤ a <;> simp [h]
theorem spec_Addr (a : Int) : spec_l01Addr.f a = some (decide (0 ≤ a ∧ a ≤ 65535)) := by
  unfold spec_l01Addr.f; rw [spec_In]; rfl
theorem spec_Size {l : Int} (h0 : 0 ≤ l) (h1 : l ≤ 16) : spec_l01Size2.f l = some (psz l) := by
  unfold spec_l01Size2.f
  rw [w64 (by omega) (by omega), u64w (by omega) (by omega), if_pos (by omega), shl_psz h0 h1]
theorem spec_Pok (n l : Int) : spec_PrefixOk.f n l = some (decide (Pok n l)) := by
  unfold spec_PrefixOk.f
  rw [spec_In, spec_Addr]
  simp only [Option.bind_some, decide_eq_true_eq]
  by_cases hl : 0 ≤ l ∧ l ≤ 16
  · rw [if_pos hl]
    by_cases hn : 0 ≤ n ∧ n ≤ 65535
    · rw [if_pos hn, spec_Size hl.1 hl.2]
      have p := psz_pos l
      simp only [Option.bind_some]
      rw [if_neg (by omega), Int.tmod_eq_emod_of_nonneg hn.1]
      congr 1
      by_cases e : n % psz l = 0
      · rw [e]; simp [Pok, hl, hn, e]
      · simp [Pok, hl, hn, e]
    · rw [if_neg hn]; congr 1; symm; rw [decide_eq_false_iff_not]; unfold Pok; omega
  · rw [if_neg hl]; congr 1; symm; rw [decide_eq_false_iff_not]; unfold Pok; omega
theorem impl_In (a b c : Int) : impl_within.f a b c = some (decide (b ≤ a ∧ a ≤ c)) := by
  unfold impl_within.f
  by_cases h : b ≤ a <;> simp [h]
theorem impl_Addr (a : Int) : impl_isAddr.f a = some (decide (0 ≤ a ∧ a ≤ 65535)) := by
  unfold impl_isAddr.f; rw [impl_In]; rfl
theorem impl_Size (n : Int) {l : Int} (h0 : 0 ≤ l) (h1 : l ≤ 16) : impl_Prefix_size.f n l = some (psz l) := by
  unfold impl_Prefix_size.f
  rw [w64 (by omega) (by omega), if_pos (by omega), shl_psz h0 h1]
theorem impl_Pok (n l : Int) : impl_PrefixOk.f n l = some (decide (Pok n l)) := by
  unfold impl_PrefixOk.f
  rw [impl_In, impl_Addr]
  simp only [Option.bind_some, decide_eq_true_eq]
  by_cases hl : 0 ≤ l ∧ l ≤ 16
  · rw [if_pos hl]
    by_cases hn : 0 ≤ n ∧ n ≤ 65535
    · rw [if_pos hn, impl_Size n hl.1 hl.2]
      have p := psz_pos l
      simp only [Option.bind_some]
      rw [if_neg (by omega), Int.tmod_eq_emod_of_nonneg hn.1]
      congr 1
      by_cases e : n % psz l = 0
      · rw [e]; simp [Pok, hl, hn, e]
      · simp [Pok, hl, hn, e]
    · rw [if_neg hn]; congr 1; symm; rw [decide_eq_false_iff_not]; unfold Pok; omega
  · rw [if_neg hl]; congr 1; symm; rw [decide_eq_false_iff_not]; unfold Pok; omega
/-- A loop that asks each index and ends at the first refusal. -/
theorem all_loop {F : Nat → Int → Option Bool} {n : Nat} {P : Nat → Prop} {e : Bool}
    (hs : ∀ (k i : Nat), i < n → (∀ j, j < i → P j) → (P i ∧ F (k + 1) i = F k ((i : Int) + 1)) ∨ (¬ P i ∧ F (k + 1) i = some false))
    (he : ∀ k : Nat, (∀ j, j < n → P j) → F (k + 1) n = some e) : ∀ (d k i : Nat), i + d = n → d < k → (∀ j, j < i → P j) →
    ∃ b, F k i = some b ∧ (b = true ↔ ((∀ j, j < n → P j) ∧ e = true)) := by
  intro d
  induction d with
  | zero =>
    intro k i hi hk hp
    obtain ⟨k, rfl⟩ : ∃ m, k = m + 1 := ⟨k - 1, by omega⟩
    obtain rfl : i = n := by omega
    exact ⟨e, he k hp, ⟨fun h => ⟨hp, h⟩, fun h => h.2⟩⟩
  | succ d ih =>
    intro k i hi hk hp
    obtain ⟨k, rfl⟩ : ∃ m, k = m + 1 := ⟨k - 1, by omega⟩
    rcases hs k i (by omega) hp with ⟨h1, h2⟩ | ⟨h1, h2⟩
    · have e1 : (i : Int) + 1 = ((i + 1 : Nat) : Int) := by omega
      rw [h2, e1]
      refine ih k (i + 1) (by omega) (by omega) (fun j hj => ?_)
      by_cases hji : j = i
      · rw [hji]; exact h1
      · exact hp j (by omega)
    · refine ⟨false, h2, ⟨(fun h => by cases h), fun h => absurd (h.1 i (by omega)) h1⟩⟩
/-- A loop that copies a list, element by element. -/
theorem copy_loop {α β : Type} {F : Nat → List α → List β → Int → Option (List β)} {cv : α → β} (z : α) {N : Nat}
    (hs : ∀ (k i : Nat) (x : List α) (y : List β), x.length ≤ N → i < x.length → i < y.length → F (k + 1) x y i = F k x (y.set i (cv (x.getD i z))) ((i : Int) + 1))
    (he : ∀ (k : Nat) (x : List α) (y : List β), F (k + 1) x y x.length = some y) (x : List α) (hN : x.length ≤ N) : ∀ (d k i : Nat) (y : List β), i + d = x.length → d < k → y.length = x.length →
    y.take i = (x.take i).map cv → F k x y i = some (x.map cv) := by
  intro d
  induction d with
  | zero =>
    intro k i y hi hk hl ht
    obtain ⟨k, rfl⟩ : ∃ m, k = m + 1 := ⟨k - 1, by omega⟩
    obtain rfl : i = x.length := by omega
    rw [he]
    rw [List.take_of_length_le (by omega), List.take_of_length_le (by omega)] at ht
    rw [ht]
  | succ d ih =>
    intro k i y hi hk hl ht
    obtain ⟨k, rfl⟩ : ∃ m, k = m + 1 := ⟨k - 1, by omega⟩
    have e1 : (i : Int) + 1 = ((i + 1 : Nat) : Int) := by omega
    rw [hs k i x y hN (by omega) (by omega), e1]
    refine ih k (i + 1) _ (by omega) (by omega) (by rw [List.length_set, hl]) ?_
    have hx : i < x.length := by omega
    have hy : i < y.length := by omega
    rw [List.take_succ_eq_append_getElem (by rw [List.length_set]; exact hy), List.take_succ_eq_append_getElem hx, List.map_append, List.take_set, ht]
    congr 1
    · rw [List.set_eq_of_length_le]
      simp; omega
    · simp [List.getD_eq_getElem?_getD, hx]
/-- Two equal lists, compared element by element. -/
theorem same_loop {α : Type} {F : Nat → List α → List α → Int → Option Bool} {N : Nat}
    (hs : ∀ (k i : Nat) (x : List α), x.length ≤ N → i < x.length → F (k + 1) x x i = F k x x ((i : Int) + 1))
    (he : ∀ (k : Nat) (x : List α), F (k + 1) x x x.length = some true) (x : List α) (hN : x.length ≤ N) : ∀ (d k i : Nat), i + d = x.length → d < k → F k x x i = some true := by
  intro d
  induction d with
  | zero =>
    intro k i hi hk
    obtain ⟨k, rfl⟩ : ∃ m, k = m + 1 := ⟨k - 1, by omega⟩
    obtain rfl : i = x.length := by omega
    exact he k x
  | succ d ih =>
    intro k i hi hk
    obtain ⟨k, rfl⟩ : ∃ m, k = m + 1 := ⟨k - 1, by omega⟩
    have e1 : (i : Int) + 1 = ((i + 1 : Nat) : Int) := by omega
    rw [hs k i x hN (by omega), e1]
    exact ih k (i + 1) (by omega) (by omega)
/-- The same where what stands behind the loop wants m rounds more. -/
theorem all_loopm (m : Nat) {F : Nat → Int → Option Bool} {n : Nat} {P : Nat → Prop} {e : Bool}
    (hs : ∀ (k i : Nat), i < n → (∀ j, j < i → P j) → (P i ∧ F (k + 1) i = F k ((i : Int) + 1)) ∨ (¬ P i ∧ F (k + 1) i = some false))
    (he : ∀ k : Nat, m ≤ k → (∀ j, j < n → P j) → F (k + 1) n = some e) : ∀ (d k i : Nat), i + d = n → d + m < k → (∀ j, j < i → P j) →
    ∃ b, F k i = some b ∧ (b = true ↔ ((∀ j, j < n → P j) ∧ e = true)) := by
  intro d
  induction d with
  | zero =>
    intro k i hi hk hp
    obtain ⟨k, rfl⟩ : ∃ m, k = m + 1 := ⟨k - 1, by omega⟩
    obtain rfl : i = n := by omega
    exact ⟨e, he k (by omega) hp, ⟨fun h => ⟨hp, h⟩, fun h => h.2⟩⟩
  | succ d ih =>
    intro k i hi hk hp
    obtain ⟨k, rfl⟩ : ∃ m, k = m + 1 := ⟨k - 1, by omega⟩
    rcases hs k i (by omega) hp with ⟨h1, h2⟩ | ⟨h1, h2⟩
    · have e1 : (i : Int) + 1 = ((i + 1 : Nat) : Int) := by omega
      rw [h2, e1]
      refine ih k (i + 1) (by omega) (by omega) (fun j hj => ?_)
      by_cases hji : j = i
      · rw [hji]; exact h1
      · exact hp j (by omega)
    · refine ⟨false, h2, ⟨(fun h => by cases h), fun h => absurd (h.1 i (by omega)) h1⟩⟩
/-- slices.IndexFunc: the first place at which p holds. -/
theorem index_loop {α : Type} {F : Nat → Int → Option Int} {p : α → Bool} (z : α) (x : List α)
    (hs : ∀ (k i : Nat), i < x.length → F (k + 1) i = if p (x.getD i z) = true then some (i : Int) else F k ((i : Int) + 1))
    (he : ∀ k : Nat, F (k + 1) (x.length : Int) = some (-1)) : ∀ (d k i : Nat), i + d = x.length → d < k →
    (F k i = some (-1) ∧ ∀ q, i ≤ q → q < x.length → p (x.getD q z) = false) ∨ (∃ j : Nat, F k i = some (j : Int) ∧ i ≤ j ∧ j < x.length ∧ p (x.getD j z) = true ∧ ∀ q, i ≤ q → q < j → p (x.getD q z) = false) := by
  intro d
  induction d with
  | zero =>
    intro k i hi hk
    obtain ⟨k, rfl⟩ : ∃ m, k = m + 1 := ⟨k - 1, by omega⟩
    obtain rfl : i = x.length := by omega
    exact .inl ⟨he k, fun q h1 h2 => by omega⟩
  | succ d ih =>
    intro k i hi hk
    obtain ⟨k, rfl⟩ : ∃ m, k = m + 1 := ⟨k - 1, by omega⟩
    rw [hs k i (by omega)]
    by_cases c : p (x.getD i z) = true
    · exact .inr ⟨i, by rw [if_pos c], Nat.le_refl _, by omega, c, fun q h1 h2 => by omega⟩
    · have c' : p (x.getD i z) = false := by simpa using c
      have e1 : (i : Int) + 1 = ((i + 1 : Nat) : Int) := by omega
      rw [if_neg c, e1]
      have hq : ∀ q, i ≤ q → ¬ i + 1 ≤ q → p (x.getD q z) = false := fun q h1 h2 => by
        have : q = i := by omega
        rw [this]; exact c'
      rcases ih k (i + 1) (by omega) (by omega) with ⟨h1, h2⟩ | ⟨j, h1, h2, h3, h4, h5⟩
      · exact .inl ⟨h1, fun q q1 q2 => if c3 : i + 1 ≤ q then h2 q c3 q2 else hq q q1 c3⟩
      · exact .inr ⟨j, h1, by omega, h3, h4, fun q q1 q2 => if c3 : i + 1 ≤ q then h5 q c3 q2 else hq q q1 c3⟩
theorem drop_cons' {α : Type} (x : List α) (z : α) {j : Nat} (hj : j < x.length) : x.drop j = x.getD j z :: x.drop (j + 1) := by
  rw [List.drop_eq_getElem_cons hj, List.getD_eq_getElem?_getD, List.getElem?_eq_getElem hj]
  rfl
theorem take_snoc' {α : Type} (x : List α) (z : α) {j : Nat} (hj : j < x.length) : x.take (j + 1) = x.take j ++ [x.getD j z] := by
  rw [List.take_succ_eq_append_getElem hj, List.getD_eq_getElem?_getD, List.getElem?_eq_getElem hj]
  rfl
/-- slices.DeleteFunc's loop: what does not satisfy p moves to the front. -/
theorem del_loop {α : Type} {F : Nat → List α → Int → Int → Option (List α)} {p : α → Bool} (z : α) (n : Nat)
    (hs : ∀ (k : Nat) (x : List α) (i j : Nat), i < j → j < x.length → x.length = n → F (k + 1) x i j = if p (x.getD j z) = true then F k x i ((j : Int) + 1) else F k (x.set i (x.getD j z)) ((i : Int) + 1) ((j : Int) + 1))
    (he : ∀ (k : Nat) (x : List α) (i : Nat), i < n → x.length = n → F (k + 1) x i (n : Int) = some (x.take i)) : ∀ (d k : Nat) (x : List α) (i j : Nat), j + d = n → i < j → x.length = n → d < k →
    F k x i j = some (x.take i ++ (x.drop j).filter (fun y => !p y)) := by
  intro d
  induction d with
  | zero =>
    intro k x i j hj hi hx hk
    obtain ⟨k, rfl⟩ : ∃ m, k = m + 1 := ⟨k - 1, by omega⟩
    obtain rfl : j = n := by omega
    rw [he k x i (by omega) hx, List.drop_eq_nil_of_le (by omega)]
    simp
  | succ d ih =>
    intro k x i j hj hi hx hk
    obtain ⟨k, rfl⟩ : ∃ m, k = m + 1 := ⟨k - 1, by omega⟩
    have hjx : j < x.length := by omega
    have hix : i < x.length := by omega
    have e1 : (j : Int) + 1 = ((j + 1 : Nat) : Int) := by omega
    have e2 : (i : Int) + 1 = ((i + 1 : Nat) : Int) := by omega
    rw [hs k x i j hi hjx hx, e1, e2, drop_cons' x z hjx, List.filter_cons]
    by_cases c : p (x.getD j z) = true
    · rw [if_pos c, ih k x i (j + 1) (by omega) (by omega) hx (by omega), c]
      simp
    · have c' : p (x.getD j z) = false := by simpa using c
      rw [if_neg c, ih k (x.set i (x.getD j z)) (i + 1) (j + 1) (by omega) (by omega) (by rw [List.length_set]; exact hx) (by omega), c']
      have hset : i < (x.set i (x.getD j z)).length := by rw [List.length_set]; exact hix
      rw [take_snoc' _ z hset, List.drop_set_of_lt (by omega), List.take_set_of_le (Nat.le_refl _), List.getD_eq_getElem?_getD, List.getElem?_set, if_pos rfl, if_pos hix]
      simp
/-- The first place, and the rest filtered: the whole filtered. -/
theorem filter_at {α : Type} {p : α → Bool} (z : α) (x : List α) {j : Nat} (hj : j < x.length) (hp : p (x.getD j z) = true) (h : ∀ q, q < j → p (x.getD q z) = false) : x.take j ++ (x.drop (j + 1)).filter (fun y => !p y) = x.filter (fun y => !p y) := by
  have e1 : (x.take j).filter (fun y => !p y) = x.take j := by
    rw [List.filter_eq_self]
    intro y hy
    obtain ⟨q, hq, rfl⟩ := List.mem_iff_getElem.1 hy
    have hq2 : q < j := by rw [List.length_take] at hq; omega
    have := h q hq2
    rw [List.getD_eq_getElem?_getD, List.getElem?_eq_getElem (by omega)] at this
    rw [List.getElem_take]
    simpa using this
  have e2 : x = x.take j ++ (x.getD j z :: x.drop (j + 1)) := by
    rw [← drop_cons' x z hj, List.take_append_drop]
  have e3 : x.filter (fun y => !p y) = (x.take j).filter (fun y => !p y) ++ (x.getD j z :: x.drop (j + 1)).filter (fun y => !p y) := by
    rw [← List.filter_append, ← e2]
  rw [e3, e1, List.filter_cons, hp]
  simp
theorem filter_none {α : Type} {p : α → Bool} (z : α) (x : List α) (h : ∀ q, q < x.length → p (x.getD q z) = false) : x.filter (fun y => !p y) = x := by
  rw [List.filter_eq_self]
  intro y hy
  obtain ⟨q, hq, rfl⟩ := List.mem_iff_getElem.1 hy
  have := h q hq
  rw [List.getD_eq_getElem?_getD, List.getElem?_eq_getElem hq] at this
  simpa using this
/-- A loop that appends what satisfies q. -/
theorem keep_loop {α γ : Type} {F : Nat → Int → List α → Option γ} {q : α → Bool} (z : α) (x : List α) {N : Nat} {G : List α → Option γ} (m : Nat)
    (hs : ∀ (k i : Nat) (acc : List α), i < x.length → acc.length ≤ i → F (k + 1) i acc = F k ((i : Int) + 1) (if q (x.getD i z) = true then acc ++ [x.getD i z] else acc))
    (he : ∀ (k : Nat) (acc : List α), m ≤ k → acc.length ≤ x.length → F (k + 1) (x.length : Int) acc = G acc) : ∀ (d k i : Nat) (acc : List α), i + d = x.length → acc.length ≤ i → d + m < k → F k i acc = G (acc ++ (x.drop i).filter q) := by
  intro d
  induction d with
  | zero =>
    intro k i acc hi ha hk
    obtain ⟨k, rfl⟩ : ∃ m, k = m + 1 := ⟨k - 1, by omega⟩
    obtain rfl : i = x.length := by omega
    rw [he k acc (by omega) ha, List.drop_eq_nil_of_le (Nat.le_refl _)]
    simp
  | succ d ih =>
    intro k i acc hi ha hk
    obtain ⟨k, rfl⟩ : ∃ m, k = m + 1 := ⟨k - 1, by omega⟩
    have e1 : (i : Int) + 1 = ((i + 1 : Nat) : Int) := by omega
    have hix : i < x.length := by omega
    rw [hs k i acc hix ha, e1, drop_cons' x z hix, List.filter_cons]
    by_cases c : q (x.getD i z) = true
    · rw [if_pos c, if_pos c, ih k (i + 1) _ (by omega) (by rw [List.length_append]; simp only [List.length_cons, List.length_nil]; omega) (by omega)]
      simp
    · rw [if_neg c, if_neg c, ih k (i + 1) _ (by omega) (by omega) (by omega)]
/-- A route, of the laws' type and of the program's. -/
def cvR (x : S40) : S43 := ⟨⟨x.f0.f0, x.f0.f1⟩, x.f1⟩
theorem sz_Table {l : List S40} (h : l.length ≤ 9223372036854775807) : laws_szTable.f l 1048576 = some (if l.length ≤ 1048576 then 1048576 - (l.length : Int) else -1) := by
  unfold laws_szTable.f laws_szRouteS.f
  rw [w64 (by omega) (by omega)]
  by_cases hl : l.length ≤ 1048576
  · rw [if_neg (by omega), if_pos hl]
    simp only [Option.bind_some]
    rw [if_neg (by omega)]
  · rw [if_pos (by omega), if_neg hl]
    rfl
theorem to_RouteS {l : List S40} {k : Nat} (h : l.length ≤ 1048576) (hk : l.length < k) : laws_toRouteS.f k l = some (l.map cvR) := by
  unfold laws_toRouteS.f
  rw [if_pos (by omega), if_pos (by omega)]
  refine copy_loop (F := laws_toRouteS.l0) (cv := cvR) z40 (N := 1048576) ?_ ?_ l h l.length k 0 _ (by omega) hk (by simp) (by simp)
  · intro k i x y hN hx hy
    simp only [laws_toRouteS.l0]
    rw [if_pos (by omega), if_pos (by omega)]
    unfold laws_toRoute.f laws_toPrefix.f
    simp only [Option.bind_some]
    rw [if_pos (by omega), w64 (by omega) (by omega)]
    simp [rd_T40, cvR]
  · intro k x y
    simp only [laws_toRouteS.l0]
    rw [if_neg (by omega)]
theorem to_Table {l : List S40} {k : Nat} (h : l.length ≤ 1048576) (hk : l.length < k) : laws_toTable.f k l = some (l.map cvR) := by
  unfold laws_toTable.f
  rw [to_RouteS h hk]; rfl
theorem eq_RouteS {l : List S43} {k : Nat} (h : l.length ≤ 1048576) (hk : l.length < k) : laws_eqRouteS.f k l l = some true := by
  unfold laws_eqRouteS.f
  rw [if_pos rfl]
  refine same_loop (F := laws_eqRouteS.l0) (N := 1048576) ?_ ?_ l h l.length k 0 (by omega) hk
  · intro k i x hN hx
    simp only [laws_eqRouteS.l0]
    rw [if_pos (by omega), if_pos (by omega), if_pos (by omega)]
    unfold laws_eqRoute.f laws_eqPrefix.f
    simp only [if_true, Option.bind_some]
    rw [w64 (by omega) (by omega)]
  · intro k x
    simp only [laws_eqRouteS.l0]
    rw [if_neg (by omega)]
theorem eq_Table {l : List S43} {k : Nat} (h : l.length ≤ 1048576) (hk : l.length < k) : laws_eqTable.f k l l = some true := by
  unfold laws_eqTable.f
  rw [eq_RouteS h hk]; rfl
/-- Prefix a stands ahead of prefix b. -/
def Ahead (n l m k : Int) : Prop := n < m ∨ n = m ∧ l < k
theorem spec_Ahead (n l m k : Int) : ∃ b, spec_l02Ahead.f n l m k = some b ∧ (b = true ↔ Ahead n l m k) := by
  unfold spec_l02Ahead.f Ahead
  by_cases h : n < m
  · exact ⟨true, by rw [if_pos h], by simp [h]⟩
  · by_cases h2 : n = m
    · exact ⟨decide (l < k), by rw [if_neg h, if_pos h2], by simp [h2]⟩
    · exact ⟨false, by rw [if_neg h, if_neg h2], by simp [h, h2]⟩
theorem impl_Compare {n l m k : Int} (h1 : Pok n l) (h2 : Pok m k) : ∃ c, impl_comparePrefixes.f n l m k = some c ∧ (¬ c ≥ 0 ↔ Ahead n l m k) := by
  obtain ⟨a0, a1, a2, a3, _⟩ := h1
  obtain ⟨b0, b1, b2, b3, _⟩ := h2
  unfold impl_comparePrefixes.f Ahead
  by_cases h : n = m
  · refine ⟨l - k, by rw [if_pos h, w64 (by omega) (by omega)], by omega⟩
  · refine ⟨n - m, by rw [if_neg h, w64 (by omega) (by omega)], by omega⟩
/-- The route at an index is valid and stands behind the one ahead of it. -/
def Rat (t : List S43) (j : Nat) : Prop :=
  Pok (rd_T43 t j).f0.f0 (rd_T43 t j).f0.f1 ∧ (0 ≤ (rd_T43 t j).f1 ∧ (rd_T43 t j).f1 ≤ 999) ∧
    (0 < j → Ahead (rd_T43 t ((j : Int) - 1)).f0.f0 (rd_T43 t ((j : Int) - 1)).f0.f1 (rd_T43 t j).f0.f0 (rd_T43 t j).f0.f1)
theorem spec_tab {t : List S43} (h : t.length ≤ 1048576) {k : Nat} (hk : t.length < k) : ∃ b, spec_TableOk.l0 k 0 t = some b ∧ (b = true ↔ ∀ j, j < t.length → Rat t j) := by
  have x := all_loop (F := fun k i => spec_TableOk.l0 k i t) (n := t.length) (P := Rat t) (e := true) ?_ ?_ t.length k 0 (by omega) hk (fun j hj => by omega)
  · obtain ⟨b, h1, h2⟩ := x
    exact ⟨b, h1, by simpa using h2⟩
  · intro k i hi hp
    simp only [spec_TableOk.l0]
    rw [if_pos (by omega), if_pos (by omega), spec_Pok, spec_In]
    simp only [Option.bind_some, decide_eq_true_eq]
    by_cases c1 : Pok (rd_T43 t i).f0.f0 (rd_T43 t i).f0.f1
    · rw [if_pos c1]
      by_cases c2 : 0 ≤ (rd_T43 t i).f1 ∧ (rd_T43 t i).f1 ≤ 999
      · rw [if_pos c2]
        by_cases c3 : i = 0
        · subst c3
          rw [if_neg (by omega), w64 (by omega) (by omega)]
          exact .inl ⟨⟨c1, c2, fun h => by omega⟩, rfl⟩
        · rw [if_pos (by omega), w64 (n := (i : Int) - 1) (by omega) (by omega), if_pos (by omega), if_pos (by omega)]
          obtain ⟨b, hb, hb2⟩ := spec_Ahead (rd_T43 t ((i : Int) - 1)).f0.f0 (rd_T43 t ((i : Int) - 1)).f0.f1 (rd_T43 t i).f0.f0 (rd_T43 t i).f0.f1
          rw [hb]
          simp only [Option.bind_some]
          by_cases c4 : b = true
          · rw [if_pos c4, w64 (by omega) (by omega)]
            exact .inl ⟨⟨c1, c2, fun _ => hb2.1 c4⟩, rfl⟩
          · rw [if_neg c4]
            exact .inr ⟨fun h => c4 (hb2.2 (h.2.2 (by omega))), rfl⟩
      · rw [if_neg c2]
        exact .inr ⟨fun h => c2 h.2.1, rfl⟩
    · rw [if_neg c1]
      exact .inr ⟨fun h => c1 h.1, rfl⟩
  · intro k _
    simp only [spec_TableOk.l0]
    rw [if_neg (by omega)]
theorem impl_tab {t : List S43} (h : t.length ≤ 1048576) {k : Nat} (hk : t.length < k) : ∃ b, impl_TableOk.f k t = some b ∧ (b = true ↔ (∀ j, j < t.length → Rat t j) ∧ t.length ≤ 120) := by
  unfold impl_TableOk.f
  have x := all_loop (F := fun k i => impl_TableOk.l0 k t t.length i t) (n := t.length) (P := Rat t) (e := decide (t.length ≤ 120)) ?_ ?_ t.length k 0 (by omega) hk (fun j hj => by omega)
  · obtain ⟨b, h1, h2⟩ := x
    exact ⟨b, h1, by simpa using h2⟩
  · intro k i hi hp
    simp only [impl_TableOk.l0]
    unfold impl_isRoute.f
    rw [if_pos (by omega), if_pos (by omega), if_pos (by omega), impl_Pok, impl_In]
    simp only [Option.bind_some, decide_eq_true_eq]
    by_cases c1 : Pok (rd_T43 t i).f0.f0 (rd_T43 t i).f0.f1
    · rw [if_pos c1]
      simp only [Option.bind_some, decide_eq_true_eq]
      by_cases c2 : 0 ≤ (rd_T43 t i).f1 ∧ (rd_T43 t i).f1 ≤ 999
      · rw [if_pos c2]
        by_cases c3 : i = 0
        · subst c3
          rw [if_neg (by omega), w64 (by omega) (by omega)]
          exact .inl ⟨⟨c1, c2, fun h => by omega⟩, rfl⟩
        · rw [if_pos (by omega), w64 (n := (i : Int) - 1) (by omega) (by omega), if_pos (by omega), if_pos (by omega)]
          have e1 : (((i - 1 : Nat) : Int)) = (i : Int) - 1 := by omega
          have pv := (hp (i - 1) (by omega)).1
          rw [e1] at pv
          obtain ⟨b, hb, hb2⟩ := impl_Compare pv c1
          rw [hb]
          simp only [Option.bind_some]
          by_cases c4 : b ≥ 0
          · rw [if_pos c4]
            exact .inr ⟨fun h => hb2.2 (h.2.2 (by omega)) c4, rfl⟩
          · rw [if_neg c4, w64 (by omega) (by omega)]
            exact .inl ⟨⟨c1, c2, fun _ => hb2.1 c4⟩, rfl⟩
      · rw [if_neg c2]
        exact .inr ⟨fun h => c2 h.2.1, rfl⟩
    · rw [if_neg c1]
      simp only [Option.bind_some]
      exact .inr ⟨fun h => c1 h.1, rfl⟩
  · intro k _
    simp only [impl_TableOk.l0]
    rw [if_neg (by omega)]
    congr 1
    rw [decide_eq_decide]; omega
/-- A valid table. -/
def Tok (t : List S43) : Prop := (∀ j, j < t.length → Rat t j) ∧ t.length ≤ 120
theorem spec_Tok {t : List S43} (h : t.length ≤ 1048576) {k : Nat} (hk : t.length < k) : ∃ b, spec_TableOk.f k t = some b ∧ (b = true ↔ Tok t) := by
  unfold spec_TableOk.f Tok
  by_cases hl : (t.length : Int) > 120
  · exact ⟨false, by rw [if_pos hl], by simp; omega⟩
  · obtain ⟨b, h1, h2⟩ := spec_tab h hk
    exact ⟨b, by rw [if_neg hl, h1], by rw [h2]; exact ⟨fun x => ⟨x, by omega⟩, fun x => x.1⟩⟩
theorem rd_getR {x : List S43} {j : Nat} : rd_T43 x j = x.getD j z43 := by
  unfold rd_T43
  rw [Int.toNat_natCast]
theorem rdR_set {x : List S43} {i j : Nat} (v : S43) (hi : i < x.length) : rd_T43 (x.set i v) j = if i = j then v else rd_T43 x j := by
  rw [rd_getR, rd_getR, List.getD_eq_getElem?_getD, List.getD_eq_getElem?_getD, List.getElem?_set]
  by_cases c : i = j
  · subst c; simp [hi]
  · simp [c]
theorem mark_RouteS2 (a : Int) (h0 : 0 ≤ a) (ha : a ≤ 10485760) {l : List S43} {k : Nat} (h : l.length ≤ 1048576) (hk : l.length < k) :
    ∃ M, laws_markRouteS.f k l a = some (a + 3 * l.length, M) ∧ M.length = l.length ∧ ∀ j : Nat, j < l.length → rd_T43 M j = (⟨⟨a + 3 * (j : Int), a + 3 * (j : Int) + 1⟩, a + 3 * (j : Int) + 1 + 1⟩ : S43) := by
  have key : ∀ (d k i : Nat) (x : List S43), i + d = x.length → d < k → x.length ≤ 1048576 → (∀ j : Nat, j < i → rd_T43 x j = (⟨⟨a + 3 * (j : Int), a + 3 * (j : Int) + 1⟩, a + 3 * (j : Int) + 1 + 1⟩ : S43)) →
      ∃ M, laws_markRouteS.l0 k x (a + 3 * i) i = some (a + 3 * x.length, M) ∧ M.length = x.length ∧ ∀ j : Nat, j < x.length → rd_T43 M j = (⟨⟨a + 3 * (j : Int), a + 3 * (j : Int) + 1⟩, a + 3 * (j : Int) + 1 + 1⟩ : S43) := by
    intro d
    induction d with
    | zero =>
      intro k i x hi hk hx hj
      obtain ⟨k, rfl⟩ : ∃ m, k = m + 1 := ⟨k - 1, by omega⟩
      obtain rfl : i = x.length := by omega
      simp only [laws_markRouteS.l0]
      rw [if_neg (by omega)]
      exact ⟨x, rfl, rfl, hj⟩
    | succ d ih =>
      intro k i x hi hk hx hj
      obtain ⟨k, rfl⟩ : ∃ m, k = m + 1 := ⟨k - 1, by omega⟩
      have hil : i < x.length := by omega
      have hfin : ∃ M, laws_markRouteS.l0 k (x.set i (⟨⟨a + 3 * (i : Int), a + 3 * (i : Int) + 1⟩, a + 3 * (i : Int) + 1 + 1⟩ : S43)) (a + 3 * ((i + 1 : Nat) : Int)) ((i + 1 : Nat) : Int) = some (a + 3 * x.length, M) ∧ M.length = x.length ∧ ∀ j : Nat, j < x.length → rd_T43 M j = (⟨⟨a + 3 * (j : Int), a + 3 * (j : Int) + 1⟩, a + 3 * (j : Int) + 1 + 1⟩ : S43) := by
        have z := ih k (i + 1) (x.set i (⟨⟨a + 3 * (i : Int), a + 3 * (i : Int) + 1⟩, a + 3 * (i : Int) + 1 + 1⟩ : S43)) (by rw [List.length_set]; omega) (by omega) (by rw [List.length_set]; exact hx) (fun j hj2 => by
          rw [rdR_set _ hil]
          by_cases c : i = j
          · subst c; rw [if_pos rfl]
          · rw [if_neg c]; exact hj j (by omega))
        rw [List.length_set] at z; exact z
      simp only [laws_markRouteS.l0, Option.bind_some]
      rw [if_pos (by omega), if_pos (by omega)]
      simp only [Int.toNat_natCast, List.set_set, rdR_set _ hil, if_true]
      have w1 : wrap64 (a + 3 * (i : Int) + 1) = a + 3 * (i : Int) + 1 := w64 (by omega) (by omega)
      have w2' : wrap64 (a + 3 * (i : Int) + 1 + 1) = a + 3 * (i : Int) + 1 + 1 := w64 (by omega) (by omega)
      have w3 : wrap64 (a + 3 * (i : Int) + 1 + 1 + 1) = a + 3 * ((i + 1 : Nat) : Int) := by rw [w64 (by omega) (by omega)]; omega
      have w4 : wrap64 ((i : Int) + 1) = ((i + 1 : Nat) : Int) := by rw [w64 (by omega) (by omega)]; omega
      rw [w1, w2', w3, w4]
      exact hfin
  have z := key l.length k 0 l (by omega) hk h (fun j hj => by omega)
  have e : a + 3 * ((0 : Nat) : Int) = a := by omega
  rw [e] at z
  exact z
theorem held_RouteS2 (a : Int) (h0 : 0 ≤ a) (ha : a ≤ 10485760) {M : List S43} {k : Nat} (h : M.length ≤ 1048576) (hk : M.length < k) (hM : ∀ j : Nat, j < M.length → rd_T43 M j = (⟨⟨a + 3 * (j : Int), a + 3 * (j : Int) + 1⟩, a + 3 * (j : Int) + 1 + 1⟩ : S43)) : laws_heldRouteS.f k M a = some (a + 3 * M.length) := by
  have key : ∀ (d k i : Nat), i + d = M.length → d < k → laws_heldRouteS.l0 k M (a + 3 * i) i = some (a + 3 * M.length) := by
    intro d
    induction d with
    | zero =>
      intro k i hi hk
      obtain ⟨k, rfl⟩ : ∃ m, k = m + 1 := ⟨k - 1, by omega⟩
      obtain rfl : i = M.length := by omega
      simp only [laws_heldRouteS.l0]
      rw [if_neg (by omega)]
    | succ d ih =>
      intro k i hi hk
      obtain ⟨k, rfl⟩ : ∃ m, k = m + 1 := ⟨k - 1, by omega⟩
      have z := ih k (i + 1) (by omega) (by omega)
      have w1 : wrap64 (a + 3 * (i : Int) + 1) = a + 3 * (i : Int) + 1 := w64 (by omega) (by omega)
      have w2' : wrap64 (a + 3 * (i : Int) + 1 + 1) = a + 3 * (i : Int) + 1 + 1 := w64 (by omega) (by omega)
      have w3 : wrap64 (a + 3 * (i : Int) + 1 + 1 + 1) = a + 3 * ((i + 1 : Nat) : Int) := by rw [w64 (by omega) (by omega)]; omega
      have w4 : wrap64 ((i : Int) + 1) = ((i + 1 : Nat) : Int) := by rw [w64 (by omega) (by omega)]; omega
      have c1 : (i : Int) < (M.length : Int) := by clear w1 w2' w3 w4 z; omega
      have c2 : (0 : Int) ≤ (i : Int) := by clear w1 w2' w3 w4 z; omega
      simp only [laws_heldRouteS.l0]
      rw [if_pos c1, if_pos c2, hM i (by clear w1 w2' w3 w4 z; omega), w1, if_pos rfl, if_pos rfl, w2', if_pos rfl, w3, w4]
      exact z
  have z := key M.length k 0 (by omega) hk
  have e : a + 3 * ((0 : Nat) : Int) = a := by omega
  rw [e] at z
  exact z
theorem mark_Table2 (a : Int) (h0 : 0 ≤ a) (ha : a ≤ 10485760) {l : List S43} {k : Nat} (h : l.length ≤ 1048576) (hk : l.length < k) :
    ∃ M, laws_markTable.f k l a = some (a + 3 * l.length, M) ∧ ∀ k' : Nat, l.length < k' → laws_heldTable.f k' M a = some (a + 3 * l.length) := by
  obtain ⟨M, h1, h2, h3⟩ := mark_RouteS2 a h0 ha h hk
  refine ⟨M, ?_, fun k' hk' => ?_⟩
  · unfold laws_markTable.f
    rw [h1]; rfl
  · unfold laws_heldTable.f
    rw [held_RouteS2 a h0 ha (M := M) (k := k') (by omega) (by omega) (by rw [h2]; exact h3), h2]
    simp only [Option.bind_some]
    rw [if_neg (by omega)]
/-- Whether a route has the prefix (a, b). -/
def isR (a b : Int) (r : S43) : Bool := decide (r.f0.f0 = a ∧ r.f0.f1 = b)
theorem rd_natR {x : List S43} {i : Nat} (h : i < x.length) : rd_T43 x (i : Int) = x[i] := by
  simp [rd_T43, List.getD_eq_getElem?_getD, List.getElem?_eq_getElem h]
theorem tok_asc {t : List S43} (h : ∀ j, j < t.length → Rat t j) : ∀ (j i : Nat), i < j → j < t.length → Ahead (rd_T43 t (i : Int)).f0.f0 (rd_T43 t (i : Int)).f0.f1 (rd_T43 t (j : Int)).f0.f0 (rd_T43 t (j : Int)).f0.f1 := by
  intro j
  induction j with
  | zero => intro i hi; omega
  | succ j ih =>
    intro i hi hj
    have x := (h (j + 1) hj).2.2 (by omega)
    have e : ((j + 1 : Nat) : Int) - 1 = (j : Int) := by omega
    rw [e] at x
    by_cases c : i = j
    · subst c; exact x
    · have y := ih i (by omega) (by omega)
      unfold Ahead at x y ⊢
      omega
/-- A route of a prefix stands at one place: without it the list is short of that place. -/
theorem drop_one {t : List S43} (h : ∀ j, j < t.length → Rat t j) {a b : Int} {j : Nat} (hj : j < t.length) (hp : isR a b (rd_T43 t (j : Int)) = true) : t.filter (fun r => !isR a b r) = t.eraseIdx j := by
  have hp' := of_decide_eq_true hp
  have others : ∀ q, q < t.length → q ≠ j → isR a b (rd_T43 t (q : Int)) = false := fun q hq hne => by
    refine decide_eq_false (fun e => ?_)
    rcases Nat.lt_or_gt_of_ne hne with c | c
    · have := tok_asc h j q c hj
      unfold Ahead at this
      omega
    · have := tok_asc h q j c hq
      unfold Ahead at this
      omega
  have gd : ∀ q, q < t.length → t.getD q z43 = rd_T43 t (q : Int) := fun q hq => by
    rw [rd_natR hq, List.getD_eq_getElem?_getD, List.getElem?_eq_getElem hq]
    rfl
  have e := filter_at (p := isR a b) z43 t hj (by rw [gd j hj]; exact hp) (fun q hq => by rw [gd q (by omega)]; exact others q (by omega) (by omega))
  have e2 : (t.drop (j + 1)).filter (fun y => !isR a b y) = t.drop (j + 1) := by
    rw [List.filter_eq_self]
    intro y hy
    obtain ⟨q, hq, rfl⟩ := List.mem_iff_getElem.1 hy
    rw [List.length_drop] at hq
    have z := others (j + 1 + q) (by omega) (by omega)
    rw [rd_natR (by omega)] at z
    rw [List.getElem_drop, z]
    rfl
  rw [e2] at e
  rw [← e, List.eraseIdx_eq_take_drop_succ]
theorem drop_none {t : List S43} {a b : Int} (h : ∀ q : Nat, q < t.length → isR a b (rd_T43 t (q : Int)) = false) : t.filter (fun r => !isR a b r) = t := by
  refine filter_none (p := isR a b) z43 t (fun q hq => ?_)
  have z := h q hq
  rw [rd_natR hq] at z
  rw [List.getD_eq_getElem?_getD, List.getElem?_eq_getElem hq]
  exact z
theorem wr1 {i : Nat} (h : i ≤ 1048576) : wrap64 ((i : Int) + 1) = ((i + 1 : Nat) : Int) := by rw [w64 (by omega) (by omega)]; omega
theorem spec_less {t : List S43} (h : t.length ≤ 1048576) (a b : Int) {k : Nat} (hk : t.length < k) : spec_l02Less.f k t a b = some (t.filter (fun r => !isR a b r)) := by
  have key : ∀ (d i k : Nat) (acc : List S43), i + d = t.length → d < k → acc.length ≤ i → spec_l02Less.l0 k i t a b acc = some (acc ++ (t.drop i).filter (fun r => !isR a b r)) := by
    intro d
    induction d with
    | zero =>
      intro i k acc hi hk ha
      obtain ⟨k, rfl⟩ : ∃ m, k = m + 1 := ⟨k - 1, by omega⟩
      simp only [spec_l02Less.l0]
      rw [if_neg (by omega), List.drop_eq_nil_of_le (by omega)]
      simp
    | succ d ih =>
      intro i k acc hi hk ha
      obtain ⟨k, rfl⟩ : ∃ m, k = m + 1 := ⟨k - 1, by omega⟩
      have hil : i < t.length := by omega
      have er : rd_T43 t (i : Int) = t[i] := rd_natR hil
      have ed : t.drop i = t[i] :: t.drop (i + 1) := List.drop_eq_getElem_cons hil
      simp only [spec_l02Less.l0]
      rw [if_pos (by omega), if_pos (by omega), wr1 (by omega), er, ed, List.filter_cons]
      by_cases c : isR a b t[i] = true
      · have c' := of_decide_eq_true c
        have e : (!(t[i].f0.f0 == a) || !(t[i].f0.f1 == b)) = false := by rw [c'.1, c'.2]; simp
        rw [e, if_neg (by decide), c, ih (i + 1) k acc (by omega) (by omega) (by omega)]
        rfl
      · have c' : isR a b t[i] = false := by simpa using c
        have c2 := of_decide_eq_false c'
        have e : (!(t[i].f0.f0 == a) || !(t[i].f0.f1 == b)) = true := by
          by_cases c3 : t[i].f0.f0 = a
          · have c4 : ¬ t[i].f0.f1 = b := fun c4 => c2 ⟨c3, c4⟩
            simp [c4]
          · simp [c3]
        rw [e, if_pos rfl, if_pos (by omega), c', ih (i + 1) k (acc ++ [t[i]]) (by omega) (by omega) (by rw [List.length_append, List.length_singleton]; omega), List.append_assoc]
        rfl
  have z := key t.length 0 k [] (by omega) (by omega) (Nat.le_refl _)
  unfold spec_l02Less.f
  rw [List.drop_zero, List.nil_append] at z
  exact z
theorem spec_copy {t : List S43} (h : t.length ≤ 1048576) {k : Nat} (hk : t.length < k) : spec_l02Copy.f k t = some t := by
  have key : ∀ (d i k : Nat) (acc : List S43), i + d = t.length → d < k → acc.length ≤ i → spec_l02Copy.l0 k i t acc = some (acc ++ t.drop i) := by
    intro d
    induction d with
    | zero =>
      intro i k acc hi hk ha
      obtain ⟨k, rfl⟩ : ∃ m, k = m + 1 := ⟨k - 1, by omega⟩
      simp only [spec_l02Copy.l0]
      rw [if_neg (by omega), List.drop_eq_nil_of_le (by omega), List.append_nil]
    | succ d ih =>
      intro i k acc hi hk ha
      obtain ⟨k, rfl⟩ : ∃ m, k = m + 1 := ⟨k - 1, by omega⟩
      have hil : i < t.length := by omega
      have er : rd_T43 t (i : Int) = t[i] := rd_natR hil
      have ed : t.drop i = t[i] :: t.drop (i + 1) := List.drop_eq_getElem_cons hil
      simp only [spec_l02Copy.l0]
      rw [if_pos (by omega), if_pos (by omega), if_pos (by omega), wr1 (by omega), er, ed, ih (i + 1) k (acc ++ [t[i]]) (by omega) (by omega) (by rw [List.length_append, List.length_singleton]; omega), List.append_assoc]
      rfl
  have z := key t.length 0 k [] (by omega) (by omega) (Nat.le_refl _)
  unfold spec_l02Copy.f
  rw [List.drop_zero, List.nil_append] at z
  exact z
theorem u64n {n : Int} (h0 : 0 ≤ n) (h1 : n < 18446744073709551616) : IntKind.u64.wrap n = n := by
  have e : IntKind.u64.wrap n = n % 18446744073709551616 := rfl
  rw [e]; omega
theorem mid_ {i j : Nat} (h : i + j ≤ 4000) : wrap64 ((IntKind.u64.wrap (wrap64 ((i : Int) + (j : Int)))) / 2) = (((i + j) / 2 : Nat) : Int) := by
  rw [w64 (n := (i : Int) + j) (by omega) (by omega), u64n (by omega) (by omega), w64 (by omega) (by omega)]
  omega
theorem cmp_val {x y z a b : Int} (h1 : Pok x y) (h2 : Pok a b) : ∃ v, impl_findRoute_1.f x y z a b = some v ∧ (v < 0 ↔ Ahead x y a b) ∧ ((v == 0) = decide (x = a ∧ y = b)) := by
  obtain ⟨a0, a1, a2, a3, _⟩ := h1
  obtain ⟨b0, b1, b2, b3, _⟩ := h2
  unfold impl_findRoute_1.f impl_comparePrefixes.f Ahead
  by_cases h : x = a
  · rw [if_pos h, w64 (by omega) (by omega)]
    refine ⟨_, rfl, by omega, ?_⟩
    rw [Bool.eq_iff_iff, beq_iff_eq, decide_eq_true_iff]
    omega
  · rw [if_neg h, w64 (by omega) (by omega)]
    refine ⟨_, rfl, by omega, ?_⟩
    rw [Bool.eq_iff_iff, beq_iff_eq, decide_eq_true_iff]
    omega
/-- The search ends at the place c, ahead of which all routes are ahead, behind which none is. -/
theorem bs_at {t : List S43} (h4 : t.length ≤ 1000) (ht : ∀ j, j < t.length → Rat t j) {a b : Int} (hp : Pok a b) {c : Nat} (hc : c ≤ t.length) (h1 : ∀ q : Nat, q < c → Ahead (rd_T43 t (q : Int)).f0.f0 (rd_T43 t (q : Int)).f0.f1 a b) (h2 : ∀ q : Nat, c ≤ q → q < t.length → ¬ Ahead (rd_T43 t (q : Int)).f0.f0 (rd_T43 t (q : Int)).f0.f1 a b) : ∀ (d lo hi k : Nat), hi ≤ lo + d → lo ≤ c → c ≤ hi → hi ≤ t.length → d < k → slices_BinarySearchFunc_impl_Route_impl_Route_impl_Prefix.l0 k t t.length lo hi a b = some ((c : Int), decide (c < t.length ∧ isR a b (rd_T43 t (c : Int)) = true)) := by
  intro d
  induction d with
  | zero =>
    intro lo hi k g1 g2 g3 g5 hk
    obtain ⟨k, rfl⟩ : ∃ m, k = m + 1 := ⟨k - 1, by omega⟩
    obtain rfl : lo = c := by omega
    simp only [slices_BinarySearchFunc_impl_Route_impl_Route_impl_Prefix.l0]
    rw [if_neg (by omega)]
    by_cases cl : lo < t.length
    · obtain ⟨v, hv, _, hv2⟩ := cmp_val (z := (rd_T43 t (lo : Int)).f1) (ht lo cl).1 hp
      rw [if_pos (by omega), if_pos (by omega), if_pos (by omega), hv]
      simp only [Option.bind_some]
      rw [hv2]
      have e : decide (lo < t.length ∧ isR a b (rd_T43 t (lo : Int)) = true) = decide ((rd_T43 t (lo : Int)).f0.f0 = a ∧ (rd_T43 t (lo : Int)).f0.f1 = b) := by
        rw [decide_eq_decide]
        unfold isR
        rw [decide_eq_true_iff]
        exact ⟨fun x => x.2, fun x => ⟨cl, x⟩⟩
      rw [e]
    · rw [if_neg (by omega)]
      have e : decide (lo < t.length ∧ isR a b (rd_T43 t (lo : Int)) = true) = false := decide_eq_false (fun x => cl x.1)
      rw [e]
  | succ d ih =>
    intro lo hi k g1 g2 g3 g5 hk
    by_cases c0 : lo < hi
    · obtain ⟨k, rfl⟩ : ∃ m, k = m + 1 := ⟨k - 1, by omega⟩
      have hm : (lo + hi) / 2 < t.length := by omega
      obtain ⟨v, hv, hv2, _⟩ := cmp_val (z := (rd_T43 t (((lo + hi) / 2 : Nat) : Int)).f1) (ht _ hm).1 hp
      simp only [slices_BinarySearchFunc_impl_Route_impl_Route_impl_Prefix.l0]
      rw [if_pos (by omega), mid_ (by omega), if_pos (by omega), if_pos (by omega), hv]
      simp only [Option.bind_some]
      by_cases cj : (lo + hi) / 2 < c
      · rw [if_pos (hv2.2 (h1 _ cj)), wr1 (by omega)]
        exact ih ((lo + hi) / 2 + 1) hi k (by omega) (by omega) g3 g5 (by omega)
      · rw [if_neg (fun z => h2 _ (by omega) hm (hv2.1 z))]
        exact ih lo ((lo + hi) / 2) k (by omega) g2 (by omega) (by omega) (by omega)
    · exact ih lo hi k (by omega) g2 g3 g5 (by omega)
theorem place {t : List S43} (ht : ∀ j, j < t.length → Rat t j) (a b : Int) : ∃ c : Nat, c ≤ t.length ∧ (∀ q : Nat, q < c → Ahead (rd_T43 t (q : Int)).f0.f0 (rd_T43 t (q : Int)).f0.f1 a b) ∧ (∀ q : Nat, c ≤ q → q < t.length → ¬ Ahead (rd_T43 t (q : Int)).f0.f0 (rd_T43 t (q : Int)).f0.f1 a b) := by
  have key : ∀ n : Nat, n ≤ t.length → ∃ c : Nat, c ≤ n ∧ (∀ q : Nat, q < c → Ahead (rd_T43 t (q : Int)).f0.f0 (rd_T43 t (q : Int)).f0.f1 a b) ∧ (∀ q : Nat, c ≤ q → q < n → ¬ Ahead (rd_T43 t (q : Int)).f0.f0 (rd_T43 t (q : Int)).f0.f1 a b) := by
    intro n
    induction n with
    | zero => exact fun _ => ⟨0, Nat.le_refl _, fun q h => by omega, fun q _ h => by omega⟩
    | succ n ih =>
      intro hn
      obtain ⟨c, h0, h1, h2⟩ := ih (by omega)
      by_cases g : Ahead (rd_T43 t (n : Int)).f0.f0 (rd_T43 t (n : Int)).f0.f1 a b
      · refine ⟨n + 1, Nat.le_refl _, fun q hq => ?_, fun q _ h => by omega⟩
        by_cases e : q = n
        · rw [e]; exact g
        · have x := tok_asc ht n q (by omega) (by omega)
          unfold Ahead at x g ⊢
          omega
      · refine ⟨c, by omega, h1, fun q hq hqn => ?_⟩
        by_cases e : q = n
        · rw [e]; exact g
        · exact h2 q hq (by omega)
  exact key t.length (Nat.le_refl _)
/-- r put ahead of the first route that it is ahead of. -/
def insP (r : S43) : List S43 → List S43
  | [] => [r]
  | x :: l => if (spec_l02Ahead.f r.f0.f0 r.f0.f1 x.f0.f0 x.f0.f1 == some true) = true then r :: x :: l else x :: insP r l
theorem insP_len (r : S43) : ∀ l, (insP r l).length = l.length + 1
  | [] => rfl
  | x :: l => by
    unfold insP
    split
    · simp
    · rw [List.length_cons, insP_len r l, List.length_cons]
theorem insP_mem (r : S43) : ∀ l, r ∈ insP r l
  | [] => by simp [insP]
  | x :: l => by
    unfold insP
    split
    · simp
    · exact List.mem_cons_of_mem _ (insP_mem r l)
theorem ahs {n l m k : Int} : (spec_l02Ahead.f n l m k == some true) = true ↔ Ahead n l m k := by
  obtain ⟨b, h1, h2⟩ := spec_Ahead n l m k
  rw [h1, ← h2]
  simp
theorem insP_at (r : S43) : ∀ (A B : List S43), (∀ x ∈ A, ¬ Ahead r.f0.f0 r.f0.f1 x.f0.f0 x.f0.f1) → (∀ x ∈ B, Ahead r.f0.f0 r.f0.f1 x.f0.f0 x.f0.f1) → insP r (A ++ B) = A ++ r :: B
  | [], [], _, _ => rfl
  | [], y :: B, _, hB => by
    rw [List.nil_append, insP, if_pos (ahs.2 (hB y (by simp)))]
    rfl
  | x :: A, B, hA, hB => by
    rw [List.cons_append, insP, if_neg (fun h => hA x (by simp) (ahs.1 h)), insP_at r A B (fun z hz => hA z (by simp [hz])) hB]
    rfl
theorem sput_loop {t o : List S43} (r : S43) (ho : o.length ≤ 1048576) {R : List S43 × Bool} {M : Nat} (hM : 1 ≤ M) (hR : ∀ k, M ≤ k → spec_PutRoute.j1 k t (insP r o) = some R) :
    ∀ (d i k : Nat) (A B acc : List S43), o = A ++ B → i = A.length → B.length = d → d + M < k → acc.length ≤ i + 1 →
      (acc = A → insP r o = A ++ insP r B → spec_PutRoute.l0 k false i t r.f0.f0 r.f0.f1 r.f1 o acc = some R) ∧ (insP r o = acc ++ B → spec_PutRoute.l0 k true i t r.f0.f0 r.f0.f1 r.f1 o acc = some R) := by
  intro d
  induction d with
  | zero =>
    intro i k A B acc hAB hi hd hk hacc
    obtain ⟨k, rfl⟩ : ∃ m, k = m + 1 := ⟨k - 1, by omega⟩
    obtain rfl : B = [] := List.eq_nil_of_length_eq_zero hd
    have hil : i = o.length := by rw [hAB, List.append_nil]; exact hi
    refine ⟨fun e1 e2 => ?_, fun e1 => ?_⟩
    · simp only [spec_PutRoute.l0]
      rw [if_neg (by omega), if_neg (by decide), if_pos (by omega)]
      have z := hR k (by omega)
      rw [e2] at z
      rw [e1]
      exact z
    · simp only [spec_PutRoute.l0]
      rw [if_neg (by omega), if_pos trivial]
      have z := hR k (by omega)
      rw [e1, List.append_nil] at z
      exact z
  | succ d ih =>
    intro i k A B acc hAB hi hd hk hacc
    obtain ⟨k, rfl⟩ : ∃ m, k = m + 1 := ⟨k - 1, by omega⟩
    obtain ⟨y, B, rfl⟩ : ∃ y B', B = y :: B' := by
      cases B with
      | nil => simp at hd
      | cons y B => exact ⟨y, B, rfl⟩
    have hol : o.length = A.length + (B.length + 1) := by rw [hAB, List.length_append, List.length_cons]
    have hdB : B.length = d := by rw [List.length_cons] at hd; omega
    have hil : i < o.length := by omega
    have er : rd_T43 o (i : Int) = y := by
      rw [rd_natR hil]
      simp [hAB, hi]
    have hA' : o = (A ++ [y]) ++ B := by rw [hAB, List.append_assoc]; rfl
    have hl' : i + 1 = (A ++ [y]).length := by rw [List.length_append, List.length_singleton, hi]
    refine ⟨fun e1 e2 => ?_, fun e1 => ?_⟩
    · subst e1
      simp only [spec_PutRoute.l0]
      rw [if_pos (by omega), if_neg (by decide), if_pos (by omega), er]
      obtain ⟨b, hb, hb2⟩ := spec_Ahead r.f0.f0 r.f0.f1 y.f0.f0 y.f0.f1
      rw [hb]
      simp only [Option.bind_some]
      by_cases cb : b = true
      · have z := (ih (i + 1) k (acc ++ [y]) B ((acc ++ [r]) ++ [y]) hA' hl' hdB (by omega) (by simp only [List.length_append, List.length_singleton]; omega)).2 (by
          rw [e2, insP, if_pos (by rw [hb, cb]; rfl)]
          simp [List.append_assoc])
        rw [if_pos cb, if_pos (by omega), if_pos (by rw [List.length_append, List.length_singleton]; omega), wr1 (by omega)]
        exact z
      · have z := (ih (i + 1) k (acc ++ [y]) B (acc ++ [y]) hA' hl' hdB (by omega) (by simp only [List.length_append, List.length_singleton]; omega)).1 rfl (by
          rw [e2, insP, if_neg (fun h => cb (hb2.2 (ahs.1 h))), List.append_assoc]
          rfl)
        rw [if_neg cb, if_pos (by omega), wr1 (by omega)]
        exact z
    · simp only [spec_PutRoute.l0]
      have z := (ih (i + 1) k (A ++ [y]) B (acc ++ [y]) hA' hl' hdB (by omega) (by simp only [List.length_append, List.length_singleton]; omega)).2 (by rw [e1, List.append_assoc]; rfl)
      rw [if_pos (by omega), if_pos trivial, if_pos (by omega), if_pos (by omega), er, wr1 (by omega)]
      exact z
theorem sput {t : List S43} (r : S43) (o : List S43) (ho : o.length ≤ 1048576) {R : List S43 × Bool} {M : Nat} (hM : 1 ≤ M) (hR : ∀ k, M ≤ k → spec_PutRoute.j1 k t (insP r o) = some R) {k : Nat} (hk : o.length + M < k) : spec_PutRoute.l0 k false 0 t r.f0.f0 r.f0.f1 r.f1 o [] = some R := by
  have z := (sput_loop r ho hM hR o.length 0 k [] o [] rfl rfl rfl hk (by simp)).1 rfl rfl
  exact z
theorem Tok_mem {l : List S43} (h : Tok l) {r : S43} (hr : r ∈ l) : Pok r.f0.f0 r.f0.f1 ∧ 0 ≤ r.f1 ∧ r.f1 ≤ 999 := by
  obtain ⟨j, hj, rfl⟩ := List.mem_iff_getElem.1 hr
  have z := h.1 j hj
  rw [← rd_natR hj]
  exact ⟨z.1, z.2.1⟩
theorem Tok_set {t : List S43} (h : Tok t) {j : Nat} (hj : j < t.length) {r : S43} (hp : (rd_T43 t (j : Int)).f0.f0 = r.f0.f0 ∧ (rd_T43 t (j : Int)).f0.f1 = r.f0.f1) (hr : 0 ≤ r.f1 ∧ r.f1 ≤ 999) : Tok (t.set j r) := by
  have e0 : ∀ q : Nat, (rd_T43 (t.set j r) (q : Int)).f0.f0 = (rd_T43 t (q : Int)).f0.f0 ∧ (rd_T43 (t.set j r) (q : Int)).f0.f1 = (rd_T43 t (q : Int)).f0.f1 := fun q => by
    rw [rdR_set r hj]
    split
    · rename_i c
      subst c
      exact ⟨hp.1.symm, hp.2.symm⟩
    · exact ⟨rfl, rfl⟩
  refine ⟨fun q hq => ?_, by rw [List.length_set]; exact h.2⟩
  rw [List.length_set] at hq
  have z := h.1 q hq
  refine ⟨by rw [(e0 q).1, (e0 q).2]; exact z.1, ?_, fun h0 => ?_⟩
  · rw [rdR_set r hj]
    split
    · exact hr
    · exact z.2.1
  · have e1 : ((q : Int) - 1) = ((q - 1 : Nat) : Int) := by omega
    have z2 := z.2.2 h0
    rw [e1] at z2 ⊢
    rw [(e0 q).1, (e0 q).2, (e0 (q - 1)).1, (e0 (q - 1)).2]
    exact z2
theorem rd_ins {t : List S43} {c : Nat} (hc : c ≤ t.length) (r : S43) (q : Nat) (hq : q < t.length + 1) : rd_T43 (t.take c ++ r :: t.drop c) (q : Int) = if q < c then rd_T43 t (q : Int) else if q = c then r else rd_T43 t ((q - 1 : Nat) : Int) := by
  have hl : (t.take c).length = c := by rw [List.length_take]; omega
  rw [rd_getR, rd_getR, rd_getR, List.getD_eq_getElem?_getD, List.getD_eq_getElem?_getD, List.getD_eq_getElem?_getD, List.getElem?_append, hl]
  by_cases h1 : q < c
  · rw [if_pos h1, if_pos h1, List.getElem?_take, if_pos h1]
  · rw [if_neg h1, if_neg h1]
    by_cases h2 : q = c
    · rw [if_pos h2, h2, Nat.sub_self]; rfl
    · rw [if_neg h2]
      obtain ⟨m, hm⟩ : ∃ m, q - c = m + 1 := ⟨q - c - 1, by omega⟩
      rw [hm, List.getElem?_cons_succ, List.getElem?_drop]
      congr 2
      omega
theorem Tok_ins {t : List S43} (h : Tok t) (hl : t.length < 120) {c : Nat} (hc : c ≤ t.length) {r : S43} (hp : Pok r.f0.f0 r.f0.f1) (hr : 0 ≤ r.f1 ∧ r.f1 ≤ 999)
    (h1 : ∀ q : Nat, q < c → Ahead (rd_T43 t (q : Int)).f0.f0 (rd_T43 t (q : Int)).f0.f1 r.f0.f0 r.f0.f1) (h2 : ∀ q : Nat, c ≤ q → q < t.length → Ahead r.f0.f0 r.f0.f1 (rd_T43 t (q : Int)).f0.f0 (rd_T43 t (q : Int)).f0.f1) : Tok (t.take c ++ r :: t.drop c) := by
  have hlen : (t.take c ++ r :: t.drop c).length = t.length + 1 := by
    rw [List.length_append, List.length_cons, List.length_take, List.length_drop]; omega
  refine ⟨fun q hq => ?_, by omega⟩
  rw [hlen] at hq
  have e0 := rd_ins hc r q hq
  unfold Rat
  rw [e0]
  by_cases c1 : q < c
  · rw [if_pos c1]
    have z := h.1 q (by omega)
    refine ⟨z.1, z.2.1, fun h0 => ?_⟩
    have e1 : ((q : Int) - 1) = ((q - 1 : Nat) : Int) := by omega
    have z2 := z.2.2 h0
    rw [e1] at z2 ⊢
    rw [rd_ins hc r (q - 1) (by omega), if_pos (by omega)]
    exact z2
  · rw [if_neg c1]
    by_cases c2 : q = c
    · rw [if_pos c2]
      refine ⟨hp, hr, fun h0 => ?_⟩
      have e1 : ((q : Int) - 1) = ((q - 1 : Nat) : Int) := by omega
      rw [e1, rd_ins hc r (q - 1) (by omega), if_pos (by omega)]
      exact h1 (q - 1) (by omega)
    · rw [if_neg c2]
      have z := h.1 (q - 1) (by omega)
      refine ⟨z.1, z.2.1, fun h0 => ?_⟩
      have e1 : ((q : Int) - 1) = ((q - 1 : Nat) : Int) := by omega
      rw [e1, rd_ins hc r (q - 1) (by omega), if_neg (by omega)]
      by_cases c3 : q - 1 = c
      · rw [if_pos c3]
        exact h2 (q - 1) (by omega) (by omega)
      · rw [if_neg c3]
        have z2 := z.2.2 (by omega)
        have e2 : (((q - 1 : Nat) : Int) - 1) = ((q - 1 - 1 : Nat) : Int) := by omega
        rw [e2] at z2
        exact z2
theorem isRoute_ (a b c : Int) : impl_isRoute.f a b c = some (decide (Pok a b ∧ 0 ≤ c ∧ c ≤ 999)) := by
  unfold impl_isRoute.f
  rw [impl_Pok, impl_In]
  simp only [Option.bind_some, decide_eq_true_eq]
  by_cases h : Pok a b
  · rw [if_pos h]
    congr 1
    rw [decide_eq_decide]
    exact ⟨fun x => ⟨h, x⟩, fun x => x.2⟩
  · rw [if_neg h]
    congr 1
    exact (decide_eq_false (fun x => h x.1)).symm
set_option maxRecDepth 8000 in
theorem both_Put {t : List S43} (h : t.length ≤ 1048576) (a b c : Int) : ∃ (r : List S43) (ok : Bool), r.length ≤ 1048576 ∧ ∀ k, 2 * t.length + 3000 < k → spec_PutRoute.f k t a b c = some (r, ok) ∧ impl_PutRoute.f k t a b c = some (r, ok) := by
  have own : impl_ownTable.f t = some t := by
    unfold impl_ownTable.f slices_Clone_impl_Route_impl_Route.f
    rw [if_pos h]
    rfl
  obtain ⟨R, hRd⟩ : ∃ R : S43, R = ⟨⟨a, b⟩, c⟩ := ⟨_, rfl⟩
  by_cases g : Tok t
  · have g2 := g.2
    by_cases v : Pok a b ∧ 0 ≤ c ∧ c ≤ 999
    · obtain ⟨p, p0, p1, p2⟩ := place g.1 a b
      by_cases hit : p < t.length ∧ isR a b (rd_T43 t (p : Int)) = true
      · have hp' := of_decide_eq_true hit.2
        have e := drop_one g.1 hit.1 hit.2
        have hT : Tok (t.set p R) := Tok_set g hit.1 (by rw [hRd]; exact hp') (by rw [hRd]; exact v.2)
        have hI : insP R (t.eraseIdx p) = t.set p R := by
          rw [List.eraseIdx_eq_take_drop_succ, insP_at R, List.set_eq_take_append_cons_drop, if_pos hit.1]
          · intro x hx
            obtain ⟨q, hq, rfl⟩ := List.mem_iff_getElem.1 hx
            rw [List.length_take] at hq
            rw [List.getElem_take, ← rd_natR (by omega)]
            have z := p1 q (by omega)
            rw [hRd]
            unfold Ahead at z ⊢
            dsimp only
            omega
          · intro x hx
            obtain ⟨q, hq, rfl⟩ := List.mem_iff_getElem.1 hx
            rw [List.length_drop] at hq
            rw [List.getElem_drop, ← rd_natR (by omega)]
            have z := tok_asc g.1 (p + 1 + q) p (by omega) (by omega)
            rw [hp'.1, hp'.2] at z
            rw [hRd]
            exact z
        have el : (t.eraseIdx p).length = t.length - 1 := List.length_eraseIdx_of_lt hit.1
        refine ⟨t.set p R, true, by rw [List.length_set]; omega, fun k hk => ⟨?_, ?_⟩⟩
        · obtain ⟨b1, s1, s2⟩ := spec_Tok h (k := k) (by omega)
          have hj : ∀ k', t.length + 1000 ≤ k' → spec_PutRoute.j1 k' t (insP R (t.eraseIdx p)) = some (t.set p R, true) := fun k' hk' => by
            obtain ⟨k', rfl⟩ : ∃ m, k' = m + 1 := ⟨k' - 1, by omega⟩
            obtain ⟨b2, u1, u2⟩ := spec_Tok (t := t.set p R) (by rw [List.length_set]; omega) (k := k') (by rw [List.length_set]; omega)
            simp only [spec_PutRoute.j1]
            rw [hI, u1]
            simp only [Option.bind_some]
            rw [if_pos (u2.2 hT)]
          have z := sput (t := t) R (t.eraseIdx p) (by omega) (M := t.length + 1000) (by omega) hj (k := k) (by omega)
          unfold spec_PutRoute.f
          rw [s1]
          simp only [Option.bind_some]
          rw [if_pos (s2.2 g), spec_less h a b (by omega), e]
          simp only [Option.bind_some]
          rw [hRd] at z ⊢
          exact z
        · obtain ⟨k, rfl⟩ : ∃ m, k = m + 1 := ⟨k - 1, by omega⟩
          obtain ⟨b2, i1, i2⟩ := impl_tab h (k := k + 1) (by omega)
          have z := bs_at (by omega) g.1 v.1 p0 p1 p2 t.length 0 t.length k (by omega) (by omega) (by omega) (Nat.le_refl _) (by omega)
          have e0 : ((0 : Nat) : Int) = 0 := rfl
          rw [e0, decide_eq_true hit] at z
          unfold impl_PutRoute.f
          rw [i1, isRoute_]
          simp only [Option.bind_some]
          rw [if_pos (i2.2 g), decide_eq_true v]
          simp only [impl_PutRoute.j0]
          rw [if_neg (by decide), own]
          simp only [Option.bind_some]
          unfold impl_findRoute.f slices_BinarySearchFunc_impl_Route_impl_Route_impl_Prefix.f
          rw [z]
          simp only [Option.bind_some]
          rw [if_pos trivial, if_pos (by omega), if_pos (by omega), hRd]
          rfl
      · have hm : ∀ q : Nat, q < t.length → isR a b (rd_T43 t (q : Int)) = false := fun q hq => by
          refine decide_eq_false (fun e => ?_)
          rcases Nat.lt_trichotomy q p with hh | hh | hh
          · have z := p1 q hh
            unfold Ahead at z
            omega
          · subst hh
            exact hit ⟨hq, decide_eq_true e⟩
          · have z := tok_asc g.1 q p hh hq
            have z2 := p2 p (Nat.le_refl _) (by omega)
            rw [e.1, e.2] at z
            exact z2 z
        have hI : insP R t = t.take p ++ R :: t.drop p := by
          have w := insP_at R (t.take p) (t.drop p) ?_ ?_
          · rw [List.take_append_drop] at w
            exact w
          · intro x hx
            obtain ⟨q, hq, rfl⟩ := List.mem_iff_getElem.1 hx
            rw [List.length_take] at hq
            rw [List.getElem_take, ← rd_natR (by omega)]
            have z := p1 q (by omega)
            rw [hRd]
            unfold Ahead at z ⊢
            dsimp only
            omega
          · intro x hx
            obtain ⟨q, hq, rfl⟩ := List.mem_iff_getElem.1 hx
            rw [List.length_drop] at hq
            rw [List.getElem_drop, ← rd_natR (by omega)]
            have z := p2 (p + q) (by omega) (by omega)
            have z2 := of_decide_eq_false (hm (p + q) (by omega))
            rw [hRd]
            unfold Ahead at z ⊢
            dsimp only
            omega
        by_cases full : t.length = 120
        · refine ⟨t, false, by omega, fun k hk => ⟨?_, ?_⟩⟩
          · obtain ⟨b1, s1, s2⟩ := spec_Tok h (k := k) (by omega)
            have hj : ∀ k', t.length + 1000 ≤ k' → spec_PutRoute.j1 k' t (insP R t) = some (t, false) := fun k' hk' => by
              obtain ⟨k', rfl⟩ : ∃ m, k' = m + 1 := ⟨k' - 1, by omega⟩
              obtain ⟨b2, u1, u2⟩ := spec_Tok (t := insP R t) (by rw [insP_len]; omega) (k := k') (by rw [insP_len]; omega)
              simp only [spec_PutRoute.j1]
              rw [u1]
              simp only [Option.bind_some]
              rw [if_neg (fun x => by have := (u2.1 x).2; rw [insP_len] at this; omega), spec_copy h (by omega)]
              rfl
            have z := sput (t := t) R t (by omega) (M := t.length + 1000) (by omega) hj (k := k) (by omega)
            unfold spec_PutRoute.f
            rw [s1]
            simp only [Option.bind_some]
            rw [if_pos (s2.2 g), spec_less h a b (by omega), drop_none hm]
            simp only [Option.bind_some]
            rw [hRd] at z
            exact z
          · obtain ⟨k, rfl⟩ : ∃ m, k = m + 1 := ⟨k - 1, by omega⟩
            obtain ⟨b2, i1, i2⟩ := impl_tab h (k := k + 1) (by omega)
            have z := bs_at (by omega) g.1 v.1 p0 p1 p2 t.length 0 t.length k (by omega) (by omega) (by omega) (Nat.le_refl _) (by omega)
            have e0 : ((0 : Nat) : Int) = 0 := rfl
            rw [e0, decide_eq_false hit] at z
            unfold impl_PutRoute.f
            rw [i1, isRoute_]
            simp only [Option.bind_some]
            rw [if_pos (i2.2 g), decide_eq_true v]
            simp only [impl_PutRoute.j0]
            rw [if_neg (by decide), own]
            simp only [Option.bind_some]
            unfold impl_findRoute.f slices_BinarySearchFunc_impl_Route_impl_Route_impl_Prefix.f
            rw [z]
            simp only [Option.bind_some]
            rw [if_neg (by decide), if_pos (by omega)]
        · have hT : Tok (t.take p ++ R :: t.drop p) := Tok_ins g (by omega) p0 (by rw [hRd]; exact v.1) (by rw [hRd]; exact v.2) (by rw [hRd]; exact p1) (fun q hq hql => by
            have z := p2 q hq hql
            have z2 := of_decide_eq_false (hm q hql)
            rw [hRd]
            unfold Ahead at z ⊢
            dsimp only
            omega)
          have hlen : (t.take p ++ R :: t.drop p).length = t.length + 1 := by
            rw [List.length_append, List.length_cons, List.length_take, List.length_drop]; omega
          refine ⟨t.take p ++ R :: t.drop p, true, by omega, fun k hk => ⟨?_, ?_⟩⟩
          · obtain ⟨b1, s1, s2⟩ := spec_Tok h (k := k) (by omega)
            have hj : ∀ k', t.length + 1000 ≤ k' → spec_PutRoute.j1 k' t (insP R t) = some (t.take p ++ R :: t.drop p, true) := fun k' hk' => by
              obtain ⟨k', rfl⟩ : ∃ m, k' = m + 1 := ⟨k' - 1, by omega⟩
              obtain ⟨b2, u1, u2⟩ := spec_Tok (t := t.take p ++ R :: t.drop p) (by omega) (k := k') (by omega)
              simp only [spec_PutRoute.j1]
              rw [hI, u1]
              simp only [Option.bind_some]
              rw [if_pos (u2.2 hT)]
            have z := sput (t := t) R t (by omega) (M := t.length + 1000) (by omega) hj (k := k) (by omega)
            unfold spec_PutRoute.f
            rw [s1]
            simp only [Option.bind_some]
            rw [if_pos (s2.2 g), spec_less h a b (by omega), drop_none hm]
            simp only [Option.bind_some]
            rw [hRd] at z ⊢
            exact z
          · obtain ⟨k, rfl⟩ : ∃ m, k = m + 1 := ⟨k - 1, by omega⟩
            obtain ⟨b2, i1, i2⟩ := impl_tab h (k := k + 1) (by omega)
            have z := bs_at (by omega) g.1 v.1 p0 p1 p2 t.length 0 t.length k (by omega) (by omega) (by omega) (Nat.le_refl _) (by omega)
            have e0 : ((0 : Nat) : Int) = 0 := rfl
            rw [e0, decide_eq_false hit] at z
            unfold impl_PutRoute.f
            rw [i1, isRoute_]
            simp only [Option.bind_some]
            rw [if_pos (i2.2 g), decide_eq_true v]
            simp only [impl_PutRoute.j0]
            rw [if_neg (by decide), own]
            simp only [Option.bind_some]
            unfold impl_findRoute.f slices_BinarySearchFunc_impl_Route_impl_Route_impl_Prefix.f
            rw [z]
            simp only [Option.bind_some]
            unfold slices_Insert_impl_Route_impl_Route.f
            rw [if_neg (by decide), if_neg (by omega), if_pos (by omega), if_pos (by omega), if_pos h, if_pos List.length_singleton, hRd, Int.toNat_natCast]
            rfl
    · refine ⟨t, false, by omega, fun k hk => ⟨?_, ?_⟩⟩
      · obtain ⟨b1, s1, s2⟩ := spec_Tok h (k := k) (by omega)
        obtain ⟨o, ho⟩ : ∃ o, o = t.filter (fun r => !isR a b r) := ⟨_, rfl⟩
        have hol : o.length ≤ t.length := by rw [ho]; exact List.length_filter_le _ _
        have hj : ∀ k', t.length + 1000 ≤ k' → spec_PutRoute.j1 k' t (insP R o) = some (t, false) := fun k' hk' => by
          obtain ⟨k', rfl⟩ : ∃ m, k' = m + 1 := ⟨k' - 1, by omega⟩
          obtain ⟨b2, u1, u2⟩ := spec_Tok (t := insP R o) (by rw [insP_len]; omega) (k := k') (by rw [insP_len]; omega)
          simp only [spec_PutRoute.j1]
          rw [u1]
          simp only [Option.bind_some]
          rw [if_neg (fun x => v (by have z := Tok_mem (u2.1 x) (insP_mem R o); rw [hRd] at z; exact z)), spec_copy h (by omega)]
          rfl
        have z := sput (t := t) R o (by omega) (M := t.length + 1000) (by omega) hj (k := k) (by omega)
        unfold spec_PutRoute.f
        rw [s1]
        simp only [Option.bind_some]
        rw [if_pos (s2.2 g), spec_less h a b (by omega), ← ho]
        simp only [Option.bind_some]
        rw [hRd] at z
        exact z
      · obtain ⟨k, rfl⟩ : ∃ m, k = m + 1 := ⟨k - 1, by omega⟩
        obtain ⟨b2, i1, i2⟩ := impl_tab h (k := k + 1) (by omega)
        unfold impl_PutRoute.f
        rw [i1, isRoute_]
        simp only [Option.bind_some]
        rw [if_pos (i2.2 g), decide_eq_false v]
        simp only [impl_PutRoute.j0]
        rw [if_pos (by decide), own]
        rfl
  · refine ⟨t, false, by omega, fun k hk => ⟨?_, ?_⟩⟩
    · obtain ⟨b1, s1, s2⟩ := spec_Tok h (k := k) (by omega)
      unfold spec_PutRoute.f
      rw [s1]
      simp only [Option.bind_some]
      rw [if_neg (fun x => g (s2.1 x)), spec_copy h (by omega)]
      rfl
    · obtain ⟨k, rfl⟩ : ∃ m, k = m + 1 := ⟨k - 1, by omega⟩
      obtain ⟨b2, i1, i2⟩ := impl_tab h (k := k + 1) (by omega)
      unfold impl_PutRoute.f
      rw [i1]
      simp only [Option.bind_some]
      rw [if_neg (fun x => g (i2.1 x))]
      simp only [impl_PutRoute.j0]
      rw [if_pos trivial, own]
      rfl
theorem FnExactPutRoute : FnExactPutRoute.Pure := by
  intro l a b c hw ha hb hc
  have hm : l.length ≤ 9223372036854775807 := hw.1
  obtain ⟨K, hK⟩ : ∃ K, K = 2 * l.length + 1050000 := ⟨_, rfl⟩
  refine ⟨K + 3, ?_⟩
  unfold laws_FnExactPutRoute.f
  rw [sz_Table hm]
  simp only [Option.bind_some]
  by_cases hl : l.length ≤ 1048576
  · have hn : (l.map cvR).length = l.length := List.length_map ..
    obtain ⟨r, ok, hlen, hr⟩ := both_Put (t := l.map cvR) (by omega) a b c
    have hs := (hr (K + 3) (by omega)).1
    have hi := (hr (K + 3) (by omega)).2
    have hi2 := (hr (K + 1) (by omega)).2
    obtain ⟨M1, m1, _⟩ := mark_Table2 1 (by omega) (by omega) (l := l.map cvR) (k := K + 2) (by omega) (by omega)
    obtain ⟨M2, m2, m3⟩ := mark_Table2 1 (by omega) (by omega) (l := r) (k := K + 1) (by omega) (by omega)
    have m5 := m3 (K + 1) (by omega)
    have m6 := m3 K (by omega)
    have tp : laws_toRoute.f a b c = some (a, b, c) := rfl
    rw [if_pos hl, if_neg (by omega), to_Table hl (by omega), tp]
    simp only [Option.bind_some]
    rw [hs]
    simp only [Option.bind_some]
    rw [hi]
    simp only [Option.bind_some]
    rw [eq_Table (by omega) (by omega)]
    simp only [Option.bind_some, if_true, bne_self_eq_false]
    simp only [laws_FnExactPutRoute.j0]
    rw [if_neg (by decide), to_Table hl (by omega)]
    simp only [Option.bind_some]
    rw [eq_Table (by omega) (by omega)]
    simp only [Option.bind_some, if_true]
    rw [m1]
    simp only [Option.bind_some]
    rw [if_neg (by omega), eq_Table (by omega) (by omega)]
    simp only [Option.bind_some, if_true, bne_self_eq_false]
    simp only [laws_FnExactPutRoute.j1]
    rw [if_neg (by decide), m2]
    simp only [Option.bind_some]
    rw [m5]
    simp only [Option.bind_some]
    rw [if_neg (by omega), if_pos trivial, to_Table hl (by omega), tp]
    simp only [Option.bind_some]
    rw [hi2]
    simp only [Option.bind_some]
    rw [eq_Table (by omega) (by omega)]
    simp only [Option.bind_some, if_true, bne_self_eq_false]
    simp only [laws_FnExactPutRoute.j2]
    rw [if_neg (by decide), m6]
    simp only [Option.bind_some]
    rw [if_neg (by omega)]
    simp
  · rw [if_neg hl]; rfl

end Go.Proofs.Ytflfbaofgfandaa.Pure
