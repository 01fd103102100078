/- The plain law of FnExactSameTable: the program's answer is the reference's. -/
import Derived.Test.YtjepabdgmholjaaStmtFnExactSameTable
namespace Go.Proofs.Ytjepabdgmholjaa.Pure
open Go.RowKit Go.Proofs.Ytjepabdgmholjaa.QFnExactSameTable Go.Proofs.YtjepabdgmholjaaU.PrintWords Go.Proofs.YtjepabdgmholjaaU.PrintLast Go.Proofs.YtjepabdgmholjaaU.PrintMore
set_option linter.unusedVariables false
set_option linter.unusedSimpArgs false

theorem len17 {l : Int} (h0 : 0 ≤ l) (h1 : l ≤ 16) : l = 0 ∨ l = 1 ∨ l = 2 ∨ l = 3 ∨ l = 4 ∨ l = 5 ∨ l = 6 ∨ l = 7 ∨ l = 8 ∨ l = 9 ∨ l = 10 ∨ l = 11 ∨ l = 12 ∨ l = 13 ∨ l = 14 ∨ l = 15 ∨ l = 16 := by omega
/-- How many addresses a prefix of length l has. -/
def psz (l : Int) : Int := 2 ^ (16 - l).toNat
theorem psz_pos (l : Int) : 0 < psz l := Int.pow_pos (by decide)
theorem psz_le {l : Int} (h0 : 0 ≤ l) (h1 : l ≤ 16) : psz l ≤ 65536 := by
  rcases len17 h0 h1 with rfl | rfl | rfl | rfl | rfl | rfl | rfl | rfl | rfl | rfl | rfl | rfl | rfl | rfl | rfl | rfl | rfl <;> decide
theorem psz_half {l : Int} (h0 : 0 ≤ l) (h1 : l ≤ 15) : psz l = 2 * psz (l + 1) := by
  rcases len17 h0 (by omega) with rfl | rfl | rfl | rfl | rfl | rfl | rfl | rfl | rfl | rfl | rfl | rfl | rfl | rfl | rfl | rfl | rfl <;> first | decide | omega
theorem psz_top {l : Int} (h0 : 0 ≤ l) (h1 : l ≤ 16) : 65536 = psz l * 2 ^ l.toNat := by
  rcases len17 h0 h1 with rfl | rfl | rfl | rfl | rfl | rfl | rfl | rfl | rfl | rfl | rfl | rfl | rfl | rfl | rfl | rfl | rfl <;> decide
theorem w64 {n : Int} (h0 : -9223372036854775808 ≤ n) (h1 : n ≤ 9223372036854775807) : wrap64 n = n := by unfold wrap64; omega
theorem shl_psz {l : Int} (h0 : 0 ≤ l) (h1 : l ≤ 16) : shl .i64 1 (16 - l) = psz l := by
  rcases len17 h0 h1 with rfl | rfl | rfl | rfl | rfl | rfl | rfl | rfl | rfl | rfl | rfl | rfl | rfl | rfl | rfl | rfl | rfl <;> decide
theorem u64w {n : Int} (h0 : 0 ≤ n) (h1 : n ≤ 16) : IntKind.u64.wrap n = n := by
  rcases len17 h0 h1 with rfl | rfl | rfl | rfl | rfl | rfl | rfl | rfl | rfl | rfl | rfl | rfl | rfl | rfl | rfl | rfl | rfl <;> decide
/-- A valid prefix. -/
def Pok (n l : Int) : Prop := 0 ≤ l ∧ l ≤ 16 ∧ 0 ≤ n ∧ n ≤ 65535 ∧ n % psz l = 0
instance (n l : Int) : Decidable (Pok n l) := by unfold Pok; infer_instance
theorem Pok.top {n l : Int} (h : Pok n l) : n + psz l ≤ 65536 := by
  obtain ⟨h0, h1, h2, h3, h4⟩ := h
  have e := psz_top h0 h1
  have p := psz_pos l
  have d := Int.emod_add_mul_ediv n (psz l)
  rw [h4, Int.zero_add] at d
  have q : n / psz l < 2 ^ l.toNat := by
    apply Int.ediv_lt_of_lt_mul p
    rw [Int.mul_comm]; omega
  have m : psz l * (n / psz l + 1) ≤ psz l * 2 ^ l.toNat := Int.mul_le_mul_of_nonneg_left (by omega) (by omega)
  rw [Int.mul_add] at m
  omega
theorem spec_In (a b c : Int) : spec_l01In.f a b c = some (decide (b ≤ a ∧ a ≤ c)) := by
  unfold spec_l01In.f
  by_cases h : b ≤ a <;> simp [h]
theorem spec_Addr (a : Int) : spec_l01Addr.f a = some (decide (0 ≤ a ∧ a ≤ 65535)) := by
  unfold spec_l01Addr.f; rw [spec_In]; rfl
theorem spec_Size {l : Int} (h0 : 0 ≤ l) (h1 : l ≤ 16) : spec_l01Size2.f l = some (psz l) := by
  unfold spec_l01Size2.f
  rw [w64 (by omega) (by omega), u64w (by omega) (by omega), if_pos (by omega), shl_psz h0 h1]
theorem spec_Pok (n l : Int) : spec_PrefixOk.f n l = some (decide (Pok n l)) := by
  unfold spec_PrefixOk.f
  rw [spec_In, spec_Addr]
  simp only [Option.bind_some, decide_eq_true_eq]
  by_cases hl : 0 ≤ l ∧ l ≤ 16
  · rw [if_pos hl]
    by_cases hn : 0 ≤ n ∧ n ≤ 65535
    · rw [if_pos hn, spec_Size hl.1 hl.2]
      have p := psz_pos l
      simp only [Option.bind_some]
      rw [if_neg (by omega), Int.tmod_eq_emod_of_nonneg hn.1]
      congr 1
      by_cases e : n % psz l = 0
      · rw [e]; simp [Pok, hl, hn, e]
      · simp [Pok, hl, hn, e]
    · rw [if_neg hn]; congr 1; symm; rw [decide_eq_false_iff_not]; unfold Pok; omega
  · rw [if_neg hl]; congr 1; symm; rw [decide_eq_false_iff_not]; unfold Pok; omega
theorem impl_In (a b c : Int) : impl_within.f a b c = some (decide (b ≤ a ∧ a ≤ c)) := by
  unfold impl_within.f
  by_cases h : b ≤ a <;> simp [h]
theorem impl_Addr (a : Int) : impl_isAddr.f a = some (decide (0 ≤ a ∧ a ≤ 65535)) := by
  unfold impl_isAddr.f; rw [impl_In]; rfl
theorem impl_Size (n : Int) {l : Int} (h0 : 0 ≤ l) (h1 : l ≤ 16) : impl_Prefix_size.f n l = some (psz l) := by
  unfold impl_Prefix_size.f
  rw [w64 (by omega) (by omega), if_pos (by omega), shl_psz h0 h1]
theorem impl_Pok (n l : Int) : impl_PrefixOk.f n l = some (decide (Pok n l)) := by
  unfold impl_PrefixOk.f
  rw [impl_In, impl_Addr]
  simp only [Option.bind_some, decide_eq_true_eq]
  by_cases hl : 0 ≤ l ∧ l ≤ 16
  · rw [if_pos hl]
    by_cases hn : 0 ≤ n ∧ n ≤ 65535
    · rw [if_pos hn, impl_Size n hl.1 hl.2]
      have p := psz_pos l
      simp only [Option.bind_some]
      rw [if_neg (by omega), Int.tmod_eq_emod_of_nonneg hn.1]
      congr 1
      by_cases e : n % psz l = 0
      · rw [e]; simp [Pok, hl, hn, e]
      · simp [Pok, hl, hn, e]
    · rw [if_neg hn]; congr 1; symm; rw [decide_eq_false_iff_not]; unfold Pok; omega
  · rw [if_neg hl]; congr 1; symm; rw [decide_eq_false_iff_not]; unfold Pok; omega
/-- A loop that asks each index and ends at the first refusal. -/
theorem all_loop {F : Nat → Int → Option Bool} {n : Nat} {P : Nat → Prop} {e : Bool}
    (hs : ∀ (k i : Nat), i < n → (∀ j, j < i → P j) → (P i ∧ F (k + 1) i = F k ((i : Int) + 1)) ∨ (¬ P i ∧ F (k + 1) i = some false))
    (he : ∀ k : Nat, (∀ j, j < n → P j) → F (k + 1) n = some e) : ∀ (d k i : Nat), i + d = n → d < k → (∀ j, j < i → P j) →
    ∃ b, F k i = some b ∧ (b = true ↔ ((∀ j, j < n → P j) ∧ e = true)) := by
  intro d
  induction d with
  | zero =>
    intro k i hi hk hp
    obtain ⟨k, rfl⟩ : ∃ m, k = m + 1 := ⟨k - 1, by omega⟩
    obtain rfl : i = n := by omega
    exact ⟨e, he k hp, ⟨fun h => ⟨hp, h⟩, fun h => h.2⟩⟩
  | succ d ih =>
    intro k i hi hk hp
    obtain ⟨k, rfl⟩ : ∃ m, k = m + 1 := ⟨k - 1, by omega⟩
    rcases hs k i (by omega) hp with ⟨h1, h2⟩ | ⟨h1, h2⟩
    · have e1 : (i : Int) + 1 = ((i + 1 : Nat) : Int) := by omega
      rw [h2, e1]
      refine ih k (i + 1) (by omega) (by omega) (fun j hj => ?_)
      by_cases hji : j = i
      · rw [hji]; exact h1
      · exact hp j (by omega)
    · refine ⟨false, h2, ⟨(fun h => by cases h), fun h => absurd (h.1 i (by omega)) h1⟩⟩
/-- A loop that copies a list, element by element. -/
theorem copy_loop {α β : Type} {F : Nat → List α → List β → Int → Option (List β)} {cv : α → β} (z : α) {N : Nat}
    (hs : ∀ (k i : Nat) (x : List α) (y : List β), x.length ≤ N → i < x.length → i < y.length → F (k + 1) x y i = F k x (y.set i (cv (x.getD i z))) ((i : Int) + 1))
    (he : ∀ (k : Nat) (x : List α) (y : List β), F (k + 1) x y x.length = some y) (x : List α) (hN : x.length ≤ N) : ∀ (d k i : Nat) (y : List β), i + d = x.length → d < k → y.length = x.length →
    y.take i = (x.take i).map cv → F k x y i = some (x.map cv) := by
  intro d
  induction d with
  | zero =>
    intro k i y hi hk hl ht
    obtain ⟨k, rfl⟩ : ∃ m, k = m + 1 := ⟨k - 1, by omega⟩
    obtain rfl : i = x.length := by omega
    rw [he]
    rw [List.take_of_length_le (by omega), List.take_of_length_le (by omega)] at ht
    rw [ht]
  | succ d ih =>
    intro k i y hi hk hl ht
    obtain ⟨k, rfl⟩ : ∃ m, k = m + 1 := ⟨k - 1, by omega⟩
    have e1 : (i : Int) + 1 = ((i + 1 : Nat) : Int) := by omega
    rw [hs k i x y hN (by omega) (by omega), e1]
    refine ih k (i + 1) _ (by omega) (by omega) (by rw [List.length_set, hl]) ?_
    have hx : i < x.length := by omega
    have hy : i < y.length := by omega
    rw [List.take_succ_eq_append_getElem (by rw [List.length_set]; exact hy), List.take_succ_eq_append_getElem hx, List.map_append, List.take_set, ht]
    congr 1
    · rw [List.set_eq_of_length_le]
      simp; omega
    · simp [List.getD_eq_getElem?_getD, hx]
/-- Two equal lists, compared element by element. -/
theorem same_loop {α : Type} {F : Nat → List α → List α → Int → Option Bool} {N : Nat}
    (hs : ∀ (k i : Nat) (x : List α), x.length ≤ N → i < x.length → F (k + 1) x x i = F k x x ((i : Int) + 1))
    (he : ∀ (k : Nat) (x : List α), F (k + 1) x x x.length = some true) (x : List α) (hN : x.length ≤ N) : ∀ (d k i : Nat), i + d = x.length → d < k → F k x x i = some true := by
  intro d
  induction d with
  | zero =>
    intro k i hi hk
    obtain ⟨k, rfl⟩ : ∃ m, k = m + 1 := ⟨k - 1, by omega⟩
    obtain rfl : i = x.length := by omega
    exact he k x
  | succ d ih =>
    intro k i hi hk
    obtain ⟨k, rfl⟩ : ∃ m, k = m + 1 := ⟨k - 1, by omega⟩
    have e1 : (i : Int) + 1 = ((i + 1 : Nat) : Int) := by omega
    rw [hs k i x hN (by omega), e1]
    exact ih k (i + 1) (by omega) (by omega)
/-- The same where what stands behind the loop wants m rounds more. -/
theorem all_loopm (m : Nat) {F : Nat → Int → Option Bool} {n : Nat} {P : Nat → Prop} {e : Bool}
    (hs : ∀ (k i : Nat), i < n → (∀ j, j < i → P j) → (P i ∧ F (k + 1) i = F k ((i : Int) + 1)) ∨ (¬ P i ∧ F (k + 1) i = some false))
    (he : ∀ k : Nat, m ≤ k → (∀ j, j < n → P j) → F (k + 1) n = some e) : ∀ (d k i : Nat), i + d = n → d + m < k → (∀ j, j < i → P j) →
    ∃ b, F k i = some b ∧ (b = true ↔ ((∀ j, j < n → P j) ∧ e = true)) := by
  intro d
  induction d with
  | zero =>
    intro k i hi hk hp
    obtain ⟨k, rfl⟩ : ∃ m, k = m + 1 := ⟨k - 1, by omega⟩
    obtain rfl : i = n := by omega
    exact ⟨e, he k (by omega) hp, ⟨fun h => ⟨hp, h⟩, fun h => h.2⟩⟩
  | succ d ih =>
    intro k i hi hk hp
    obtain ⟨k, rfl⟩ : ∃ m, k = m + 1 := ⟨k - 1, by omega⟩
    rcases hs k i (by omega) hp with ⟨h1, h2⟩ | ⟨h1, h2⟩
    · have e1 : (i : Int) + 1 = ((i + 1 : Nat) : Int) := by omega
      rw [h2, e1]
      refine ih k (i + 1) (by omega) (by omega) (fun j hj => ?_)
      by_cases hji : j = i
      · rw [hji]; exact h1
      · exact hp j (by omega)
    · refine ⟨false, h2, ⟨(fun h => by cases h), fun h => absurd (h.1 i (by omega)) h1⟩⟩
/-- A loop that looks for something in a list, from an index on. -/
theorem find_loop {α ρ : Type} {F : Nat → Int → Option ρ} {h : List α → ρ} (t : List α)
    (hs : ∀ (k i : Nat), i < t.length → (F (k + 1) i = F k ((i : Int) + 1) ∧ h (t.drop i) = h (t.drop (i + 1))) ∨ F (k + 1) i = some (h (t.drop i)))
    (he : ∀ (k : Nat), F (k + 1) t.length = some (h [])) : ∀ (d k i : Nat), i + d = t.length → d < k → F k i = some (h (t.drop i)) := by
  intro d
  induction d with
  | zero =>
    intro k i hi hk
    obtain ⟨k, rfl⟩ : ∃ m, k = m + 1 := ⟨k - 1, by omega⟩
    obtain rfl : i = t.length := by omega
    rw [he, List.drop_length]
  | succ d ih =>
    intro k i hi hk
    obtain ⟨k, rfl⟩ : ∃ m, k = m + 1 := ⟨k - 1, by omega⟩
    rcases hs k i (by omega) with ⟨h1, h2⟩ | h1
    · have e1 : (i : Int) + 1 = ((i + 1 : Nat) : Int) := by omega
      rw [h1, e1, ih k (i + 1) (by omega) (by omega), h2]
    · exact h1
theorem drop_getD {α : Type} (t : List α) (z : α) {i : Nat} (hi : i < t.length) : t.drop i = t.getD i z :: t.drop (i + 1) := by
  rw [List.drop_eq_getElem_cons hi, List.getD_eq_getElem?_getD, List.getElem?_eq_getElem hi]; rfl
theorem rd_getI (t : List Int) (i : Nat) : rd t i = t.getD i 0 := by simp [rd]
/-- A route, of the laws' type and of the program's. -/
def cvR (x : S46) : S29 := ⟨⟨x.f0.f0, x.f0.f1⟩, x.f1⟩
theorem sz_Table {l : List S46} (h : l.length ≤ 9223372036854775807) : laws_szTable.f l 1048576 = some (if l.length ≤ 1048576 then 1048576 - (l.length : Int) else -1) := by
  unfold laws_szTable.f laws_szRouteS.f
  rw [w64 (by omega) (by omega)]
  by_cases hl : l.length ≤ 1048576
  · rw [if_neg (by omega), if_pos hl]
    simp only [Option.bind_some]
    rw [if_neg (by omega)]
  · rw [if_pos (by omega), if_neg hl]
    rfl
theorem to_RouteS {l : List S46} {k : Nat} (h : l.length ≤ 1048576) (hk : l.length < k) : laws_toRouteS.f k l = some (l.map cvR) := by
  unfold laws_toRouteS.f
  rw [if_pos (by omega), if_pos (by omega)]
  refine copy_loop (F := laws_toRouteS.l0) (cv := cvR) z46 (N := 1048576) ?_ ?_ l h l.length k 0 _ (by omega) hk (by simp) (by simp)
  · intro k i x y hN hx hy
    simp only [laws_toRouteS.l0]
    rw [if_pos (by omega), if_pos (by omega)]
    unfold laws_toRoute.f laws_toPrefix.f
    simp only [Option.bind_some]
    rw [if_pos (by omega), w64 (by omega) (by omega)]
    simp [rd_T46, cvR]
  · intro k x y
    simp only [laws_toRouteS.l0]
    rw [if_neg (by omega)]
theorem to_Table {l : List S46} {k : Nat} (h : l.length ≤ 1048576) (hk : l.length < k) : laws_toTable.f k l = some (l.map cvR) := by
  unfold laws_toTable.f
  rw [to_RouteS h hk]; rfl
theorem eq_RouteS {l : List S29} {k : Nat} (h : l.length ≤ 1048576) (hk : l.length < k) : laws_eqRouteS.f k l l = some true := by
  unfold laws_eqRouteS.f
  rw [if_pos rfl]
  refine same_loop (F := laws_eqRouteS.l0) (N := 1048576) ?_ ?_ l h l.length k 0 (by omega) hk
  · intro k i x hN hx
    simp only [laws_eqRouteS.l0]
    rw [if_pos (by omega), if_pos (by omega), if_pos (by omega)]
    unfold laws_eqRoute.f laws_eqPrefix.f
    simp only [if_true, Option.bind_some]
    rw [w64 (by omega) (by omega)]
  · intro k x
    simp only [laws_eqRouteS.l0]
    rw [if_neg (by omega)]
theorem eq_Table {l : List S29} {k : Nat} (h : l.length ≤ 1048576) (hk : l.length < k) : laws_eqTable.f k l l = some true := by
  unfold laws_eqTable.f
  rw [eq_RouteS h hk]; rfl
/-- Prefix a stands ahead of prefix b. -/
def Ahead (n l m k : Int) : Prop := n < m ∨ n = m ∧ l < k
theorem spec_Ahead (n l m k : Int) : ∃ b, spec_l02Ahead.f n l m k = some b ∧ (b = true ↔ Ahead n l m k) := by
  unfold spec_l02Ahead.f Ahead
  by_cases h : n < m
  · exact ⟨true, by rw [if_pos h], by simp [h]⟩
  · by_cases h2 : n = m
    · exact ⟨decide (l < k), by rw [if_neg h, if_pos h2], by simp [h2]⟩
    · exact ⟨false, by rw [if_neg h, if_neg h2], by simp [h, h2]⟩
theorem impl_Compare {n l m k : Int} (h1 : Pok n l) (h2 : Pok m k) : ∃ c, impl_comparePrefixes.f n l m k = some c ∧ (¬ c ≥ 0 ↔ Ahead n l m k) := by
  obtain ⟨a0, a1, a2, a3, _⟩ := h1
  obtain ⟨b0, b1, b2, b3, _⟩ := h2
  unfold impl_comparePrefixes.f Ahead
  by_cases h : n = m
  · refine ⟨l - k, by rw [if_pos h, w64 (by omega) (by omega)], by omega⟩
  · refine ⟨n - m, by rw [if_neg h, w64 (by omega) (by omega)], by omega⟩
/-- The route at an index is valid and stands behind the one ahead of it. -/
def Rat (t : List S29) (j : Nat) : Prop :=
  Pok (rd_T29 t j).f0.f0 (rd_T29 t j).f0.f1 ∧ (0 ≤ (rd_T29 t j).f1 ∧ (rd_T29 t j).f1 ≤ 999) ∧
    (0 < j → Ahead (rd_T29 t ((j : Int) - 1)).f0.f0 (rd_T29 t ((j : Int) - 1)).f0.f1 (rd_T29 t j).f0.f0 (rd_T29 t j).f0.f1)
theorem spec_tab {t : List S29} (h : t.length ≤ 1048576) {k : Nat} (hk : t.length < k) : ∃ b, spec_TableOk.l0 k 0 t = some b ∧ (b = true ↔ ∀ j, j < t.length → Rat t j) := by
  have x := all_loop (F := fun k i => spec_TableOk.l0 k i t) (n := t.length) (P := Rat t) (e := true) ?_ ?_ t.length k 0 (by omega) hk (fun j hj => by omega)
  · obtain ⟨b, h1, h2⟩ := x
    exact ⟨b, h1, by simpa using h2⟩
  · intro k i hi hp
    simp only [spec_TableOk.l0]
    rw [if_pos (by omega), if_pos (by omega), spec_Pok, spec_In]
    simp only [Option.bind_some, decide_eq_true_eq]
    by_cases c1 : Pok (rd_T29 t i).f0.f0 (rd_T29 t i).f0.f1
    · rw [if_pos c1]
      by_cases c2 : 0 ≤ (rd_T29 t i).f1 ∧ (rd_T29 t i).f1 ≤ 999
      · rw [if_pos c2]
        by_cases c3 : i = 0
        · subst c3
          rw [if_neg (by omega), w64 (by omega) (by omega)]
          exact .inl ⟨⟨c1, c2, fun h => by omega⟩, rfl⟩
        · rw [if_pos (by omega), w64 (n := (i : Int) - 1) (by omega) (by omega), if_pos (by omega), if_pos (by omega)]
          obtain ⟨b, hb, hb2⟩ := spec_Ahead (rd_T29 t ((i : Int) - 1)).f0.f0 (rd_T29 t ((i : Int) - 1)).f0.f1 (rd_T29 t i).f0.f0 (rd_T29 t i).f0.f1
          rw [hb]
          simp only [Option.bind_some]
          by_cases c4 : b = true
          · rw [if_pos c4, w64 (by omega) (by omega)]
            exact .inl ⟨⟨c1, c2, fun _ => hb2.1 c4⟩, rfl⟩
          · rw [if_neg c4]
            exact .inr ⟨fun h => c4 (hb2.2 (h.2.2 (by omega))), rfl⟩
      · rw [if_neg c2]
        exact .inr ⟨fun h => c2 h.2.1, rfl⟩
    · rw [if_neg c1]
      exact .inr ⟨fun h => c1 h.1, rfl⟩
  · intro k _
    simp only [spec_TableOk.l0]
    rw [if_neg (by omega)]
theorem impl_tab {t : List S29} (h : t.length ≤ 1048576) {k : Nat} (hk : t.length < k) : ∃ b, impl_TableOk.f k t = some b ∧ (b = true ↔ (∀ j, j < t.length → Rat t j) ∧ t.length ≤ 120) := by
  unfold impl_TableOk.f
  have x := all_loop (F := fun k i => impl_TableOk.l0 k t t.length i t) (n := t.length) (P := Rat t) (e := decide (t.length ≤ 120)) ?_ ?_ t.length k 0 (by omega) hk (fun j hj => by omega)
  · obtain ⟨b, h1, h2⟩ := x
    exact ⟨b, h1, by simpa using h2⟩
  · intro k i hi hp
    simp only [impl_TableOk.l0]
    unfold impl_isRoute.f
    rw [if_pos (by omega), if_pos (by omega), if_pos (by omega), impl_Pok, impl_In]
    simp only [Option.bind_some, decide_eq_true_eq]
    by_cases c1 : Pok (rd_T29 t i).f0.f0 (rd_T29 t i).f0.f1
    · rw [if_pos c1]
      simp only [Option.bind_some, decide_eq_true_eq]
      by_cases c2 : 0 ≤ (rd_T29 t i).f1 ∧ (rd_T29 t i).f1 ≤ 999
      · rw [if_pos c2]
        by_cases c3 : i = 0
        · subst c3
          rw [if_neg (by omega), w64 (by omega) (by omega)]
          exact .inl ⟨⟨c1, c2, fun h => by omega⟩, rfl⟩
        · rw [if_pos (by omega), w64 (n := (i : Int) - 1) (by omega) (by omega), if_pos (by omega), if_pos (by omega)]
          have e1 : (((i - 1 : Nat) : Int)) = (i : Int) - 1 := by omega
          have pv := (hp (i - 1) (by omega)).1
          rw [e1] at pv
          obtain ⟨b, hb, hb2⟩ := impl_Compare pv c1
          rw [hb]
          simp only [Option.bind_some]
          by_cases c4 : b ≥ 0
          · rw [if_pos c4]
            exact .inr ⟨fun h => hb2.2 (h.2.2 (by omega)) c4, rfl⟩
          · rw [if_neg c4, w64 (by omega) (by omega)]
            exact .inl ⟨⟨c1, c2, fun _ => hb2.1 c4⟩, rfl⟩
      · rw [if_neg c2]
        exact .inr ⟨fun h => c2 h.2.1, rfl⟩
    · rw [if_neg c1]
      simp only [Option.bind_some]
      exact .inr ⟨fun h => c1 h.1, rfl⟩
  · intro k _
    simp only [impl_TableOk.l0]
    rw [if_neg (by omega)]
    congr 1
    rw [decide_eq_decide]; omega
/-- A valid table. -/
def Tok (t : List S29) : Prop := (∀ j, j < t.length → Rat t j) ∧ t.length ≤ 120
theorem spec_Tok {t : List S29} (h : t.length ≤ 1048576) {k : Nat} (hk : t.length < k) : ∃ b, spec_TableOk.f k t = some b ∧ (b = true ↔ Tok t) := by
  unfold spec_TableOk.f Tok
  by_cases hl : (t.length : Int) > 120
  · exact ⟨false, by rw [if_pos hl], by simp; omega⟩
  · obtain ⟨b, h1, h2⟩ := spec_tab h hk
    exact ⟨b, by rw [if_neg hl, h1], by rw [h2]; exact ⟨fun x => ⟨x, by omega⟩, fun x => x.1⟩⟩
/-! The stable sort of routes by the length of their prefixes: what it needs and what it leaves. -/
theorem rdR_get (t : List S29) (i : Nat) : rd_T29 t i = t.getD i z29 := by simp [rd_T29]
theorem rdR_set {x : List S29} {i j : Nat} (v : S29) (hi : i < x.length) : rd_T29 (x.set i v) j = if i = j then v else rd_T29 x j := by
  rw [rdR_get, rdR_get, List.getD_eq_getElem?_getD, List.getD_eq_getElem?_getD, List.getElem?_set]
  by_cases c : i = j
  · subst c; simp [hi]
  · simp [c]
/-- The length of the prefix at a place. -/
def Kl (x : List S29) (j : Nat) : Int := (rd_T29 x j).f0.f1
def sw (x : List S29) (i j : Nat) : List S29 := (x.set i (rd_T29 x j)).set j (rd_T29 x i)
theorem sw_len (x : List S29) (i j : Nat) : (sw x i j).length = x.length := by simp [sw]
theorem rd_sw {x : List S29} {i j : Nat} (hi : i < x.length) (hj : j < x.length) (t : Nat) : rd_T29 (sw x i j) t = if j = t then rd_T29 x i else if i = t then rd_T29 x j else rd_T29 x t := by
  unfold sw
  rw [rdR_set _ (by rw [List.length_set]; exact hj)]
  by_cases c : j = t
  · rw [if_pos c, if_pos c]
  · rw [if_neg c, if_neg c, rdR_set _ hi]
/-- y holds from a to b what x holds there, in some order, and is x elsewhere. -/
structure Mix (x y : List S29) (a b : Nat) : Prop where
  len : y.length = x.length
  out : ∀ j : Nat, j < a ∨ b ≤ j → rd_T29 y j = rd_T29 x j
  fro : ∀ i : Nat, a ≤ i → i < b → ∃ p : Nat, a ≤ p ∧ p < b ∧ rd_T29 y i = rd_T29 x p
  back : ∀ i : Nat, a ≤ i → i < b → ∃ p : Nat, a ≤ p ∧ p < b ∧ rd_T29 x i = rd_T29 y p
theorem Mix.refl (x : List S29) (a b : Nat) : Mix x x a b := ⟨rfl, fun _ _ => rfl, fun i h1 h2 => ⟨i, h1, h2, rfl⟩, fun i h1 h2 => ⟨i, h1, h2, rfl⟩⟩
theorem Mix.trans {x y z : List S29} {a b : Nat} (h : Mix x y a b) (g : Mix y z a b) : Mix x z a b := by
  refine ⟨g.len.trans h.len, fun j hj => (g.out j hj).trans (h.out j hj), fun i h1 h2 => ?_, fun i h1 h2 => ?_⟩
  · obtain ⟨p, p1, p2, p3⟩ := g.fro i h1 h2
    obtain ⟨q, q1, q2, q3⟩ := h.fro p p1 p2
    exact ⟨q, q1, q2, p3.trans q3⟩
  · obtain ⟨p, p1, p2, p3⟩ := h.back i h1 h2
    obtain ⟨q, q1, q2, q3⟩ := g.back p p1 p2
    exact ⟨q, q1, q2, p3.trans q3⟩
theorem Mix.widen {x y : List S29} {a b a' b' : Nat} (h : Mix x y a b) (ha : a' ≤ a) (hb : b ≤ b') : Mix x y a' b' := by
  refine ⟨h.len, fun j hj => h.out j (by omega), fun i h1 h2 => ?_, fun i h1 h2 => ?_⟩
  · by_cases c : a ≤ i ∧ i < b
    · obtain ⟨p, p1, p2, p3⟩ := h.fro i c.1 c.2
      exact ⟨p, by omega, by omega, p3⟩
    · exact ⟨i, h1, h2, h.out i (by omega)⟩
  · by_cases c : a ≤ i ∧ i < b
    · obtain ⟨p, p1, p2, p3⟩ := h.back i c.1 c.2
      exact ⟨p, by omega, by omega, p3⟩
    · exact ⟨i, h1, h2, (h.out i (by omega)).symm⟩
theorem Mix.sw {x : List S29} {a b i j : Nat} (hi : a ≤ i ∧ i < b) (hj : a ≤ j ∧ j < b) (hb : b ≤ x.length) : Mix x (sw x i j) a b := by
  have r := rd_sw (x := x) (i := i) (j := j) (by omega) (by omega)
  refine ⟨sw_len .., fun t ht => ?_, fun t h1 h2 => ?_, fun t h1 h2 => ?_⟩
  · rw [r, if_neg (by omega), if_neg (by omega)]
  · rw [r]
    by_cases c : j = t
    · rw [if_pos c]; exact ⟨i, hi.1, hi.2, rfl⟩
    · rw [if_neg c]
      by_cases c2 : i = t
      · rw [if_pos c2]; exact ⟨j, hj.1, hj.2, rfl⟩
      · rw [if_neg c2]; exact ⟨t, h1, h2, rfl⟩
  · by_cases c : j = t
    · refine ⟨i, hi.1, hi.2, ?_⟩
      rw [r]
      by_cases c2 : j = i
      · rw [if_pos c2, ← c, c2]
      · rw [if_neg c2, if_pos rfl, c]
    · by_cases c2 : i = t
      · exact ⟨j, hj.1, hj.2, by rw [r, if_pos rfl, c2]⟩
      · exact ⟨t, h1, h2, by rw [r, if_neg c, if_neg c2]⟩
/-- All lengths are those of prefixes, and there are few. -/
def Bd (x : List S29) : Prop := x.length ≤ 1000 ∧ ∀ j : Nat, j < x.length → 0 ≤ Kl x j ∧ Kl x j ≤ 16
theorem Bd.mix {x y : List S29} {a b : Nat} (h : Bd x) (m : Mix x y a b) (hb : b ≤ x.length) : Bd y := by
  refine ⟨by rw [m.len]; exact h.1, fun j hj => ?_⟩
  rw [m.len] at hj
  unfold Kl
  by_cases c : a ≤ j ∧ j < b
  · obtain ⟨p, p1, p2, p3⟩ := m.fro j c.1 c.2
    rw [p3]; exact h.2 p (by omega)
  · rw [m.out j (by omega)]; exact h.2 j hj
def Srt (x : List S29) (a b : Nat) : Prop := ∀ p q : Nat, a ≤ p → p < q → q < b → Kl x p ≤ Kl x q
theorem Srt.sub {x : List S29} {a b a' b' : Nat} (h : Srt x a b) (ha : a ≤ a') (hb : b' ≤ b) : Srt x a' b' := fun p q h1 h2 h3 => h p q (by omega) h2 (by omega)
theorem Srt.mix {x y : List S29} {a b c d : Nat} (h : Srt x a b) (m : Mix x y c d) (hd : b ≤ c ∨ d ≤ a) : Srt y a b := by
  intro p q h1 h2 h3
  unfold Kl
  rw [m.out p (by omega), m.out q (by omega)]
  exact h p q h1 h2 h3
theorem Srt.le {x : List S29} {a b : Nat} (h : Srt x a b) {p q : Nat} (h1 : a ≤ p) (h2 : p ≤ q) (h3 : q < b) : Kl x p ≤ Kl x q := by
  rcases Nat.lt_or_ge p q with c | c
  · exact h p q h1 c h3
  · rw [show p = q by omega]; exact Int.le_refl _
theorem cmp_R {a b c d e f : Int} (h : -9223372036854775808 ≤ b - e) (h2 : b - e ≤ 9223372036854775807) : impl_hopsOf_1.f a b c d e f = some (b - e) := by
  unfold impl_hopsOf_1.f
  rw [w64 h h2]
/-- Sorted from a to i but for what stands at j, which may be too far to the right. -/
def Inv1 (x : List S29) (a i j : Nat) : Prop := ∀ p q : Nat, a ≤ p → p < q → q ≤ i → q ≠ j → Kl x p ≤ Kl x q
theorem ins_inner (a b i : Nat) (hib : i < b) : ∀ (d k j : Nat) (x : List S29), j = a + d → j ≤ i → b ≤ x.length → Bd x → d < k → Inv1 x a i j →
    ∃ y k', k ≤ k' + d + 1 ∧ Mix x y a (i + 1) ∧ Srt y a (i + 1) ∧ slices_insertionSortCmpFunc_impl_Route.l1 k x a b i j = slices_insertionSortCmpFunc_impl_Route.l0 k' y a b ((i + 1 : Nat) : Int) := by
  intro d
  induction d with
  | zero =>
    intro k j x hj hji hb hB hk hI
    obtain ⟨k, rfl⟩ : ∃ m, k = m + 1 := ⟨k - 1, by omega⟩
    have hl := hB.1
    refine ⟨x, k, by omega, Mix.refl .., fun p q h1 h2 h3 => hI p q h1 h2 (by omega) (by omega), ?_⟩
    simp only [slices_insertionSortCmpFunc_impl_Route.l1]
    rw [if_neg (by omega), w64 (by omega) (by omega)]
    rfl
  | succ d ih =>
    intro k j x hj hji hb hB hk hI
    obtain ⟨k, rfl⟩ : ∃ m, k = m + 1 := ⟨k - 1, by omega⟩
    obtain ⟨j, rfl⟩ : ∃ m, j = m + 1 := ⟨j - 1, by omega⟩
    have hl := hB.1
    have e1 := Aside0.mk (show wrap64 (((j + 1 : Nat) : Int) - 1) = (j : Int) from by rw [w64 (by omega) (by omega)]; omega)
    have k1 := hB.2 j (by omega)
    have k2 := hB.2 (j + 1) (by omega)
    simp only [slices_insertionSortCmpFunc_impl_Route.l1]
    rw [e1.out, if_pos (by omega), if_pos (by omega), if_pos (by omega), if_pos (by omega), if_pos (by omega), cmp_R (by unfold Kl at k1 k2; omega) (by unfold Kl at k1 k2; omega)]
    simp only [Option.bind_some, Int.toNat_natCast]
    by_cases c : Kl x (j + 1) < Kl x j
    · rw [if_pos (by unfold Kl at c; omega)]
      have hm : Mix x (sw x (j + 1) j) a (i + 1) := Mix.sw ⟨by omega, by omega⟩ ⟨by omega, by omega⟩ (by omega)
      have r := rd_sw (x := x) (i := j + 1) (j := j) (by omega) (by omega)
      obtain ⟨y, k', q1, q2, q3, q4⟩ := ih k j (sw x (j + 1) j) (by omega) (by omega) (by rw [sw_len]; exact hb) (hB.mix hm (by omega)) (by omega) (fun p q h1 h2 h3 h4 => by
        unfold Kl at c ⊢
        rw [r p, r q, if_neg (by omega : ¬ j = q)]
        by_cases cq : j + 1 = q
        · rw [if_pos cq]
          by_cases cp : j = p
          · rw [if_pos cp]; omega
          · rw [if_neg cp, if_neg (by omega)]
            exact hI p j h1 (by omega) (by omega) (by omega)
        · rw [if_neg cq]
          by_cases cp : j = p
          · rw [if_pos cp]
            exact hI (j + 1) q (by omega) (by omega) h3 (by omega)
          · rw [if_neg cp]
            by_cases cp2 : j + 1 = p
            · rw [if_pos cp2]
              exact hI j q (by omega) (by omega) h3 (by omega)
            · rw [if_neg cp2]
              exact hI p q h1 h2 h3 (by omega))
      exact ⟨y, k', by omega, hm.trans q2, q3, q4⟩
    · rw [if_neg (by unfold Kl at c; omega)]
      refine ⟨x, k, by omega, Mix.refl .., fun p q h1 h2 h3 => ?_, by rw [w64 (by omega) (by omega)]; rfl⟩
      by_cases cq : q = j + 1
      · subst cq
        by_cases cp : p = j
        · subst cp; omega
        · have := hI p j h1 (by omega) (by omega) (by omega)
          omega
      · exact hI p q h1 h2 (by omega) cq
theorem ins_outer (a b : Nat) : ∀ (d k i : Nat) (x : List S29), i + d = b → a < i → b ≤ x.length → Bd x → d * (b + 3) + 1 < k → Srt x a i →
    ∃ y, Mix x y a b ∧ Srt y a b ∧ slices_insertionSortCmpFunc_impl_Route.l0 k x a b i = some y := by
  intro d
  induction d with
  | zero =>
    intro k i x hi hai hb hB hk hS
    obtain ⟨k, rfl⟩ : ∃ m, k = m + 1 := ⟨k - 1, by omega⟩
    obtain rfl : i = b := by omega
    simp only [slices_insertionSortCmpFunc_impl_Route.l0]
    rw [if_neg (by omega)]
    exact ⟨x, Mix.refl .., hS, rfl⟩
  | succ d ih =>
    intro k i x hi hai hb hB hk hS
    obtain ⟨k, rfl⟩ : ∃ m, k = m + 1 := ⟨k - 1, by omega⟩
    have hk2 : d * (b + 3) + (b + 3) + 1 < k + 1 := by rw [Nat.succ_mul] at hk; exact hk
    simp only [slices_insertionSortCmpFunc_impl_Route.l0]
    rw [if_pos (by omega)]
    obtain ⟨y, k', q1, q2, q3, q4⟩ := ins_inner a b i (by omega) (i - a) k i x (by omega) (Nat.le_refl _) hb hB (by omega) (fun p q h1 h2 h3 h4 => hS p q h1 h2 (by omega))
    obtain ⟨z, z1, z2, z3⟩ := ih k' (i + 1) y (by omega) (by omega) (by rw [q2.len]; exact hb) (hB.mix q2 (by omega)) (by omega) q3
    exact ⟨z, (q2.widen (Nat.le_refl _) (by omega)).trans z1, z2, by rw [q4, z3]⟩
theorem ins_sort {a b k : Nat} {x : List S29} (hab : a < b) (hb : b ≤ x.length) (hB : Bd x) (hk : (b + 1) * (b + 3) < k) :
    ∃ y, Mix x y a b ∧ Srt y a b ∧ slices_insertionSortCmpFunc_impl_Route.f k x a b = some y := by
  have hl := hB.1
  have e : (b - (a + 1)) * (b + 3) + 1 < k := by
    have h1 : (b - (a + 1)) * (b + 3) ≤ b * (b + 3) := Nat.mul_le_mul_right _ (by omega)
    rw [Nat.succ_mul] at hk
    omega
  obtain ⟨y, y1, y2, y3⟩ := ins_outer a b (b - (a + 1)) k (a + 1) x (by omega) (by omega) hb hB e (fun p q h1 h2 h3 => by omega)
  refine ⟨y, y1, y2, ?_⟩
  unfold slices_insertionSortCmpFunc_impl_Route.f
  rw [w64 (by omega) (by omega)]
  exact y3
theorem swr_loop (a b n : Nat) (hab : a + n ≤ b) : ∀ (d k i : Nat) (x : List S29), i + d = n → d < k → b + n ≤ x.length → x.length ≤ 1000 →
    ∃ y, y.length = x.length ∧ (∀ t : Nat, rd_T29 y t = if a + i ≤ t ∧ t < a + n then rd_T29 x ((t - a + b : Nat) : Int) else if b + i ≤ t ∧ t < b + n then rd_T29 x ((t - b + a : Nat) : Int) else rd_T29 x t) ∧ slices_swapRangeCmpFunc_impl_Route.l0 k x a b n i = some y := by
  intro d
  induction d with
  | zero =>
    intro k i x hi hk hb hl
    obtain ⟨k, rfl⟩ : ∃ m, k = m + 1 := ⟨k - 1, by omega⟩
    refine ⟨x, rfl, fun t => by rw [if_neg (by omega), if_neg (by omega)], ?_⟩
    simp only [slices_swapRangeCmpFunc_impl_Route.l0]
    rw [if_neg (by omega)]
  | succ d ih =>
    intro k i x hi hk hb hl
    obtain ⟨k, rfl⟩ : ∃ m, k = m + 1 := ⟨k - 1, by omega⟩
    have e1 := Aside0.mk (show wrap64 ((b : Int) + (i : Int)) = ((b + i : Nat) : Int) from by rw [w64 (by omega) (by omega)]; omega)
    have e2 := Aside0.mk (show wrap64 ((a : Int) + (i : Int)) = ((a + i : Nat) : Int) from by rw [w64 (by omega) (by omega)]; omega)
    have e3 := Aside0.mk (show wrap64 ((i : Int) + 1) = ((i + 1 : Nat) : Int) from by rw [w64 (by omega) (by omega)]; omega)
    have r := rd_sw (x := x) (i := a + i) (j := b + i) (by omega) (by omega)
    obtain ⟨y, y1, y2, y3⟩ := ih k (i + 1) (sw x (a + i) (b + i)) (by omega) (by omega) (by rw [sw_len]; exact hb) (by rw [sw_len]; exact hl)
    refine ⟨y, y1.trans (sw_len ..), fun t => ?_, ?_⟩
    · rw [y2 t]
      by_cases c1 : a + (i + 1) ≤ t ∧ t < a + n
      · rw [if_pos c1, if_pos (by omega), r, if_neg (by omega), if_neg (by omega)]
      · rw [if_neg c1]
        by_cases c2 : b + (i + 1) ≤ t ∧ t < b + n
        · rw [if_pos c2, if_neg (by omega), if_pos (by omega), r, if_neg (by omega), if_neg (by omega)]
        · rw [if_neg c2, r t]
          by_cases c3 : b + i = t
          · rw [if_pos c3, if_neg (by omega), if_pos (by omega), show t - b + a = a + i by omega]
          · rw [if_neg c3]
            by_cases c4 : a + i = t
            · rw [if_pos c4, if_pos (by omega), show t - a + b = b + i by omega]
            · rw [if_neg c4, if_neg (by omega), if_neg (by omega)]
    · simp only [slices_swapRangeCmpFunc_impl_Route.l0]
      rw [if_pos (by omega), e1.out, e2.out, e3.out, if_pos (by omega), if_pos (by omega), if_pos (by omega), if_pos (by omega)]
      exact y3
theorem swr {a b n k : Nat} {x : List S29} (hab : a + n ≤ b) (hb : b + n ≤ x.length) (hl : x.length ≤ 1000) (hk : n < k) :
    ∃ y, y.length = x.length ∧ (∀ t : Nat, rd_T29 y t = if a ≤ t ∧ t < a + n then rd_T29 x ((t - a + b : Nat) : Int) else if b ≤ t ∧ t < b + n then rd_T29 x ((t - b + a : Nat) : Int) else rd_T29 x t) ∧ slices_swapRangeCmpFunc_impl_Route.f k x a b n = some y := by
  obtain ⟨y, y1, y2, y3⟩ := swr_loop a b n hab n k 0 x (by omega) hk hb hl
  exact ⟨y, y1, y2, y3⟩
/-- y is x with what stands from s to m and what stands from m to e changed over. -/
def Rot (x y : List S29) (s m e : Nat) : Prop := y.length = x.length ∧ ∀ t : Nat, rd_T29 y t = if s ≤ t ∧ t < s + (e - m) then rd_T29 x ((t + (m - s) : Nat) : Int) else if s + (e - m) ≤ t ∧ t < e then rd_T29 x ((t - (e - m) : Nat) : Int) else rd_T29 x t
theorem rot_loop (m : Nat) : ∀ (N k i j : Nat) (x : List S29), i + j ≤ N → 1 ≤ i → 1 ≤ j → i ≤ m → m + j ≤ x.length → x.length ≤ 1000 → 2 * N + 1 < k →
    ∃ y, Rot x y (m - i) m (m + j) ∧ slices_rotateCmpFunc_impl_Route.l0 k x m i j = some y := by
  intro N
  induction N with
  | zero => intro k i j x h1 h2; omega
  | succ N ih =>
    intro k i j x hN hi hj him hml hl hk
    obtain ⟨k, rfl⟩ : ∃ m, k = m + 1 := ⟨k - 1, by omega⟩
    have e1 := Aside0.mk (show wrap64 ((m : Int) - (i : Int)) = ((m - i : Nat) : Int) from by rw [w64 (by omega) (by omega)]; omega)
    simp only [slices_rotateCmpFunc_impl_Route.l0]
    rw [e1.out]
    by_cases c1 : i = j
    · subst c1
      rw [if_pos rfl]
      obtain ⟨y, y1, y2, y3⟩ := swr (a := m - i) (b := m) (n := i) (k := k) (x := x) (by omega) (by omega) hl (by omega)
      refine ⟨y, ⟨y1, fun t => ?_⟩, by rw [y3]; rfl⟩
      rw [y2 t]
      by_cases c2 : m - i ≤ t ∧ t < m - i + i
      · rw [if_pos c2, if_pos (by omega), show t - (m - i) + m = t + (m - (m - i)) by omega]
      · rw [if_neg c2]
        by_cases c3 : m ≤ t ∧ t < m + i
        · rw [if_pos c3, if_neg (by omega), if_pos (by omega), show t - m + (m - i) = t - (m + i - m) by omega]
        · rw [if_neg c3, if_neg (by omega), if_neg (by omega)]
    · rw [if_neg (by omega)]
      by_cases c2 : i > j
      · rw [if_pos (by omega)]
        obtain ⟨y, y1, y2, y3⟩ := swr (a := m - i) (b := m) (n := j) (k := k) (x := x) (by omega) (by omega) hl (by omega)
        obtain ⟨z, ⟨z1, z2⟩, z3⟩ := ih k (i - j) j y (by omega) (by omega) hj (by omega) (by omega) (by omega) (by omega)
        have e2 := Aside0.mk (show wrap64 ((i : Int) - (j : Int)) = ((i - j : Nat) : Int) from by rw [w64 (by omega) (by omega)]; omega)
        refine ⟨z, ⟨z1.trans y1, fun t => ?_⟩, by rw [y3, e2.out]; exact z3⟩
        rw [z2 t]
        by_cases d1 : m - (i - j) ≤ t ∧ t < m - (i - j) + (m + j - m)
        · rw [if_pos d1, y2, if_neg (by omega), if_pos (by omega), if_neg (by omega), if_pos (by omega)]
          congr 2; omega
        · rw [if_neg d1]
          by_cases d2 : m - (i - j) + (m + j - m) ≤ t ∧ t < m + j
          · rw [if_pos d2, y2, if_neg (by omega), if_neg (by omega), if_neg (by omega), if_pos (by omega)]
          · rw [if_neg d2, y2]
            by_cases d3 : m - i ≤ t ∧ t < m - i + j
            · rw [if_pos d3, if_pos (by omega)]
              congr 2; omega
            · rw [if_neg d3, if_neg (by omega), if_neg (by omega), if_neg (by omega)]
      · rw [if_neg (by omega)]
        have e3 := Aside0.mk (show wrap64 (wrap64 ((m : Int) + (j : Int)) - (i : Int)) = ((m + j - i : Nat) : Int) from by rw [w64 (n := (m : Int) + j) (by omega) (by omega), w64 (by omega) (by omega)]; omega)
        obtain ⟨y, y1, y2, y3⟩ := swr (a := m - i) (b := m + j - i) (n := i) (k := k) (x := x) (by omega) (by omega) hl (by omega)
        obtain ⟨z, ⟨z1, z2⟩, z3⟩ := ih k i (j - i) y (by omega) hi (by omega) him (by omega) (by omega) (by omega)
        have e2 := Aside0.mk (show wrap64 ((j : Int) - (i : Int)) = ((j - i : Nat) : Int) from by rw [w64 (by omega) (by omega)]; omega)
        refine ⟨z, ⟨z1.trans y1, fun t => ?_⟩, by rw [e3.out, y3, e2.out]; exact z3⟩
        rw [z2 t]
        by_cases d1 : m - i ≤ t ∧ t < m - i + (m + (j - i) - m)
        · rw [if_pos d1, y2, if_neg (by omega), if_neg (by omega), if_pos (by omega)]
        · rw [if_neg d1]
          by_cases d2 : m - i + (m + (j - i) - m) ≤ t ∧ t < m + (j - i)
          · rw [if_pos d2, y2, if_pos (by omega), if_pos (by omega)]
            congr 2; omega
          · rw [if_neg d2, y2, if_neg (by omega)]
            by_cases d3 : m + j - i ≤ t ∧ t < m + j - i + i
            · rw [if_pos d3, if_neg (by omega), if_pos (by omega)]
              congr 2; omega
            · rw [if_neg d3, if_neg (by omega), if_neg (by omega)]
theorem rot {s m e k : Nat} {x : List S29} (h1 : s < m) (h2 : m < e) (he : e ≤ x.length) (hl : x.length ≤ 1000) (hk : 2 * (e - s) + 1 < k) :
    ∃ y, Rot x y s m e ∧ slices_rotateCmpFunc_impl_Route.f k x s m e = some y := by
  have e1 := Aside0.mk (show wrap64 ((m : Int) - (s : Int)) = ((m - s : Nat) : Int) from by rw [w64 (by omega) (by omega)]; omega)
  have e2 := Aside0.mk (show wrap64 ((e : Int) - (m : Int)) = ((e - m : Nat) : Int) from by rw [w64 (by omega) (by omega)]; omega)
  obtain ⟨y, y1, y2⟩ := rot_loop m (e - s) k (m - s) (e - m) x (by omega) (by omega) (by omega) (by omega) (by omega) hl hk
  rw [show m - (m - s) = s by omega, show m + (e - m) = e by omega] at y1
  refine ⟨y, y1, ?_⟩
  unfold slices_rotateCmpFunc_impl_Route.f
  rw [e1.out, e2.out]
  exact y2
theorem Rot.mix {x y : List S29} {s m e : Nat} (h : Rot x y s m e) (h1 : s ≤ m) (h2 : m ≤ e) : Mix x y s e := by
  refine ⟨h.1, fun t ht => ?_, fun t t1 t2 => ?_, fun t t1 t2 => ?_⟩
  · rw [h.2 t, if_neg (by omega), if_neg (by omega)]
  · rw [h.2 t]
    by_cases c : s ≤ t ∧ t < s + (e - m)
    · rw [if_pos c]; exact ⟨t + (m - s), by omega, by omega, rfl⟩
    · rw [if_neg c, if_pos (by omega)]; exact ⟨t - (e - m), by omega, by omega, rfl⟩
  · by_cases c : t < m
    · refine ⟨t + (e - m), by omega, by omega, ?_⟩
      rw [h.2, if_neg (by omega), if_pos (by omega), show t + (e - m) - (e - m) = t by omega]
    · refine ⟨t - (m - s), by omega, by omega, ?_⟩
      rw [h.2, if_pos (by omega), show t - (m - s) + (m - s) = t by omega]
theorem u64n {n : Int} (h0 : 0 ≤ n) (h1 : n < 18446744073709551616) : IntKind.u64.wrap n = n := by
  have e : IntKind.u64.wrap n = n % 18446744073709551616 := rfl
  rw [e]; omega
theorem mid_ {i j : Nat} (h : i + j ≤ 4000) : wrap64 ((IntKind.u64.wrap (wrap64 ((i : Int) + (j : Int)))) / 2) = (((i + j) / 2 : Nat) : Int) := by
  rw [w64 (n := (i : Int) + j) (by omega) (by omega), u64n (by omega) (by omega), w64 (by omega) (by omega)]
  omega
theorem bs0 {x : List S29} (a m b : Nat) (ha : a < m) (hb : b ≤ x.length) (hB : Bd x) (hS : Srt x m b) : ∀ (N k i j : Nat), j - i ≤ N → m ≤ i → i ≤ j → j ≤ b → N + 1 < k →
    (∀ t : Nat, m ≤ t → t < i → Kl x t < Kl x a) → (∀ t : Nat, j ≤ t → t < b → Kl x a ≤ Kl x t) →
    ∃ i' k', k ≤ k' + N + 1 ∧ m ≤ i' ∧ i' ≤ b ∧ (∀ t : Nat, m ≤ t → t < i' → Kl x t < Kl x a) ∧ (∀ t : Nat, i' ≤ t → t < b → Kl x a ≤ Kl x t) ∧ slices_symMergeCmpFunc_impl_Route.l0 k x a i j = slices_symMergeCmpFunc_impl_Route.l1 k' x i' a := by
  intro N
  induction N with
  | zero =>
    intro k i j h1 h2 h3 h4 hk p q
    obtain ⟨k, rfl⟩ : ∃ m, k = m + 1 := ⟨k - 1, by omega⟩
    obtain rfl : i = j := by omega
    refine ⟨i, k, by omega, h2, h4, p, q, ?_⟩
    simp only [slices_symMergeCmpFunc_impl_Route.l0]
    rw [if_neg (by omega)]
  | succ N ih =>
    intro k i j h1 h2 h3 h4 hk p q
    obtain ⟨k, rfl⟩ : ∃ m, k = m + 1 := ⟨k - 1, by omega⟩
    have hl := hB.1
    by_cases c : i < j
    · obtain ⟨h, hh⟩ : ∃ h, h = (i + j) / 2 := ⟨_, rfl⟩
      have k1 := hB.2 a (by omega)
      have k2 := hB.2 h (by omega)
      have e1 := Aside0.mk (show wrap64 ((h : Int) + 1) = ((h + 1 : Nat) : Int) from by rw [w64 (by omega) (by omega)]; omega)
      simp only [slices_symMergeCmpFunc_impl_Route.l0]
      rw [if_pos (by omega), mid_ (by omega), ← hh, if_pos (by omega), if_pos (by omega), if_pos (by omega), if_pos (by omega), cmp_R (by unfold Kl at k1 k2; omega) (by unfold Kl at k1 k2; omega)]
      simp only [Option.bind_some]
      by_cases d : Kl x h < Kl x a
      · rw [if_pos (by unfold Kl at d; omega), e1.out]
        obtain ⟨i', k', r1, r2, r3, r4, r5, r6⟩ := ih k (h + 1) j (by omega) (by omega) (by omega) h4 (by omega) (fun t t1 t2 => by
          have := hS.le t1 (show t ≤ h by omega) (by omega)
          omega) q
        exact ⟨i', k', by omega, r2, r3, r4, r5, r6⟩
      · rw [if_neg (by unfold Kl at d; omega)]
        obtain ⟨i', k', r1, r2, r3, r4, r5, r6⟩ := ih k i h (by omega) h2 (by omega) (by omega) (by omega) p (fun t t1 t2 => by
          have := hS.le (show m ≤ h by omega) t1 t2
          omega)
        exact ⟨i', k', by omega, r2, r3, r4, r5, r6⟩
    · obtain rfl : i = j := by omega
      refine ⟨i, k, by omega, h2, h4, p, q, ?_⟩
      simp only [slices_symMergeCmpFunc_impl_Route.l0]
      rw [if_neg (by omega)]
theorem bub0 (i : Nat) : ∀ (d k c : Nat) (x : List S29), c + 1 + d = i → i ≤ x.length → x.length ≤ 1000 → d < k →
    ∃ y, y.length = x.length ∧ (∀ t : Nat, rd_T29 y t = if c ≤ t ∧ t + 1 < i then rd_T29 x ((t + 1 : Nat) : Int) else if t + 1 = i then rd_T29 x (c : Nat) else rd_T29 x t) ∧ slices_symMergeCmpFunc_impl_Route.l1 k x i c = some y := by
  intro d
  induction d with
  | zero =>
    intro k c x hc hi hl hk
    obtain ⟨k, rfl⟩ : ∃ m, k = m + 1 := ⟨k - 1, by omega⟩
    refine ⟨x, rfl, fun t => ?_, ?_⟩
    · rw [if_neg (by omega)]
      by_cases e : t + 1 = i
      · rw [if_pos e, show t = c by omega]
      · rw [if_neg e]
    · simp only [slices_symMergeCmpFunc_impl_Route.l1]
      rw [w64 (n := (i : Int) - 1) (by omega) (by omega), if_neg (by omega)]
  | succ d ih =>
    intro k c x hc hi hl hk
    obtain ⟨k, rfl⟩ : ∃ m, k = m + 1 := ⟨k - 1, by omega⟩
    have e1 := Aside0.mk (show wrap64 ((c : Int) + 1) = ((c + 1 : Nat) : Int) from by rw [w64 (by omega) (by omega)]; omega)
    have r := rd_sw (x := x) (i := c) (j := c + 1) (by omega) (by omega)
    obtain ⟨y, y1, y2, y3⟩ := ih k (c + 1) (sw x c (c + 1)) (by omega) (by rw [sw_len]; exact hi) (by rw [sw_len]; exact hl) (by omega)
    refine ⟨y, y1.trans (sw_len ..), fun t => ?_, ?_⟩
    · rw [y2 t]
      by_cases d1 : c + 1 ≤ t ∧ t + 1 < i
      · rw [if_pos d1, if_pos (by omega), r, if_neg (by omega), if_neg (by omega)]
      · rw [if_neg d1]
        by_cases d2 : t + 1 = i
        · rw [if_pos d2, if_neg (by omega), if_pos d2, r, if_pos rfl]
        · rw [if_neg d2, r t, if_neg (by omega : ¬ c + 1 = t)]
          by_cases d3 : c = t
          · rw [if_pos d3, if_pos (by omega), d3]
          · rw [if_neg d3, if_neg (by omega), if_neg d2]
    · simp only [slices_symMergeCmpFunc_impl_Route.l1]
      rw [w64 (n := (i : Int) - 1) (by omega) (by omega), if_pos (by omega), e1.out, if_pos (by omega), if_pos (by omega), if_pos (by omega), if_pos (by omega)]
      exact y3
theorem merge1 {x : List S29} {a b k : Nat} (hab : a + 1 < b) (hb : b ≤ x.length) (hB : Bd x) (hS : Srt x (a + 1) b) (hk : 2 * (b - a) + 4 < k) :
    ∃ y, Mix x y a b ∧ Srt y a b ∧ slices_symMergeCmpFunc_impl_Route.l0 k x a ((a + 1 : Nat) : Int) b = some y := by
  obtain ⟨i, k', r1, r2, r3, r4, r5, r6⟩ := bs0 a (a + 1) b (by omega) hb hB hS (b - a) k (a + 1) b (by omega) (Nat.le_refl _) (by omega) (Nat.le_refl _) (by omega) (fun t t1 t2 => by omega) (fun t t1 t2 => by omega)
  obtain ⟨y, y1, y2, y3⟩ := bub0 i (i - (a + 1)) k' a x (by omega) (by omega) hB.1 (by omega)
  refine ⟨y, ⟨y1, fun t ht => ?_, fun t t1 t2 => ?_, fun t t1 t2 => ?_⟩, fun p q h1 h2 h3 => ?_, by rw [r6, y3]⟩
  · rw [y2 t, if_neg (by omega), if_neg (by omega)]
  · rw [y2 t]
    by_cases c : a ≤ t ∧ t + 1 < i
    · rw [if_pos c]; exact ⟨t + 1, by omega, by omega, rfl⟩
    · rw [if_neg c]
      by_cases c2 : t + 1 = i
      · rw [if_pos c2]; exact ⟨a, by omega, by omega, rfl⟩
      · rw [if_neg c2]; exact ⟨t, by omega, by omega, rfl⟩
  · by_cases c : t = a
    · refine ⟨i - 1, by omega, by omega, ?_⟩
      rw [y2, if_neg (by omega), if_pos (by omega), c]
    · by_cases c2 : t < i
      · refine ⟨t - 1, by omega, by omega, ?_⟩
        rw [y2, if_pos (by omega), show t - 1 + 1 = t by omega]
      · refine ⟨t, by omega, by omega, ?_⟩
        rw [y2, if_neg (by omega), if_neg (by omega)]
  · have kp : Kl y p = if a ≤ p ∧ p + 1 < i then Kl x (p + 1) else if p + 1 = i then Kl x a else Kl x p := by
      unfold Kl; rw [y2 p]; split; rfl; split <;> rfl
    have kq : Kl y q = if a ≤ q ∧ q + 1 < i then Kl x (q + 1) else if q + 1 = i then Kl x a else Kl x q := by
      unfold Kl; rw [y2 q]; split; rfl; split <;> rfl
    rw [kp, kq]
    by_cases c : a ≤ p ∧ p + 1 < i
    · rw [if_pos c]
      by_cases d : a ≤ q ∧ q + 1 < i
      · rw [if_pos d]; exact hS.le (by omega) (by omega) (by omega)
      · rw [if_neg d]
        by_cases d2 : q + 1 = i
        · rw [if_pos d2]; have := r4 (p + 1) (by omega) (by omega); omega
        · rw [if_neg d2]; exact hS.le (by omega) (by omega) (by omega)
    · rw [if_neg c, if_neg (by omega : ¬ (a ≤ q ∧ q + 1 < i))]
      by_cases c2 : p + 1 = i
      · rw [if_pos c2, if_neg (by omega)]; exact r5 q (by omega) (by omega)
      · rw [if_neg c2, if_neg (by omega)]; exact hS.le (by omega) (by omega) (by omega)
theorem bs2 {x : List S29} (a m : Nat) (hm : m < x.length) (hB : Bd x) (hS : Srt x a m) : ∀ (N k i j : Nat), j - i ≤ N → a ≤ i → i ≤ j → j ≤ m → N + 1 < k →
    (∀ t : Nat, a ≤ t → t < i → Kl x t ≤ Kl x m) → (∀ t : Nat, j ≤ t → t < m → Kl x m < Kl x t) →
    ∃ i' k', k ≤ k' + N + 1 ∧ a ≤ i' ∧ i' ≤ m ∧ (∀ t : Nat, a ≤ t → t < i' → Kl x t ≤ Kl x m) ∧ (∀ t : Nat, i' ≤ t → t < m → Kl x m < Kl x t) ∧ slices_symMergeCmpFunc_impl_Route.l2 k x m i j = slices_symMergeCmpFunc_impl_Route.l3 k' x i' m := by
  intro N
  induction N with
  | zero =>
    intro k i j h1 h2 h3 h4 hk p q
    obtain ⟨k, rfl⟩ : ∃ m, k = m + 1 := ⟨k - 1, by omega⟩
    obtain rfl : i = j := by omega
    refine ⟨i, k, by omega, h2, h4, p, q, ?_⟩
    simp only [slices_symMergeCmpFunc_impl_Route.l2]
    rw [if_neg (by omega)]
  | succ N ih =>
    intro k i j h1 h2 h3 h4 hk p q
    obtain ⟨k, rfl⟩ : ∃ m, k = m + 1 := ⟨k - 1, by omega⟩
    have hl := hB.1
    by_cases c : i < j
    · obtain ⟨h, hh⟩ : ∃ h, h = (i + j) / 2 := ⟨_, rfl⟩
      have k1 := hB.2 m (by omega)
      have k2 := hB.2 h (by omega)
      have e1 := Aside0.mk (show wrap64 ((h : Int) + 1) = ((h + 1 : Nat) : Int) from by rw [w64 (by omega) (by omega)]; omega)
      simp only [slices_symMergeCmpFunc_impl_Route.l2]
      rw [if_pos (by omega), mid_ (by omega), ← hh, if_pos (by omega), if_pos (by omega), if_pos (by omega), if_pos (by omega), cmp_R (by unfold Kl at k1 k2; omega) (by unfold Kl at k1 k2; omega)]
      simp only [Option.bind_some]
      by_cases d : Kl x m < Kl x h
      · rw [if_pos (by unfold Kl at d; omega)]
        obtain ⟨i', k', r1, r2, r3, r4, r5, r6⟩ := ih k i h (by omega) h2 (by omega) (by omega) (by omega) p (fun t t1 t2 => by
          have := hS.le (show a ≤ h by omega) t1 t2
          omega)
        exact ⟨i', k', by omega, r2, r3, r4, r5, r6⟩
      · rw [if_neg (by unfold Kl at d; omega), e1.out]
        obtain ⟨i', k', r1, r2, r3, r4, r5, r6⟩ := ih k (h + 1) j (by omega) (by omega) (by omega) h4 (by omega) (fun t t1 t2 => by
          have := hS.le t1 (show t ≤ h by omega) (by omega)
          omega) q
        exact ⟨i', k', by omega, r2, r3, r4, r5, r6⟩
    · obtain rfl : i = j := by omega
      refine ⟨i, k, by omega, h2, h4, p, q, ?_⟩
      simp only [slices_symMergeCmpFunc_impl_Route.l2]
      rw [if_neg (by omega)]
theorem bub2 (i : Nat) : ∀ (d k c : Nat) (x : List S29), i + d = c → c < x.length → x.length ≤ 1000 → d < k →
    ∃ y, y.length = x.length ∧ (∀ t : Nat, rd_T29 y t = if i < t ∧ t ≤ c then rd_T29 x ((t - 1 : Nat) : Int) else if t = i then rd_T29 x (c : Nat) else rd_T29 x t) ∧ slices_symMergeCmpFunc_impl_Route.l3 k x i c = some y := by
  intro d
  induction d with
  | zero =>
    intro k c x hc hi hl hk
    obtain ⟨k, rfl⟩ : ∃ m, k = m + 1 := ⟨k - 1, by omega⟩
    refine ⟨x, rfl, fun t => ?_, ?_⟩
    · rw [if_neg (by omega)]
      by_cases e : t = i
      · rw [if_pos e, show t = c by omega]
      · rw [if_neg e]
    · simp only [slices_symMergeCmpFunc_impl_Route.l3]
      rw [if_neg (by omega)]
  | succ d ih =>
    intro k c x hc hi hl hk
    obtain ⟨k, rfl⟩ : ∃ m, k = m + 1 := ⟨k - 1, by omega⟩
    obtain ⟨c, rfl⟩ : ∃ m, c = m + 1 := ⟨c - 1, by omega⟩
    have e1 := Aside0.mk (show wrap64 (((c + 1 : Nat) : Int) - 1) = (c : Int) from by rw [w64 (by omega) (by omega)]; omega)
    have r := rd_sw (x := x) (i := c + 1) (j := c) (by omega) (by omega)
    obtain ⟨y, y1, y2, y3⟩ := ih k c (sw x (c + 1) c) (by omega) (by rw [sw_len]; omega) (by rw [sw_len]; exact hl) (by omega)
    refine ⟨y, y1.trans (sw_len ..), fun t => ?_, ?_⟩
    · rw [y2 t]
      by_cases d1 : i < t ∧ t ≤ c
      · rw [if_pos d1, if_pos (by omega), r, if_neg (by omega), if_neg (by omega)]
      · rw [if_neg d1]
        by_cases d2 : t = i
        · rw [if_pos d2, if_neg (by omega), if_pos d2, r, if_pos rfl]
        · rw [if_neg d2, r t, if_neg (by omega : ¬ c = t)]
          by_cases d3 : c + 1 = t
          · rw [if_pos d3, if_pos (by omega), show t - 1 = c by omega]
          · rw [if_neg d3, if_neg (by omega), if_neg d2]
    · simp only [slices_symMergeCmpFunc_impl_Route.l3]
      rw [if_pos (by omega), e1.out, if_pos (by omega), if_pos (by omega), if_pos (by omega), if_pos (by omega)]
      exact y3
theorem merge2 {x : List S29} {a m k : Nat} (ham : a < m) (hb : m + 1 ≤ x.length) (hB : Bd x) (hS : Srt x a m) (hk : 2 * (m - a) + 6 < k) :
    ∃ y, Mix x y a (m + 1) ∧ Srt y a (m + 1) ∧ slices_symMergeCmpFunc_impl_Route.l2 k x m a m = some y := by
  obtain ⟨i, k', r1, r2, r3, r4, r5, r6⟩ := bs2 a m (by omega) hB hS (m - a) k a m (by omega) (Nat.le_refl _) (by omega) (Nat.le_refl _) (by omega) (fun t t1 t2 => by omega) (fun t t1 t2 => by omega)
  obtain ⟨y, y1, y2, y3⟩ := bub2 i (m - i) k' m x (by omega) (by omega) hB.1 (by omega)
  refine ⟨y, ⟨y1, fun t ht => ?_, fun t t1 t2 => ?_, fun t t1 t2 => ?_⟩, fun p q h1 h2 h3 => ?_, by rw [r6, y3]⟩
  · rw [y2 t, if_neg (by omega), if_neg (by omega)]
  · rw [y2 t]
    by_cases c : i < t ∧ t ≤ m
    · rw [if_pos c]; exact ⟨t - 1, by omega, by omega, rfl⟩
    · rw [if_neg c]
      by_cases c2 : t = i
      · rw [if_pos c2]; exact ⟨m, by omega, by omega, rfl⟩
      · rw [if_neg c2]; exact ⟨t, by omega, by omega, rfl⟩
  · by_cases c : t = m
    · refine ⟨i, by omega, by omega, ?_⟩
      rw [y2, if_neg (by omega), if_pos rfl, c]
    · by_cases c2 : i ≤ t
      · refine ⟨t + 1, by omega, by omega, ?_⟩
        rw [y2, if_pos (by omega), show t + 1 - 1 = t by omega]
      · refine ⟨t, by omega, by omega, ?_⟩
        rw [y2, if_neg (by omega), if_neg (by omega)]
  · have kp : Kl y p = if i < p ∧ p ≤ m then Kl x (p - 1) else if p = i then Kl x m else Kl x p := by
      unfold Kl; rw [y2 p]; split; rfl; split <;> rfl
    have kq : Kl y q = if i < q ∧ q ≤ m then Kl x (q - 1) else if q = i then Kl x m else Kl x q := by
      unfold Kl; rw [y2 q]; split; rfl; split <;> rfl
    rw [kp, kq]
    by_cases c : i < p ∧ p ≤ m
    · rw [if_pos c, if_pos (by omega)]; exact hS.le (by omega) (by omega) (by omega)
    · rw [if_neg c]
      by_cases c2 : p = i
      · rw [if_pos c2, if_pos (by omega)]; have := r5 (q - 1) (by omega) (by omega); omega
      · rw [if_neg c2]
        by_cases d : i < q ∧ q ≤ m
        · rw [if_pos d]; exact hS.le (by omega) (by omega) (by omega)
        · rw [if_neg d]
          by_cases d2 : q = i
          · rw [if_pos d2]; exact r4 p (by omega) (by omega)
          · rw [if_neg d2]; exact hS.le (by omega) (by omega) (by omega)
/-- The search in two halves at once: the last row of what is asked of start. -/
theorem bs4 {x : List S29} (a m b md nn : Nat) (hm : a < m ∧ m < b) (hb : b ≤ x.length) (hB : Bd x) (hmd : md = (a + b) / 2) (hnn : nn = md + m) (hS1 : Srt x a m) (hS2 : Srt x m b) (s0 r0 : Nat)
    (h0 : (m > md ∧ s0 = nn - b ∧ r0 = md) ∨ (m ≤ md ∧ s0 = a ∧ r0 = m)) : ∀ (N k s r : Nat), r - s ≤ N → s0 ≤ s → s ≤ r → r ≤ r0 → N + 1 < k →
    (∀ t : Nat, s0 ≤ t → t < s → Kl x t ≤ Kl x (nn - 1 - t)) → (∀ t : Nat, r ≤ t → t < r0 → Kl x (nn - 1 - t) < Kl x t) →
    ∃ s' k', k ≤ k' + N + 1 ∧ s0 ≤ s' ∧ s' ≤ r0 ∧ (∀ t : Nat, s0 ≤ t → t < s' → Kl x t ≤ Kl x (nn - 1 - t)) ∧ (∀ t : Nat, s' ≤ t → t < r0 → Kl x (nn - 1 - t) < Kl x t) ∧
      slices_symMergeCmpFunc_impl_Route.l4 k x a m b md nn s r ((nn - 1 : Nat) : Int) = slices_symMergeCmpFunc_impl_Route.j6 k' x a m b md s' ((nn - s' : Nat) : Int) (decide (s' < m ∧ m < nn - s')) := by
  have hl := hB.1
  have hlow : a ≤ s0 ∧ r0 ≤ m ∧ r0 ≤ md ∧ m ≤ nn - r0 ∧ nn - s0 ≤ b ∧ s0 ≤ r0 := by rcases h0 with ⟨q1, q2, q3⟩ | ⟨q1, q2, q3⟩ <;> omega
  have fin : ∀ (k s : Nat), s0 ≤ s → s ≤ r0 → slices_symMergeCmpFunc_impl_Route.l4 (k + 1) x a m b md nn s s ((nn - 1 : Nat) : Int) = slices_symMergeCmpFunc_impl_Route.j6 k x a m b md s ((nn - s : Nat) : Int) (decide (s < m ∧ m < nn - s)) := by
    intro k s h1 h2
    have e1 := Aside0.mk (show wrap64 ((nn : Int) - (s : Int)) = ((nn - s : Nat) : Int) from by rw [w64 (by omega) (by omega)]; omega)
    simp only [slices_symMergeCmpFunc_impl_Route.l4]
    rw [if_neg (by omega), e1.out]
    by_cases c : s < m
    · rw [if_pos (by omega)]
      congr 1
      rw [decide_eq_decide]; omega
    · rw [if_neg (by omega), decide_eq_false (by omega)]
  intro N
  induction N with
  | zero =>
    intro k s r h1 h2 h3 h4 hk p q
    obtain ⟨k, rfl⟩ : ∃ m, k = m + 1 := ⟨k - 1, by omega⟩
    obtain rfl : s = r := by omega
    exact ⟨s, k, by omega, h2, h4, p, q, fin k s h2 h4⟩
  | succ N ih =>
    intro k s r h1 h2 h3 h4 hk p q
    obtain ⟨k, rfl⟩ : ∃ m, k = m + 1 := ⟨k - 1, by omega⟩
    by_cases c : s < r
    · obtain ⟨h, hh⟩ : ∃ h, h = (s + r) / 2 := ⟨_, rfl⟩
      have k1 := hB.2 (nn - 1 - h) (by omega)
      have k2 := hB.2 h (by omega)
      have e1 := Aside0.mk (show wrap64 ((h : Int) + 1) = ((h + 1 : Nat) : Int) from by rw [w64 (by omega) (by omega)]; omega)
      have e2 := Aside0.mk (show wrap64 (((nn - 1 : Nat) : Int) - (h : Int)) = ((nn - 1 - h : Nat) : Int) from by rw [w64 (by omega) (by omega)]; omega)
      simp only [slices_symMergeCmpFunc_impl_Route.l4]
      rw [if_pos (by omega), mid_ (by omega), ← hh, e2.out, if_pos (by omega), if_pos (by omega), if_pos (by omega), if_pos (by omega), cmp_R (by unfold Kl at k1 k2; omega) (by unfold Kl at k1 k2; omega)]
      simp only [Option.bind_some]
      by_cases d : Kl x (nn - 1 - h) < Kl x h
      · rw [if_pos (by unfold Kl at d; omega)]
        obtain ⟨s', k', r1, r2, r3, r4, r5, r6⟩ := ih k s h (by omega) h2 (by omega) (by omega) (by omega) p (fun t t1 t2 => by
          have g1 := hS1.le (show a ≤ h by omega) t1 (by omega)
          have g2 := hS2.le (show m ≤ nn - 1 - t by omega) (show nn - 1 - t ≤ nn - 1 - h by omega) (by omega)
          omega)
        exact ⟨s', k', by omega, r2, r3, r4, r5, r6⟩
      · rw [if_neg (by unfold Kl at d; omega), e1.out]
        obtain ⟨s', k', r1, r2, r3, r4, r5, r6⟩ := ih k (h + 1) r (by omega) (by omega) (by omega) h4 (by omega) (fun t t1 t2 => by
          have g1 := hS1.le (show a ≤ t by omega) (show t ≤ h by omega) (by omega)
          have g2 := hS2.le (show m ≤ nn - 1 - h by omega) (show nn - 1 - h ≤ nn - 1 - t by omega) (by omega)
          omega) q
        exact ⟨s', k', by omega, r2, r3, r4, r5, r6⟩
    · obtain rfl : s = r := by omega
      exact ⟨s, k, by omega, h2, h4, p, q, fin k s h2 h4⟩
theorem Rot.same {x : List S29} {s m e : Nat} (h : s = m ∨ m = e) (h1 : s ≤ m) (h2 : m ≤ e) : Rot x x s m e := by
  refine ⟨rfl, fun t => ?_⟩
  by_cases c : s ≤ t ∧ t < s + (e - m)
  · rw [if_pos c, show t + (m - s) = t by omega]
  · rw [if_neg c]
    by_cases c2 : s + (e - m) ≤ t ∧ t < e
    · rw [if_pos c2, show t - (e - m) = t by omega]
    · rw [if_neg c2]
theorem symM : ∀ (N k a m b : Nat) (x : List S29), b - a ≤ N → a < m → m < b → b ≤ x.length → Bd x → (N + 8) * (N + 8) < k → Srt x a m → Srt x m b →
    ∃ y, Mix x y a b ∧ Srt y a b ∧ slices_symMergeCmpFunc_impl_Route.f k x a m b = some y := by
  intro N
  induction N with
  | zero => intro k a m b x h1 h2 h3; omega
  | succ N ih =>
    intro k a m b x h1 h2 h3 hb hB hk hS1 hS2
    have hl := hB.1
    have hk1 : N * N + 18 * N + 81 < k := by
      have e : (N + 1 + 8) * (N + 1 + 8) = N * N + 18 * N + 81 := by simp only [Nat.add_mul, Nat.mul_add]; omega
      omega
    have hk0 : (N + 8) * (N + 8) = N * N + 16 * N + 64 := by simp only [Nat.add_mul, Nat.mul_add]; omega
    obtain ⟨k, rfl⟩ : ∃ m, k = m + 1 := ⟨k - 1, by omega⟩
    have e1 := Aside0.mk (show wrap64 ((m : Int) - (a : Int)) = ((m - a : Nat) : Int) from by rw [w64 (by omega) (by omega)]; omega)
    have e2 := Aside0.mk (show wrap64 ((b : Int) - (m : Int)) = ((b - m : Nat) : Int) from by rw [w64 (by omega) (by omega)]; omega)
    simp only [slices_symMergeCmpFunc_impl_Route.f]
    rw [e1.out, e2.out]
    by_cases c1 : m = a + 1
    · rw [if_pos (by omega)]
      subst c1
      obtain ⟨y, y1, y2, y3⟩ := merge1 (k := k) h3 hb hB hS2 (by omega)
      exact ⟨y, y1, y2, y3⟩
    · rw [if_neg (by omega)]
      by_cases c2 : b = m + 1
      · rw [if_pos (by omega)]
        subst c2
        obtain ⟨y, y1, y2, y3⟩ := merge2 (k := k) h2 hb hB hS1 (by omega)
        exact ⟨y, y1, y2, y3⟩
      · rw [if_neg (by omega), mid_ (by omega)]
        obtain ⟨md, hmd⟩ : ∃ md, md = (a + b) / 2 := ⟨_, rfl⟩
        obtain ⟨nn, hnn⟩ : ∃ nn, nn = md + m := ⟨_, rfl⟩
        have e3 := Aside0.mk (show wrap64 ((md : Int) + (m : Int)) = (nn : Int) from by rw [w64 (by omega) (by omega)]; omega)
        have e4 := Aside0.mk (show wrap64 ((nn : Int) - 1) = ((nn - 1 : Nat) : Int) from by rw [w64 (by omega) (by omega)]; omega)
        rw [← hmd, e3.out]
        -- the search
        obtain ⟨s0, r0, h0, hsr, hgo⟩ : ∃ s0 r0 : Nat, ((m > md ∧ s0 = nn - b ∧ r0 = md) ∨ (m ≤ md ∧ s0 = a ∧ r0 = m)) ∧ s0 ≤ r0 ∧ (if (m : Int) > (md : Int) then slices_symMergeCmpFunc_impl_Route.j4 k x a m b md nn (wrap64 ((nn : Int) - (b : Int))) md else slices_symMergeCmpFunc_impl_Route.j4 k x a m b md nn a m) = slices_symMergeCmpFunc_impl_Route.j4 k x a m b md nn s0 r0 := by
          by_cases c3 : m > md
          · refine ⟨nn - b, md, .inl ⟨c3, rfl, rfl⟩, by omega, ?_⟩
            rw [if_pos (by omega), show wrap64 ((nn : Int) - (b : Int)) = ((nn - b : Nat) : Int) by rw [w64 (by omega) (by omega)]; omega]
          · refine ⟨a, m, .inr ⟨by omega, rfl, rfl⟩, by omega, ?_⟩
            rw [if_neg (by omega)]
        rw [hgo]
        obtain ⟨k, rfl⟩ : ∃ m, k = m + 1 := ⟨k - 1, by omega⟩
        simp only [slices_symMergeCmpFunc_impl_Route.j4]
        rw [e4.out]
        obtain ⟨s, k', q1, q2, q3, q4, q5, q6⟩ := bs4 a m b md nn ⟨h2, h3⟩ hb hB hmd hnn hS1 hS2 s0 r0 h0 (N + 1) k s0 r0 (by rcases h0 with ⟨g1, g2, g3⟩ | ⟨g1, g2, g3⟩ <;> omega) (Nat.le_refl _) hsr (Nat.le_refl _) (by omega) (fun t t1 t2 => by omega) (fun t t1 t2 => by omega)
        rw [q6]
        obtain ⟨e, he⟩ : ∃ e, e = nn - s := ⟨_, rfl⟩
        have hr : a ≤ s ∧ s ≤ m ∧ s ≤ md ∧ m ≤ e ∧ md ≤ e ∧ e ≤ b ∧ e - m = md - s := by rcases h0 with ⟨g1, g2, g3⟩ | ⟨g1, g2, g3⟩ <;> omega
        rw [← he]
        obtain ⟨k', rfl⟩ : ∃ m, k' = m + 4 := ⟨k' - 4, by omega⟩
        -- the two parts changed over
        obtain ⟨y, hy, hgo2⟩ : ∃ y, Rot x y s m e ∧ slices_symMergeCmpFunc_impl_Route.j6 (k' + 4) x a m b md s e (decide (s < m ∧ m < e)) = slices_symMergeCmpFunc_impl_Route.j7 (k' + 3) y a b md s e := by
          simp only [slices_symMergeCmpFunc_impl_Route.j6, decide_eq_true_eq]
          by_cases c4 : s < m ∧ m < e
          · obtain ⟨y, y1, y2⟩ := rot (k := k' + 3) c4.1 c4.2 (show e ≤ x.length by omega) hl (by omega)
            refine ⟨y, y1, ?_⟩
            rw [if_pos c4, y2]
            rfl
          · exact ⟨x, Rot.same (by omega) hr.2.1 hr.2.2.2.1, by rw [if_neg c4]⟩
        rw [hgo2]
        have hm1 : Mix x y a b := (hy.mix hr.2.1 hr.2.2.2.1).widen hr.1 hr.2.2.2.2.2.1
        have hBy := hB.mix hm1 hb
        have hyl := hm1.len
        have ky : ∀ t : Nat, Kl y t = if s ≤ t ∧ t < md then Kl x (t + (m - s)) else if md ≤ t ∧ t < e then Kl x (t - (e - m)) else Kl x t := by
          intro t
          unfold Kl
          rw [hy.2 t]
          by_cases d1 : s ≤ t ∧ t < md
          · rw [if_pos (by omega), if_pos d1]
          · rw [if_neg (by omega), if_neg d1]
            by_cases d2 : md ≤ t ∧ t < e
            · rw [if_pos (by omega), if_pos d2]
            · rw [if_neg (by omega), if_neg d2]
        have s1 : Srt y a s := fun p q g1 g2 g3 => by rw [ky, ky, if_neg (by omega), if_neg (by omega), if_neg (by omega), if_neg (by omega)]; exact hS1.le g1 (by omega) (by omega)
        have s2 : Srt y s md := fun p q g1 g2 g3 => by rw [ky, ky, if_pos (by omega), if_pos (by omega)]; exact hS2.le (by omega) (by omega) (by omega)
        have s3 : Srt y md e := fun p q g1 g2 g3 => by rw [ky, ky, if_neg (by omega), if_pos (by omega), if_neg (by omega), if_pos (by omega)]; exact hS1.le (by omega) (by omega) (by omega)
        have s4 : Srt y e b := fun p q g1 g2 g3 => by rw [ky, ky, if_neg (by omega), if_neg (by omega), if_neg (by omega), if_neg (by omega)]; exact hS2.le (by omega) (by omega) (by omega)
        have hlh : ∀ u v : Nat, a ≤ u → u < md → md ≤ v → v < b → Kl y u ≤ Kl y v := by
          intro u v u1 u2 v1 v2
          rw [ky u, ky v, if_neg (by omega : ¬ (s ≤ v ∧ v < md))]
          by_cases d1 : s ≤ u ∧ u < md
          · rw [if_pos d1]
            by_cases d2 : md ≤ v ∧ v < e
            · rw [if_pos d2]
              have g := q5 s (Nat.le_refl _) (by rcases h0 with ⟨g1, g2, g3⟩ | ⟨g1, g2, g3⟩ <;> omega)
              have g1 := hS2.le (show m ≤ u + (m - s) by omega) (show u + (m - s) ≤ nn - 1 - s by omega) (by omega)
              have g2 := hS1.le (show a ≤ s by omega) (show s ≤ v - (e - m) by omega) (by omega)
              omega
            · rw [if_neg d2]
              exact hS2.le (by omega) (by omega) (by omega)
          · rw [if_neg d1, if_neg (by omega : ¬ (md ≤ u ∧ u < e))]
            by_cases d2 : md ≤ v ∧ v < e
            · rw [if_pos d2]
              exact hS1.le (by omega) (by omega) (by omega)
            · rw [if_neg d2]
              have g := q4 (s - 1) (by rcases h0 with ⟨g1, g2, g3⟩ | ⟨g1, g2, g3⟩ <;> omega) (by omega)
              have g1 := hS1.le (show a ≤ u by omega) (show u ≤ s - 1 by omega) (by omega)
              have g2 := hS2.le (show m ≤ nn - 1 - (s - 1) by omega) (show nn - 1 - (s - 1) ≤ v by omega) (by omega)
              omega
        -- the left part
        obtain ⟨z, z1, z2, hgo3⟩ : ∃ z, Mix y z a md ∧ Srt z a md ∧ slices_symMergeCmpFunc_impl_Route.j7 (k' + 3) y a b md s e = (if (md : Int) < (e : Int) then (if (e : Int) < (b : Int) then ((slices_symMergeCmpFunc_impl_Route.f (k' + 1) z md e b).bind fun t => some t) else some z) else some z) := by
          simp only [slices_symMergeCmpFunc_impl_Route.j7]
          by_cases d1 : a < s ∧ s < md
          · obtain ⟨z, z1, z2, z3⟩ := ih (k' + 1) a s md y (by omega) d1.1 d1.2 (by omega) hBy (by omega) s1 s2
            refine ⟨z, z1, z2, ?_⟩
            rw [if_pos (by omega)]
            simp only [slices_symMergeCmpFunc_impl_Route.j8]
            rw [if_pos (decide_eq_true (by omega)), z3]
            rfl
          · refine ⟨y, Mix.refl .., ?_, ?_⟩
            · by_cases d2 : s = a
              · rw [d2] at s2; exact s2
              · have : s = md := by omega
                rw [this] at s1; exact s1
            · by_cases d2 : (a : Int) < (s : Int)
              · rw [if_pos d2]
                simp only [slices_symMergeCmpFunc_impl_Route.j8]
                rw [if_neg (by simp only [decide_eq_true_eq]; omega)]
              · rw [if_neg d2]
                simp only [slices_symMergeCmpFunc_impl_Route.j8]
                rw [if_neg (by decide)]
        rw [hgo3]
        have hBz := hBy.mix z1 (by omega)
        have hzl := z1.len
        -- the right part
        obtain ⟨w, w1, w2, hgo4⟩ : ∃ w, Mix z w md b ∧ Srt w md b ∧ (if (md : Int) < (e : Int) then (if (e : Int) < (b : Int) then ((slices_symMergeCmpFunc_impl_Route.f (k' + 1) z md e b).bind fun t => some t) else some z) else some z) = some w := by
          have t3 : Srt z md e := s3.mix z1 (by omega)
          have t4 : Srt z e b := s4.mix z1 (by omega)
          by_cases d1 : md < e ∧ e < b
          · obtain ⟨w, w1, w2, w3⟩ := ih (k' + 1) md e b z (by omega) d1.1 d1.2 (by omega) hBz (by omega) t3 t4
            exact ⟨w, w1, w2, by rw [if_pos (by omega), if_pos (by omega), w3]; rfl⟩
          · refine ⟨z, Mix.refl .., ?_, ?_⟩
            · by_cases d2 : e = b
              · rw [d2] at t3; exact t3
              · have : e = md := by omega
                rw [this] at t4; exact t4
            · by_cases d2 : (md : Int) < (e : Int)
              · rw [if_pos d2, if_neg (by omega)]
              · rw [if_neg d2]
        refine ⟨w, (hm1.trans (z1.widen (Nat.le_refl _) (by omega))).trans (w1.widen (by omega) (Nat.le_refl _)), fun p q g1 g2 g3 => ?_, hgo4⟩
        by_cases d1 : q < md
        · have : Srt w a md := z2.mix w1 (by omega)
          exact this p q g1 g2 d1
        · by_cases d2 : md ≤ p
          · exact w2 p q d2 g2 g3
          · -- one on the left, one on the right
            obtain ⟨p', p1, p2, p3⟩ := z1.fro p g1 (by omega)
            obtain ⟨q', q1', q2', q3'⟩ := w1.fro q (by omega) g3
            have g := hlh p' q' p1 p2 q1' q2'
            unfold Kl at g ⊢
            rw [w1.out p (by omega), p3, q3', z1.out q' (by omega)]
            exact g
/-- The blocks of bs that begin below e are sorted. -/
def Blk (x : List S29) (bs e : Nat) : Prop := ∀ q : Nat, q * bs < e → Srt x (q * bs) (if (q + 1) * bs ≤ x.length then (q + 1) * bs else x.length)
theorem ins_none {a k : Nat} {x : List S29} (hl : x.length ≤ 1000) (ha : a ≤ 1000) (hk : 0 < k) : slices_insertionSortCmpFunc_impl_Route.f k x a a = some x := by
  obtain ⟨k, rfl⟩ : ∃ m, k = m + 1 := ⟨k - 1, by omega⟩
  unfold slices_insertionSortCmpFunc_impl_Route.f
  rw [w64 (by omega) (by omega)]
  simp only [slices_insertionSortCmpFunc_impl_Route.l0]
  rw [if_neg (by omega)]
theorem st_ins : ∀ (N k q : Nat) (x : List S29), x.length ≤ q * 20 + N → q * 20 ≤ x.length → Bd x → N + (x.length + 1) * (x.length + 3) + 1 < k → Blk x 20 (q * 20) →
    ∃ y k', k ≤ k' + N + 1 ∧ Mix x y 0 x.length ∧ Blk y 20 x.length ∧ slices_stableCmpFunc_impl_Route.l0 k x x.length 20 ((q * 20 : Nat) : Int) ((q * 20 + 20 : Nat) : Int) = slices_stableCmpFunc_impl_Route.l1 k' y x.length 20 := by
  intro N
  induction N using Nat.strongRecOn with
  | _ N ih =>
    intro k q x hN hq hB hk hS
    obtain ⟨k, rfl⟩ : ∃ m, k = m + 1 := ⟨k - 1, by omega⟩
    have hl := hB.1
    obtain ⟨F, hF⟩ : ∃ F, Aside0 ((x.length + 1) * (x.length + 3) = F) := ⟨_, ⟨rfl⟩⟩
    rw [hF.out] at hk
    simp only [slices_stableCmpFunc_impl_Route.l0]
    by_cases c : q * 20 + 20 ≤ x.length
    · rw [if_pos (by omega)]
      have hf : Aside0 ((q * 20 + 20 + 1) * (q * 20 + 20 + 3) < k) := ⟨Nat.lt_of_le_of_lt (Nat.le_trans (Nat.mul_le_mul (by omega) (by omega)) (Nat.le_of_eq hF.out)) (by omega)⟩
      obtain ⟨y, y1, y2, y3⟩ := ins_sort (a := q * 20) (b := q * 20 + 20) (k := k) (x := x) (by omega) c hB hf.out
      have yl := y1.len
      have hN2 : N - 20 < N := by omega
      obtain ⟨z, k', z1, z2, z3, z4⟩ := ih (N - 20) hN2 k (q + 1) y (by omega) (by omega) (hB.mix y1 c) (by rw [yl, hF.out]; omega) (fun p hp => by
        rw [yl]
        by_cases d : p = q
        · subst d
          rw [if_pos (by omega), show (p + 1) * 20 = p * 20 + 20 by omega]
          exact y2
        · have g := hS p (by omega)
          rw [if_pos (by omega)] at g ⊢
          exact g.mix y1 (.inl (by omega)))
      rw [yl] at z2 z3 z4
      refine ⟨z, k', by omega, (y1.widen (Nat.zero_le _) c).trans z2, z3, ?_⟩
      rw [y3]
      simp only [Option.bind_some]
      rw [show wrap64 (((q * 20 + 20 : Nat) : Int) + 20) = (((q + 1) * 20 + 20 : Nat) : Int) by rw [w64 (by omega) (by omega)]; omega, show ((q * 20 + 20 : Nat) : Int) = (((q + 1) * 20 : Nat) : Int) by omega]
      exact z4
    · rw [if_neg (by omega)]
      by_cases d : q * 20 = x.length
      · rw [d, ins_none hl (by omega) (by omega)]
        simp only [Option.bind_some]
        exact ⟨x, k, by omega, Mix.refl .., fun p hp => hS p (by omega), rfl⟩
      · obtain ⟨y, y1, y2, y3⟩ := ins_sort (a := q * 20) (b := x.length) (k := k) (x := x) (by omega) (Nat.le_refl _) hB (by rw [hF.out]; omega)
        have yl := y1.len
        rw [y3]
        simp only [Option.bind_some]
        refine ⟨y, k, by omega, y1.widen (Nat.zero_le _) (Nat.le_refl _), fun p hp => ?_, rfl⟩
        rw [yl]
        by_cases e : p = q
        · subst e
          rw [if_neg (by omega)]
          exact y2
        · have g := hS p (by omega)
          rw [if_pos (by omega)] at g ⊢
          exact g.mix y1 (.inl (by omega))
theorem st_mrg20 : ∀ (N k q : Nat) (x : List S29), x.length ≤ q * 40 + N → q * 40 ≤ x.length → Bd x → N + (40 + 8) * (40 + 8) + 1 < k → Blk x 40 (q * 40) →
    (∀ p : Nat, q * 40 ≤ p * 20 → p * 20 < x.length → Srt x (p * 20) (if (p + 1) * 20 ≤ x.length then (p + 1) * 20 else x.length)) →
    ∃ y k', k ≤ k' + N + 1 ∧ Mix x y 0 x.length ∧ Blk y 40 x.length ∧ slices_stableCmpFunc_impl_Route.l2 k x x.length 20 ((q * 40 : Nat) : Int) ((q * 40 + 40 : Nat) : Int) = slices_stableCmpFunc_impl_Route.l1 k' y x.length 40 := by
  intro N
  induction N using Nat.strongRecOn with
  | _ N ih =>
    intro k q x hN hq hB hk hS hT
    obtain ⟨k, rfl⟩ : ∃ m, k = m + 1 := ⟨k - 1, by omega⟩
    have hl := hB.1
    have e1 := Aside0.mk (show wrap64 (((q * 40 : Nat) : Int) + 20) = ((q * 40 + 20 : Nat) : Int) from by rw [w64 (by omega) (by omega)]; omega)
    have e2 := Aside0.mk (show wrap64 ((20 : Int) * 2) = 40 from by rw [w64 (by omega) (by omega)]; omega)
    have e3 := Aside0.mk (show wrap64 (2 * (20 : Int)) = 40 from by rw [w64 (by omega) (by omega)]; omega)
    simp only [slices_stableCmpFunc_impl_Route.l2]
    rw [e1.out]
    have h1 : q * 40 + 20 ≤ x.length → Srt x (q * 40) (q * 40 + 20) := fun h => by
      have g := hT (2 * q) (by omega) (by omega)
      rw [if_pos (by omega), show 2 * q * 20 = q * 40 by omega, show (2 * q + 1) * 20 = q * 40 + 20 by omega] at g
      exact g
    by_cases c : q * 40 + 40 ≤ x.length
    · rw [if_pos (by omega)]
      have h2 : Srt x (q * 40 + 20) (q * 40 + 40) := by
        have g := hT (2 * q + 1) (by omega) (by omega)
        rw [if_pos (by omega), show (2 * q + 1) * 20 = q * 40 + 20 by omega, show (2 * q + 1 + 1) * 20 = q * 40 + 40 by omega] at g
        exact g
      obtain ⟨y, y1, y2, y3⟩ := symM 40 k (q * 40) (q * 40 + 20) (q * 40 + 40) x (by omega) (by omega) (by omega) c hB (by omega) (h1 (by omega)) h2
      have yl := y1.len
      have hN2 : N - 40 < N := by omega
      obtain ⟨z, k', z1, z2, z3, z4⟩ := ih (N - 40) hN2 k (q + 1) y (by omega) (by omega) (hB.mix y1 c) (by omega) (fun p hp => by
        rw [yl]
        by_cases d : p = q
        · subst d
          rw [if_pos (by omega), show (p + 1) * 40 = p * 40 + 40 by omega]
          exact y2
        · have g := hS p (by omega)
          rw [if_pos (by omega)] at g ⊢
          exact g.mix y1 (.inl (by omega))) (fun p hp hp2 => by
        rw [yl] at hp2 ⊢
        exact (hT p (by omega) hp2).mix y1 (.inr (by omega)))
      rw [yl] at z2 z3 z4
      refine ⟨z, k', by omega, (y1.widen (Nat.zero_le _) c).trans z2, z3, ?_⟩
      rw [y3]
      simp only [Option.bind_some]
      rw [e3.out, show wrap64 (((q * 40 + 40 : Nat) : Int) + 40) = (((q + 1) * 40 + 40 : Nat) : Int) by rw [w64 (by omega) (by omega)]; omega, show ((q * 40 + 40 : Nat) : Int) = (((q + 1) * 40 : Nat) : Int) by omega]
      exact z4
    · rw [if_neg (by omega)]
      by_cases d : q * 40 + 20 < x.length
      · rw [if_pos (by omega)]
        have h2 : Srt x (q * 40 + 20) x.length := by
          have g := hT (2 * q + 1) (by omega) (by omega)
          rw [if_neg (by omega), show (2 * q + 1) * 20 = q * 40 + 20 by omega] at g
          exact g
        obtain ⟨y, y1, y2, y3⟩ := symM 40 k (q * 40) (q * 40 + 20) x.length x (by omega) (by omega) d (Nat.le_refl _) hB (by omega) (h1 (by omega)) h2
        have yl := y1.len
        rw [y3]
        simp only [Option.bind_some]
        rw [e2.out]
        refine ⟨y, k, by omega, y1.widen (Nat.zero_le _) (Nat.le_refl _), fun p hp => ?_, rfl⟩
        rw [yl]
        by_cases e : p = q
        · subst e
          rw [if_neg (by omega)]
          exact y2
        · have g := hS p (by omega)
          rw [if_pos (by omega)] at g ⊢
          exact g.mix y1 (.inl (by omega))
      · rw [if_neg (by omega), e2.out]
        refine ⟨x, k, by omega, Mix.refl .., fun p hp => ?_, rfl⟩
        by_cases e : p < q
        · exact hS p (by omega)
        · have g := hT (2 * q) (by omega) (by omega)
          rw [show 2 * q * 20 = q * 40 by omega, show (2 * q + 1) * 20 = q * 40 + 20 by omega] at g
          have e2' : p = q := by omega
          subst e2'
          rw [if_neg (by omega)]
          intro a b g1 g2 g3
          refine g a b g1 g2 ?_
          split <;> omega
theorem st_one20 {k : Nat} {x : List S29} (hB : Bd x) (hn : x.length ≤ 160) (hk : 200 + (40 + 8) * (40 + 8) < k) (hS : Blk x 20 x.length) :
    ∃ y k', k ≤ k' + 200 ∧ Mix x y 0 x.length ∧ (Srt y 0 x.length ∧ slices_stableCmpFunc_impl_Route.l1 k x x.length 20 = some y ∨ Blk y 40 x.length ∧ slices_stableCmpFunc_impl_Route.l1 k x x.length 20 = slices_stableCmpFunc_impl_Route.l1 k' y x.length 40) := by
  obtain ⟨k, rfl⟩ : ∃ m, k = m + 1 := ⟨k - 1, by omega⟩
  by_cases c : 20 < x.length
  · obtain ⟨y, k', y1, y2, y3, y4⟩ := st_mrg20 x.length k 0 x (by omega) (by omega) hB (by omega) (fun p hp => by omega) (fun p _ hp => hS p hp)
    refine ⟨y, k', by omega, y2, .inr ⟨y3, ?_⟩⟩
    simp only [slices_stableCmpFunc_impl_Route.l1]
    rw [if_pos (by omega), show wrap64 (2 * (20 : Int)) = 40 by rw [w64 (by omega) (by omega)]; omega]
    exact y4
  · refine ⟨x, k, by omega, Mix.refl .., .inl ⟨fun p q g1 g2 g3 => ?_, ?_⟩⟩
    · have g := hS 0 (by omega)
      exact g p q (by omega) g2 (by split <;> omega)
    · simp only [slices_stableCmpFunc_impl_Route.l1]
      rw [if_neg (by omega)]
theorem st_mrg40 : ∀ (N k q : Nat) (x : List S29), x.length ≤ q * 80 + N → q * 80 ≤ x.length → Bd x → N + (80 + 8) * (80 + 8) + 1 < k → Blk x 80 (q * 80) →
    (∀ p : Nat, q * 80 ≤ p * 40 → p * 40 < x.length → Srt x (p * 40) (if (p + 1) * 40 ≤ x.length then (p + 1) * 40 else x.length)) →
    ∃ y k', k ≤ k' + N + 1 ∧ Mix x y 0 x.length ∧ Blk y 80 x.length ∧ slices_stableCmpFunc_impl_Route.l2 k x x.length 40 ((q * 80 : Nat) : Int) ((q * 80 + 80 : Nat) : Int) = slices_stableCmpFunc_impl_Route.l1 k' y x.length 80 := by
  intro N
  induction N using Nat.strongRecOn with
  | _ N ih =>
    intro k q x hN hq hB hk hS hT
    obtain ⟨k, rfl⟩ : ∃ m, k = m + 1 := ⟨k - 1, by omega⟩
    have hl := hB.1
    have e1 := Aside0.mk (show wrap64 (((q * 80 : Nat) : Int) + 40) = ((q * 80 + 40 : Nat) : Int) from by rw [w64 (by omega) (by omega)]; omega)
    have e2 := Aside0.mk (show wrap64 ((40 : Int) * 2) = 80 from by rw [w64 (by omega) (by omega)]; omega)
    have e3 := Aside0.mk (show wrap64 (2 * (40 : Int)) = 80 from by rw [w64 (by omega) (by omega)]; omega)
    simp only [slices_stableCmpFunc_impl_Route.l2]
    rw [e1.out]
    have h1 : q * 80 + 40 ≤ x.length → Srt x (q * 80) (q * 80 + 40) := fun h => by
      have g := hT (2 * q) (by omega) (by omega)
      rw [if_pos (by omega), show 2 * q * 40 = q * 80 by omega, show (2 * q + 1) * 40 = q * 80 + 40 by omega] at g
      exact g
    by_cases c : q * 80 + 80 ≤ x.length
    · rw [if_pos (by omega)]
      have h2 : Srt x (q * 80 + 40) (q * 80 + 80) := by
        have g := hT (2 * q + 1) (by omega) (by omega)
        rw [if_pos (by omega), show (2 * q + 1) * 40 = q * 80 + 40 by omega, show (2 * q + 1 + 1) * 40 = q * 80 + 80 by omega] at g
        exact g
      obtain ⟨y, y1, y2, y3⟩ := symM 80 k (q * 80) (q * 80 + 40) (q * 80 + 80) x (by omega) (by omega) (by omega) c hB (by omega) (h1 (by omega)) h2
      have yl := y1.len
      have hN2 : N - 80 < N := by omega
      obtain ⟨z, k', z1, z2, z3, z4⟩ := ih (N - 80) hN2 k (q + 1) y (by omega) (by omega) (hB.mix y1 c) (by omega) (fun p hp => by
        rw [yl]
        by_cases d : p = q
        · subst d
          rw [if_pos (by omega), show (p + 1) * 80 = p * 80 + 80 by omega]
          exact y2
        · have g := hS p (by omega)
          rw [if_pos (by omega)] at g ⊢
          exact g.mix y1 (.inl (by omega))) (fun p hp hp2 => by
        rw [yl] at hp2 ⊢
        exact (hT p (by omega) hp2).mix y1 (.inr (by omega)))
      rw [yl] at z2 z3 z4
      refine ⟨z, k', by omega, (y1.widen (Nat.zero_le _) c).trans z2, z3, ?_⟩
      rw [y3]
      simp only [Option.bind_some]
      rw [e3.out, show wrap64 (((q * 80 + 80 : Nat) : Int) + 80) = (((q + 1) * 80 + 80 : Nat) : Int) by rw [w64 (by omega) (by omega)]; omega, show ((q * 80 + 80 : Nat) : Int) = (((q + 1) * 80 : Nat) : Int) by omega]
      exact z4
    · rw [if_neg (by omega)]
      by_cases d : q * 80 + 40 < x.length
      · rw [if_pos (by omega)]
        have h2 : Srt x (q * 80 + 40) x.length := by
          have g := hT (2 * q + 1) (by omega) (by omega)
          rw [if_neg (by omega), show (2 * q + 1) * 40 = q * 80 + 40 by omega] at g
          exact g
        obtain ⟨y, y1, y2, y3⟩ := symM 80 k (q * 80) (q * 80 + 40) x.length x (by omega) (by omega) d (Nat.le_refl _) hB (by omega) (h1 (by omega)) h2
        have yl := y1.len
        rw [y3]
        simp only [Option.bind_some]
        rw [e2.out]
        refine ⟨y, k, by omega, y1.widen (Nat.zero_le _) (Nat.le_refl _), fun p hp => ?_, rfl⟩
        rw [yl]
        by_cases e : p = q
        · subst e
          rw [if_neg (by omega)]
          exact y2
        · have g := hS p (by omega)
          rw [if_pos (by omega)] at g ⊢
          exact g.mix y1 (.inl (by omega))
      · rw [if_neg (by omega), e2.out]
        refine ⟨x, k, by omega, Mix.refl .., fun p hp => ?_, rfl⟩
        by_cases e : p < q
        · exact hS p (by omega)
        · have g := hT (2 * q) (by omega) (by omega)
          rw [show 2 * q * 40 = q * 80 by omega, show (2 * q + 1) * 40 = q * 80 + 40 by omega] at g
          have e2' : p = q := by omega
          subst e2'
          rw [if_neg (by omega)]
          intro a b g1 g2 g3
          refine g a b g1 g2 ?_
          split <;> omega
theorem st_one40 {k : Nat} {x : List S29} (hB : Bd x) (hn : x.length ≤ 160) (hk : 200 + (80 + 8) * (80 + 8) < k) (hS : Blk x 40 x.length) :
    ∃ y k', k ≤ k' + 200 ∧ Mix x y 0 x.length ∧ (Srt y 0 x.length ∧ slices_stableCmpFunc_impl_Route.l1 k x x.length 40 = some y ∨ Blk y 80 x.length ∧ slices_stableCmpFunc_impl_Route.l1 k x x.length 40 = slices_stableCmpFunc_impl_Route.l1 k' y x.length 80) := by
  obtain ⟨k, rfl⟩ : ∃ m, k = m + 1 := ⟨k - 1, by omega⟩
  by_cases c : 40 < x.length
  · obtain ⟨y, k', y1, y2, y3, y4⟩ := st_mrg40 x.length k 0 x (by omega) (by omega) hB (by omega) (fun p hp => by omega) (fun p _ hp => hS p hp)
    refine ⟨y, k', by omega, y2, .inr ⟨y3, ?_⟩⟩
    simp only [slices_stableCmpFunc_impl_Route.l1]
    rw [if_pos (by omega), show wrap64 (2 * (40 : Int)) = 80 by rw [w64 (by omega) (by omega)]; omega]
    exact y4
  · refine ⟨x, k, by omega, Mix.refl .., .inl ⟨fun p q g1 g2 g3 => ?_, ?_⟩⟩
    · have g := hS 0 (by omega)
      exact g p q (by omega) g2 (by split <;> omega)
    · simp only [slices_stableCmpFunc_impl_Route.l1]
      rw [if_neg (by omega)]
theorem st_mrg80 : ∀ (N k q : Nat) (x : List S29), x.length ≤ q * 160 + N → q * 160 ≤ x.length → Bd x → N + (160 + 8) * (160 + 8) + 1 < k → Blk x 160 (q * 160) →
    (∀ p : Nat, q * 160 ≤ p * 80 → p * 80 < x.length → Srt x (p * 80) (if (p + 1) * 80 ≤ x.length then (p + 1) * 80 else x.length)) →
    ∃ y k', k ≤ k' + N + 1 ∧ Mix x y 0 x.length ∧ Blk y 160 x.length ∧ slices_stableCmpFunc_impl_Route.l2 k x x.length 80 ((q * 160 : Nat) : Int) ((q * 160 + 160 : Nat) : Int) = slices_stableCmpFunc_impl_Route.l1 k' y x.length 160 := by
  intro N
  induction N using Nat.strongRecOn with
  | _ N ih =>
    intro k q x hN hq hB hk hS hT
    obtain ⟨k, rfl⟩ : ∃ m, k = m + 1 := ⟨k - 1, by omega⟩
    have hl := hB.1
    have e1 := Aside0.mk (show wrap64 (((q * 160 : Nat) : Int) + 80) = ((q * 160 + 80 : Nat) : Int) from by rw [w64 (by omega) (by omega)]; omega)
    have e2 := Aside0.mk (show wrap64 ((80 : Int) * 2) = 160 from by rw [w64 (by omega) (by omega)]; omega)
    have e3 := Aside0.mk (show wrap64 (2 * (80 : Int)) = 160 from by rw [w64 (by omega) (by omega)]; omega)
    simp only [slices_stableCmpFunc_impl_Route.l2]
    rw [e1.out]
    have h1 : q * 160 + 80 ≤ x.length → Srt x (q * 160) (q * 160 + 80) := fun h => by
      have g := hT (2 * q) (by omega) (by omega)
      rw [if_pos (by omega), show 2 * q * 80 = q * 160 by omega, show (2 * q + 1) * 80 = q * 160 + 80 by omega] at g
      exact g
    by_cases c : q * 160 + 160 ≤ x.length
    · rw [if_pos (by omega)]
      have h2 : Srt x (q * 160 + 80) (q * 160 + 160) := by
        have g := hT (2 * q + 1) (by omega) (by omega)
        rw [if_pos (by omega), show (2 * q + 1) * 80 = q * 160 + 80 by omega, show (2 * q + 1 + 1) * 80 = q * 160 + 160 by omega] at g
        exact g
      obtain ⟨y, y1, y2, y3⟩ := symM 160 k (q * 160) (q * 160 + 80) (q * 160 + 160) x (by omega) (by omega) (by omega) c hB (by omega) (h1 (by omega)) h2
      have yl := y1.len
      have hN2 : N - 160 < N := by omega
      obtain ⟨z, k', z1, z2, z3, z4⟩ := ih (N - 160) hN2 k (q + 1) y (by omega) (by omega) (hB.mix y1 c) (by omega) (fun p hp => by
        rw [yl]
        by_cases d : p = q
        · subst d
          rw [if_pos (by omega), show (p + 1) * 160 = p * 160 + 160 by omega]
          exact y2
        · have g := hS p (by omega)
          rw [if_pos (by omega)] at g ⊢
          exact g.mix y1 (.inl (by omega))) (fun p hp hp2 => by
        rw [yl] at hp2 ⊢
        exact (hT p (by omega) hp2).mix y1 (.inr (by omega)))
      rw [yl] at z2 z3 z4
      refine ⟨z, k', by omega, (y1.widen (Nat.zero_le _) c).trans z2, z3, ?_⟩
      rw [y3]
      simp only [Option.bind_some]
      rw [e3.out, show wrap64 (((q * 160 + 160 : Nat) : Int) + 160) = (((q + 1) * 160 + 160 : Nat) : Int) by rw [w64 (by omega) (by omega)]; omega, show ((q * 160 + 160 : Nat) : Int) = (((q + 1) * 160 : Nat) : Int) by omega]
      exact z4
    · rw [if_neg (by omega)]
      by_cases d : q * 160 + 80 < x.length
      · rw [if_pos (by omega)]
        have h2 : Srt x (q * 160 + 80) x.length := by
          have g := hT (2 * q + 1) (by omega) (by omega)
          rw [if_neg (by omega), show (2 * q + 1) * 80 = q * 160 + 80 by omega] at g
          exact g
        obtain ⟨y, y1, y2, y3⟩ := symM 160 k (q * 160) (q * 160 + 80) x.length x (by omega) (by omega) d (Nat.le_refl _) hB (by omega) (h1 (by omega)) h2
        have yl := y1.len
        rw [y3]
        simp only [Option.bind_some]
        rw [e2.out]
        refine ⟨y, k, by omega, y1.widen (Nat.zero_le _) (Nat.le_refl _), fun p hp => ?_, rfl⟩
        rw [yl]
        by_cases e : p = q
        · subst e
          rw [if_neg (by omega)]
          exact y2
        · have g := hS p (by omega)
          rw [if_pos (by omega)] at g ⊢
          exact g.mix y1 (.inl (by omega))
      · rw [if_neg (by omega), e2.out]
        refine ⟨x, k, by omega, Mix.refl .., fun p hp => ?_, rfl⟩
        by_cases e : p < q
        · exact hS p (by omega)
        · have g := hT (2 * q) (by omega) (by omega)
          rw [show 2 * q * 80 = q * 160 by omega, show (2 * q + 1) * 80 = q * 160 + 80 by omega] at g
          have e2' : p = q := by omega
          subst e2'
          rw [if_neg (by omega)]
          intro a b g1 g2 g3
          refine g a b g1 g2 ?_
          split <;> omega
theorem st_one80 {k : Nat} {x : List S29} (hB : Bd x) (hn : x.length ≤ 160) (hk : 200 + (160 + 8) * (160 + 8) < k) (hS : Blk x 80 x.length) :
    ∃ y k', k ≤ k' + 200 ∧ Mix x y 0 x.length ∧ (Srt y 0 x.length ∧ slices_stableCmpFunc_impl_Route.l1 k x x.length 80 = some y ∨ Blk y 160 x.length ∧ slices_stableCmpFunc_impl_Route.l1 k x x.length 80 = slices_stableCmpFunc_impl_Route.l1 k' y x.length 160) := by
  obtain ⟨k, rfl⟩ : ∃ m, k = m + 1 := ⟨k - 1, by omega⟩
  by_cases c : 80 < x.length
  · obtain ⟨y, k', y1, y2, y3, y4⟩ := st_mrg80 x.length k 0 x (by omega) (by omega) hB (by omega) (fun p hp => by omega) (fun p _ hp => hS p hp)
    refine ⟨y, k', by omega, y2, .inr ⟨y3, ?_⟩⟩
    simp only [slices_stableCmpFunc_impl_Route.l1]
    rw [if_pos (by omega), show wrap64 (2 * (80 : Int)) = 160 by rw [w64 (by omega) (by omega)]; omega]
    exact y4
  · refine ⟨x, k, by omega, Mix.refl .., .inl ⟨fun p q g1 g2 g3 => ?_, ?_⟩⟩
    · have g := hS 0 (by omega)
      exact g p q (by omega) g2 (by split <;> omega)
    · simp only [slices_stableCmpFunc_impl_Route.l1]
      rw [if_neg (by omega)]
theorem stable_sort {x : List S29} (hn : x.length ≤ 120) (hB : Bd x) {k : Nat} (hk : 60000 < k) : ∃ y, Mix x y 0 x.length ∧ Srt y 0 x.length ∧ slices_SortStableFunc_impl_Route_impl_Route.f k x = some y := by
  have hf : (x.length + 1) * (x.length + 3) ≤ 121 * 123 := Nat.mul_le_mul (by omega) (by omega)
  obtain ⟨y, k1, y1, y2, y3, y4⟩ := st_ins x.length k 0 x (by omega) (by omega) hB (by omega) (fun p hp => by omega)
  have hBy := hB.mix y2 (Nat.le_refl _)
  have yl := y2.len
  have go : ∀ r, slices_stableCmpFunc_impl_Route.l1 k1 y y.length 20 = some r → slices_SortStableFunc_impl_Route_impl_Route.f k x = some r := by
    intro r hr
    unfold slices_SortStableFunc_impl_Route_impl_Route.f slices_stableCmpFunc_impl_Route.f
    rw [yl] at hr
    have y4' : slices_stableCmpFunc_impl_Route.l0 k x x.length 20 0 20 = slices_stableCmpFunc_impl_Route.l1 k1 y x.length 20 := y4
    rw [y4', hr]
    rfl
  rw [← yl] at y3
  obtain ⟨z, k2, z1, z2, z3⟩ := st_one20 hBy (by omega) (k := k1) (by omega) y3
  have zl := z2.len
  have m2 : Mix x z 0 x.length := y2.trans (by rw [yl] at z2; exact z2)
  rcases z3 with ⟨z3, z4⟩ | ⟨z3, z4⟩
  · exact ⟨z, m2, by rw [yl] at z3; exact z3, go z z4⟩
  · have hBz := hBy.mix z2 (Nat.le_refl _)
    rw [← zl] at z3
    obtain ⟨w, k3, w1, w2, w3⟩ := st_one40 hBz (by omega) (k := k2) (by omega) z3
    have wl := w2.len
    have m3 : Mix x w 0 x.length := m2.trans (by rw [zl, yl] at w2; exact w2)
    rcases w3 with ⟨w3, w4⟩ | ⟨w3, w4⟩
    · exact ⟨w, m3, by rw [zl, yl] at w3; exact w3, go w (by rw [z4, ← zl]; exact w4)⟩
    · have hBw := hBz.mix w2 (Nat.le_refl _)
      rw [← wl] at w3
      obtain ⟨v, k4, v1, v2, v3⟩ := st_one80 hBw (by omega) (k := k3) (by omega) w3
      have m4 : Mix x v 0 x.length := m3.trans (by rw [wl, zl, yl] at v2; exact v2)
      rcases v3 with ⟨v3, v4⟩ | ⟨v3, v4⟩
      · exact ⟨v, m4, by rw [wl, zl, yl] at v3; exact v3, go v (by rw [z4, ← zl, w4, ← wl]; exact v4)⟩
      · have v5 : Srt v 0 x.length := by
          have g := v3 0
          intro p q g1 g2 g3
          have vl := v2.len
          exact g (by omega) p q (by omega) g2 (by split <;> omega)
        refine ⟨v, m4, v5, go v ?_⟩
        obtain ⟨k4, rfl⟩ : ∃ m, k4 = m + 1 := ⟨k4 - 1, by omega⟩
        rw [z4, ← zl, w4, ← wl, v4]
        simp only [slices_stableCmpFunc_impl_Route.l1]
        rw [if_neg (by omega)]
theorem rdI_set {o : List Int} {i j : Nat} (v : Int) (hi : i < o.length) : rd (o.set i v) j = if i = j then v else rd o j := by
  unfold rd
  rw [Int.toNat_natCast, List.getD_eq_getElem?_getD, List.getD_eq_getElem?_getD, List.getElem?_set]
  by_cases c : i = j
  · subst c; simp [hi]
  · simp [c]
/-- The route at a place contains an address. -/
def Cv (x : List S29) (j : Nat) (a : Nat) : Prop := (rd_T29 x j).f0.f0 ≤ (a : Int) ∧ (a : Int) < (rd_T29 x j).f0.f0 + psz (rd_T29 x j).f0.f1
/-- The hop of the longest route among those of S that contain an address; -1 for none. -/
def Is (x : List S29) (S : Nat → Prop) (a : Nat) (v : Int) : Prop :=
  (∃ j, S j ∧ Cv x j a ∧ v = (rd_T29 x j).f1 ∧ ∀ i, S i → Cv x i a → Kl x i ≤ Kl x j) ∨ (v = -1 ∧ ∀ i, S i → ¬ Cv x i a)
theorem Is.iff {x : List S29} {S T : Nat → Prop} {a : Nat} {v : Int} (h : Is x S a v) (e : ∀ j, S j ↔ T j) : Is x T a v := by
  rcases h with ⟨j, h1, h2, h3, h4⟩ | ⟨h1, h2⟩
  · exact .inl ⟨j, (e j).1 h1, h2, h3, fun i hi hc => h4 i ((e i).2 hi) hc⟩
  · exact .inr ⟨h1, fun i hi => h2 i ((e i).2 hi)⟩
/-- One more route, no shorter than those so far: it is painted over. -/
theorem Is.next {x : List S29} {S : Nat → Prop} {a j : Nat} {v : Int} (h : Is x S a v) (hj : ∀ i, S i → Kl x i ≤ Kl x j) (w : Int) (hw : (Cv x j a ∧ w = (rd_T29 x j).f1) ∨ (¬ Cv x j a ∧ w = v)) : Is x (fun i => S i ∨ i = j) a w := by
  rcases hw with ⟨c, rfl⟩ | ⟨c, rfl⟩
  · exact .inl ⟨j, .inr rfl, c, rfl, fun i hi _ => hi.elim (hj i) (fun e => by rw [e]; exact Int.le_refl _)⟩
  · rcases h with ⟨q, h1, h2, h3, h4⟩ | ⟨h1, h2⟩
    · exact .inl ⟨q, .inl h1, h2, h3, fun i hi hc => hi.elim (fun g => h4 i g hc) (fun e => absurd (e ▸ hc) c)⟩
    · exact .inr ⟨h1, fun i hi hc => hi.elim (fun g => h2 i g hc) (fun e => c (e ▸ hc))⟩
def Okr (x : List S29) : Prop := x.length ≤ 120 ∧ ∀ j : Nat, j < x.length → Pok (rd_T29 x j).f0.f0 (rd_T29 x j).f0.f1
theorem paint1 {y : List S29} (hy : Okr y) (i : Nat) (hi : i < y.length) : ∀ (d k c : Nat) (o : List Int), ((c + d : Nat) : Int) = (rd_T29 y i).f0.f0 + psz (rd_T29 y i).f0.f1 → o.length = 65536 → d < k →
    ∃ o' k', k ≤ k' + d + 1 ∧ o'.length = 65536 ∧ (∀ t : Nat, rd o' t = if c ≤ t ∧ t < c + d then (rd_T29 y i).f1 else rd o t) ∧
      impl_hopsOf.l1 k o c y y.length i (rd_T29 y i).f0.f0 (rd_T29 y i).f0.f1 (rd_T29 y i).f1 = impl_hopsOf.l0 k' o' y y.length ((i + 1 : Nat) : Int) := by
  have P := hy.2 i hi
  have hl := hy.1
  have top := P.top
  have pp := psz_pos (rd_T29 y i).f0.f1
  have P2 := P
  unfold Pok at P2
  intro d
  induction d with
  | zero =>
    intro k c o hc ho hk
    obtain ⟨k, rfl⟩ : ∃ m, k = m + 1 := ⟨k - 1, by omega⟩
    refine ⟨o, k, by omega, ho, fun t => by rw [if_neg (by omega)], ?_⟩
    simp only [impl_hopsOf.l1]
    rw [impl_Size _ P2.1 P2.2.1]
    simp only [Option.bind_some]
    rw [w64 (n := (rd_T29 y i).f0.f0 + psz (rd_T29 y i).f0.f1) (by omega) (by omega), if_neg (by omega), w64 (by omega) (by omega)]
    rfl
  | succ d ih =>
    intro k c o hc ho hk
    obtain ⟨k, rfl⟩ : ∃ m, k = m + 1 := ⟨k - 1, by omega⟩
    obtain ⟨o', k', h1, h2, h3, h4⟩ := ih k (c + 1) (o.set c (rd_T29 y i).f1) (by omega) (by rw [List.length_set]; exact ho) (by omega)
    refine ⟨o', k', by omega, h2, fun t => ?_, ?_⟩
    · rw [h3 t, rdI_set _ (by omega)]
      by_cases e : c + 1 ≤ t ∧ t < c + 1 + d
      · rw [if_pos e, if_pos (by omega)]
      · rw [if_neg e]
        by_cases e2 : c = t
        · rw [if_pos e2, if_pos (by omega)]
        · rw [if_neg e2, if_neg (by omega)]
    · simp only [impl_hopsOf.l1]
      rw [impl_Size _ P2.1 P2.2.1]
      simp only [Option.bind_some]
      rw [w64 (n := (rd_T29 y i).f0.f0 + psz (rd_T29 y i).f0.f1) (by omega) (by omega), if_pos (by omega), if_pos (by omega), if_pos (by omega), show wrap64 ((c : Int) + 1) = ((c + 1 : Nat) : Int) by rw [w64 (by omega) (by omega)]; omega, Int.toNat_natCast]
      exact h4
theorem paintI {y : List S29} (hy : Okr y) (hS : Srt y 0 y.length) (C : Nat) (hC : 65540 ≤ C) : ∀ (d k i : Nat) (o : List Int), i + d = y.length → o.length = 65536 → d * C < k → (∀ a : Nat, a < 65536 → Is y (fun j => j < i) a (rd o a)) →
    ∃ o', o'.length = 65536 ∧ (∀ a : Nat, a < 65536 → Is y (fun j => j < y.length) a (rd o' a)) ∧ impl_hopsOf.l0 k o y y.length i = some o' := by
  intro d
  induction d with
  | zero =>
    intro k i o hi ho hk h
    obtain ⟨k, rfl⟩ : ∃ m, k = m + 1 := ⟨k - 1, by omega⟩
    obtain rfl : i = y.length := by omega
    simp only [impl_hopsOf.l0]
    rw [if_neg (by omega)]
    exact ⟨o, ho, h, rfl⟩
  | succ d ih =>
    intro k i o hi ho hk h
    rw [Nat.succ_mul] at hk
    obtain ⟨k, rfl⟩ : ∃ m, k = m + 1 := ⟨k - 1, by omega⟩
    have hiy : i < y.length := by omega
    have P := hy.2 i hiy
    have top := P.top
    have pp := psz_pos (rd_T29 y i).f0.f1
    have P2 := P
    unfold Pok at P2
    obtain ⟨c, hc⟩ : ∃ c : Nat, (c : Int) = (rd_T29 y i).f0.f0 := ⟨(rd_T29 y i).f0.f0.toNat, by omega⟩
    obtain ⟨s, hs⟩ : ∃ s : Nat, (s : Int) = psz (rd_T29 y i).f0.f1 := ⟨(psz (rd_T29 y i).f0.f1).toNat, by omega⟩
    obtain ⟨o', k', h1, h2, h3, h4⟩ := paint1 hy i hiy s k c o (by omega) ho (by omega)
    obtain ⟨z, z1, z2, z3⟩ := ih k' (i + 1) o' (by omega) h2 (by omega) (fun a ha => by
      have g := (h a ha).next (j := i) (fun q hq => hS q i (Nat.zero_le _) hq hiy) (rd o' a) (by
        rw [h3 a]
        by_cases e : c ≤ a ∧ a < c + s
        · rw [if_pos e]; exact .inl ⟨⟨by omega, by omega⟩, rfl⟩
        · rw [if_neg e]; exact .inr ⟨fun g => e ⟨by have := g.1; omega, by have := g.2; omega⟩, rfl⟩)
      exact g.iff (fun j => by omega))
    refine ⟨z, z1, z2, ?_⟩
    simp only [impl_hopsOf.l0]
    rw [if_pos (by omega), if_pos (by omega), if_pos (by omega), ← hc]
    rw [← hc] at h4
    rw [h4]
    exact z3
theorem spInit {x : List S29} : ∀ (d k i : Nat) (o : List Int), i + d = 65536 → o.length = 65536 → d < k → (∀ t : Nat, t < i → rd o t = -1) →
    ∃ o' k', k ≤ k' + d + 1 ∧ o'.length = 65536 ∧ (∀ t : Nat, t < 65536 → rd o' t = -1) ∧ spec_l02Paint.l0 k o i x = spec_l02Paint.l1 k' o' 0 x := by
  intro d
  induction d with
  | zero =>
    intro k i o hi ho hk h
    obtain ⟨k, rfl⟩ : ∃ m, k = m + 1 := ⟨k - 1, by omega⟩
    refine ⟨o, k, by omega, ho, fun t ht => h t (by omega), ?_⟩
    simp only [spec_l02Paint.l0]
    rw [if_neg (by omega)]
  | succ d ih =>
    intro k i o hi ho hk h
    obtain ⟨k, rfl⟩ : ∃ m, k = m + 1 := ⟨k - 1, by omega⟩
    obtain ⟨o', k', h1, h2, h3, h4⟩ := ih k (i + 1) (o.set i (-1)) (by omega) (by rw [List.length_set]; exact ho) (by omega) (fun t ht => by
      rw [rdI_set _ (by omega)]
      by_cases c : i = t
      · rw [if_pos c]
      · rw [if_neg c]; exact h t (by omega))
    refine ⟨o', k', by omega, h2, h3, ?_⟩
    simp only [spec_l02Paint.l0]
    rw [if_pos (by omega), if_pos (by omega), if_pos (by omega), show wrap64 ((i : Int) + 1) = ((i + 1 : Nat) : Int) by rw [w64 (by omega) (by omega)]; omega, Int.toNat_natCast]
    exact h4
theorem paint3 {x : List S29} (hx : Okr x) (t i : Nat) (hi : i < x.length) (ht : Kl x i = t) : ∀ (d k c : Nat) (o : List Int), ((c + d : Nat) : Int) = psz t → o.length = 65536 → d < k →
    ∃ o' k', k ≤ k' + d + 1 ∧ o'.length = 65536 ∧ (∀ a : Nat, rd o' a = if (rd_T29 x i).f0.f0 + c ≤ a ∧ (a : Int) < (rd_T29 x i).f0.f0 + psz t then (rd_T29 x i).f1 else rd o a) ∧
      spec_l02Paint.l3 k o t i c x (rd_T29 x i).f0.f0 (rd_T29 x i).f0.f1 = spec_l02Paint.l2 k' o' t ((i + 1 : Nat) : Int) x := by
  have P := hx.2 i hi
  have hl := hx.1
  have top := P.top
  have P2 := P
  unfold Pok at P2
  have e0 : (rd_T29 x i).f0.f1 = (t : Int) := ht
  rw [e0] at top P2
  have pp := psz_pos (t : Int)
  intro d
  induction d with
  | zero =>
    intro k c o hc ho hk
    obtain ⟨k, rfl⟩ : ∃ m, k = m + 1 := ⟨k - 1, by omega⟩
    refine ⟨o, k, by omega, ho, fun a => by rw [if_neg (by omega)], ?_⟩
    simp only [spec_l02Paint.l3]
    rw [spec_Size P2.1 P2.2.1]
    simp only [Option.bind_some]
    rw [if_neg (by omega), w64 (by omega) (by omega)]
    rfl
  | succ d ih =>
    intro k c o hc ho hk
    obtain ⟨k, rfl⟩ : ∃ m, k = m + 1 := ⟨k - 1, by omega⟩
    obtain ⟨b, hb⟩ : ∃ b : Nat, (b : Int) = (rd_T29 x i).f0.f0 + c := ⟨((rd_T29 x i).f0.f0 + c).toNat, by omega⟩
    obtain ⟨o', k', h1, h2, h3, h4⟩ := ih k (c + 1) (o.set b (rd_T29 x i).f1) (by omega) (by rw [List.length_set]; exact ho) (by omega)
    refine ⟨o', k', by omega, h2, fun a => ?_, ?_⟩
    · rw [h3 a, rdI_set _ (by omega)]
      by_cases e : (rd_T29 x i).f0.f0 + ((c + 1 : Nat) : Int) ≤ a ∧ (a : Int) < (rd_T29 x i).f0.f0 + psz t
      · rw [if_pos e, if_pos (by omega)]
      · rw [if_neg e]
        by_cases e2 : b = a
        · rw [if_pos e2, if_pos (by omega)]
        · rw [if_neg e2, if_neg (by omega)]
    · simp only [spec_l02Paint.l3]
      rw [spec_Size P2.1 P2.2.1]
      simp only [Option.bind_some]
      rw [if_pos (by omega), if_pos (by omega), if_pos (by omega), show wrap64 ((rd_T29 x i).f0.f0 + (c : Int)) = (b : Int) by rw [w64 (by omega) (by omega)]; omega, if_pos (by omega), if_pos (by omega), show wrap64 ((c : Int) + 1) = ((c + 1 : Nat) : Int) by rw [w64 (by omega) (by omega)]; omega, Int.toNat_natCast]
      exact h4
/-- What has been painted before length t, place i. -/
def Pd (x : List S29) (t i : Nat) (j : Nat) : Prop := j < x.length ∧ (Kl x j < t ∨ Kl x j = t ∧ j < i)
theorem paintS {x : List S29} (hx : Okr x) (t : Nat) (ht : t ≤ 16) (C : Nat) (hC : 65540 ≤ C) : ∀ (d k i : Nat) (o : List Int), i + d = x.length → o.length = 65536 → d * C + 1 < k → (∀ a : Nat, a < 65536 → Is x (Pd x t i) a (rd o a)) →
    ∃ o' k', k ≤ k' + (d * C + 1) ∧ o'.length = 65536 ∧ (∀ a : Nat, a < 65536 → Is x (Pd x (t + 1) 0) a (rd o' a)) ∧ spec_l02Paint.l2 k o t i x = spec_l02Paint.l1 k' o' ((t + 1 : Nat) : Int) x := by
  have hl := hx.1
  intro d
  induction d with
  | zero =>
    intro k i o hi ho hk h
    obtain ⟨k, rfl⟩ : ∃ m, k = m + 1 := ⟨k - 1, by omega⟩
    refine ⟨o, k, by omega, ho, fun a ha => (h a ha).iff (fun j => by unfold Pd; omega), ?_⟩
    simp only [spec_l02Paint.l2]
    rw [if_neg (by omega), w64 (by omega) (by omega)]
    rfl
  | succ d ih =>
    intro k i o hi ho hk h
    rw [Nat.succ_mul] at hk
    obtain ⟨k, rfl⟩ : ∃ m, k = m + 1 := ⟨k - 1, by omega⟩
    have hix : i < x.length := by omega
    have P := hx.2 i hix
    have P2 := P
    unfold Pok at P2
    simp only [spec_l02Paint.l2]
    rw [if_pos (by omega), if_pos (by omega)]
    by_cases c : Kl x i = t
    · have c' : (rd_T29 x i).f0.f1 = (t : Int) := c
      rw [if_pos c']
      have pp := psz_pos (t : Int)
      have pl := psz_le (l := (t : Int)) (by omega) (by omega)
      obtain ⟨s, hs⟩ : ∃ s : Nat, (s : Int) = psz (t : Int) := ⟨(psz (t : Int)).toNat, by omega⟩
      obtain ⟨o', k', h1, h2, h3, h4⟩ := paint3 hx t i hix c s k 0 o (by omega) ho (by omega)
      obtain ⟨z, k2, z1, z2, z3, z4⟩ := ih k' (i + 1) o' (by omega) h2 (by omega) (fun a ha => by
        have g := (h a ha).next (j := i) (fun q hq => by rw [c]; unfold Pd at hq; omega) (rd o' a) (by
          rw [h3 a]
          by_cases e : (rd_T29 x i).f0.f0 + ((0 : Nat) : Int) ≤ a ∧ (a : Int) < (rd_T29 x i).f0.f0 + psz t
          · rw [if_pos e]; exact .inl ⟨⟨by omega, by rw [c']; omega⟩, rfl⟩
          · rw [if_neg e]; exact .inr ⟨fun g => e ⟨by have := g.1; omega, by have := g.2; rw [c'] at this; omega⟩, rfl⟩)
        exact g.iff (fun j => by
          unfold Pd
          constructor
          · rintro (q | rfl)
            · omega
            · omega
          · intro q
            by_cases e : j = i
            · exact .inr e
            · exact .inl (by omega)))
      exact ⟨z, k2, by rw [Nat.succ_mul]; omega, z2, z3, h4.trans z4⟩
    · have c' : ¬ (rd_T29 x i).f0.f1 = (t : Int) := c
      rw [if_neg c', show wrap64 ((i : Int) + 1) = ((i + 1 : Nat) : Int) by rw [w64 (by omega) (by omega)]; omega]
      obtain ⟨z, k2, z1, z2, z3, z4⟩ := ih k (i + 1) o (by omega) ho (by omega) (fun a ha => (h a ha).iff (fun j => by
        unfold Pd
        constructor
        · intro q; omega
        · intro q
          by_cases e : j = i
          · subst e; omega
          · omega))
      exact ⟨z, k2, by rw [Nat.succ_mul]; omega, z2, z3, z4⟩
theorem paintL {x : List S29} (hx : Okr x) (C D : Nat) (hC : 65540 ≤ C) (hD : 120 * C + 8 ≤ D) : ∀ (d k t : Nat) (o : List Int), t + d = 17 → o.length = 65536 → d * D + 1 < k → (∀ a : Nat, a < 65536 → Is x (Pd x t 0) a (rd o a)) →
    ∃ o', o'.length = 65536 ∧ (∀ a : Nat, a < 65536 → Is x (fun j => j < x.length) a (rd o' a)) ∧ spec_l02Paint.l1 k o t x = some o' := by
  have hl := hx.1
  intro d
  induction d with
  | zero =>
    intro k t o ht ho hk h
    obtain ⟨k, rfl⟩ : ∃ m, k = m + 1 := ⟨k - 1, by omega⟩
    refine ⟨o, ho, fun a ha => (h a ha).iff (fun j => ?_), ?_⟩
    · unfold Pd
      constructor
      · intro q; exact q.1
      · intro q
        have P := hx.2 j q
        unfold Pok at P
        refine ⟨q, .inl ?_⟩
        unfold Kl
        omega
    · simp only [spec_l02Paint.l1]
      rw [if_neg (by omega)]
  | succ d ih =>
    intro k t o ht ho hk h
    rw [Nat.succ_mul] at hk
    have hx2 : x.length * C ≤ 120 * C := Nat.mul_le_mul_right C hl
    obtain ⟨k, rfl⟩ : ∃ m, k = m + 1 := ⟨k - 1, by omega⟩
    obtain ⟨z, k2, z1, z2, z3, z4⟩ := paintS hx t (by omega) C hC x.length k 0 o (by omega) ho (by omega) h
    obtain ⟨w, w1, w2, w3⟩ := ih k2 (t + 1) z (by omega) z2 (by omega) z3
    refine ⟨w, w1, w2, ?_⟩
    simp only [spec_l02Paint.l1]
    rw [if_pos (by omega)]
    rw [← w3, ← z4]
    rfl
theorem rd_ext {a b : List Int} : (a.length = b.length ∧ ∀ j : Nat, j < a.length → rd a j = rd b j) ↔ a = b := by
  constructor
  · rintro ⟨h1, h2⟩
    refine List.ext_getElem h1 (fun j h3 h4 => ?_)
    have z := h2 j h3
    unfold rd at z
    rw [Int.toNat_natCast, List.getD_eq_getElem?_getD, List.getD_eq_getElem?_getD, List.getElem?_eq_getElem h3, List.getElem?_eq_getElem h4] at z
    exact z
  · rintro rfl
    exact ⟨rfl, fun _ _ => rfl⟩
theorem Tok.okr {t : List S29} (h : Tok t) : Okr t := ⟨h.2, fun j hj => (h.1 j hj).1⟩
theorem Tok.bd {t : List S29} (h : Tok t) : Bd t := ⟨by have := h.2; omega, fun j hj => by
  have P := (h.1 j hj).1
  unfold Pok at P
  unfold Kl
  omega⟩
theorem Tok.ahead {t : List S29} (h : Tok t) : ∀ (d i : Nat), i + d + 1 < t.length → Ahead (rd_T29 t i).f0.f0 (rd_T29 t i).f0.f1 (rd_T29 t ((i + d + 1 : Nat) : Int)).f0.f0 (rd_T29 t ((i + d + 1 : Nat) : Int)).f0.f1 := by
  intro d
  induction d with
  | zero =>
    intro i hi
    have g := (h.1 (i + 0 + 1) hi).2.2 (by omega)
    rw [show ((i + 0 + 1 : Nat) : Int) - 1 = (i : Int) by omega] at g
    exact g
  | succ d ih =>
    intro i hi
    have a := ih i (by omega)
    have g := (h.1 (i + (d + 1) + 1) hi).2.2 (by omega)
    rw [show ((i + (d + 1) + 1 : Nat) : Int) - 1 = ((i + d + 1 : Nat) : Int) by omega] at g
    unfold Ahead at a g ⊢
    omega
theorem aligned {n m p a : Int} (hp : 0 < p) (h1 : n % p = 0) (h2 : m % p = 0) (a1 : n ≤ a) (a2 : a < n + p) (b1 : m ≤ a) (b2 : a < m + p) : n = m := by
  obtain ⟨u, hu⟩ := Int.dvd_of_emod_eq_zero h1
  obtain ⟨v, hv⟩ := Int.dvd_of_emod_eq_zero h2
  subst hu; subst hv
  have e1 : u ≤ v := by
    rcases Int.lt_or_le v u with c | c
    · have := Int.mul_le_mul_of_nonneg_left (show v + 1 ≤ u by omega) (Int.le_of_lt hp)
      rw [Int.mul_add, Int.mul_one] at this
      omega
    · exact c
  have e2 : v ≤ u := by
    rcases Int.lt_or_le u v with c | c
    · have := Int.mul_le_mul_of_nonneg_left (show u + 1 ≤ v by omega) (Int.le_of_lt hp)
      rw [Int.mul_add, Int.mul_one] at this
      omega
    · exact c
  rw [show u = v by omega]
theorem Tok.one {t : List S29} (h : Tok t) {i j a : Nat} (hi : i < t.length) (hj : j < t.length) (ci : Cv t i a) (cj : Cv t j a) (e : Kl t i = Kl t j) : i = j := by
  have Pi := (h.1 i hi).1
  have Pj := (h.1 j hj).1
  unfold Pok at Pi Pj
  unfold Kl at e
  unfold Cv at ci cj
  rw [e] at Pi ci
  have en := aligned (psz_pos _) Pi.2.2.2.2 Pj.2.2.2.2 ci.1 ci.2 cj.1 cj.2
  rcases Nat.lt_trichotomy i j with c | c | c
  · have g := h.ahead (j - i - 1) i (by omega)
    rw [show i + (j - i - 1) + 1 = j by omega] at g
    unfold Ahead at g
    omega
  · exact c
  · have g := h.ahead (i - j - 1) j (by omega)
    rw [show j + (i - j - 1) + 1 = i by omega] at g
    unfold Ahead at g
    omega
theorem Is.uniq {t : List S29} (h : Tok t) {a : Nat} {v w : Int} (hv : Is t (fun j => j < t.length) a v) (hw : Is t (fun j => j < t.length) a w) : v = w := by
  rcases hv with ⟨i, i1, i2, i3, i4⟩ | ⟨i1, i2⟩
  · rcases hw with ⟨j, j1, j2, j3, j4⟩ | ⟨j1, j2⟩
    · have e := h.one i1 j1 i2 j2 (Int.le_antisymm (j4 i i1 i2) (i4 j j1 j2))
      rw [i3, j3, e]
    · exact absurd i2 (j2 i i1)
  · rcases hw with ⟨j, j1, j2, j3, j4⟩ | ⟨j1, j2⟩
    · exact absurd j2 (i2 j j1)
    · rw [i1, j1]
theorem Is.mix {x y : List S29} (m : Mix x y 0 x.length) {a : Nat} {v : Int} (h : Is y (fun j => j < y.length) a v) : Is x (fun j => j < x.length) a v := by
  have ml := m.len
  rcases h with ⟨j, j1, j2, j3, j4⟩ | ⟨j1, j2⟩
  · obtain ⟨p, p1, p2, p3⟩ := m.fro j (Nat.zero_le _) (by omega)
    refine .inl ⟨p, p2, by unfold Cv at j2 ⊢; rw [← p3]; exact j2, by rw [j3, p3], fun i hi hc => ?_⟩
    obtain ⟨q, q1, q2, q3⟩ := m.back i (Nat.zero_le _) hi
    have g := j4 q (by omega) (by unfold Cv at hc ⊢; rw [← q3]; exact hc)
    unfold Kl at g ⊢
    rw [q3, ← p3]; exact g
  · refine .inr ⟨j1, fun i hi hc => ?_⟩
    obtain ⟨q, q1, q2, q3⟩ := m.back i (Nat.zero_le _) hi
    exact j2 q (by omega) (by unfold Cv at hc ⊢; rw [← q3]; exact hc)
theorem rd_rep (n : Nat) (v : Int) {a : Nat} (h : a < n) : rd (List.replicate n v) a = v := by
  unfold rd
  rw [Int.toNat_natCast, List.getD_eq_getElem?_getD, List.getElem?_replicate, if_pos h]
  rfl
/-- Both paint the same. -/
theorem both_paint {t : List S29} (h : Tok t) : ∃ o : List Int, o.length = 65536 ∧ ∀ k, 200000000 < k → spec_l02Paint.f k t = some o ∧ impl_hopsOf.f k t = some o := by
  have hl := h.2
  have none_ : ∀ (o : List Int), (∀ a : Nat, a < 65536 → rd o a = -1) → ∀ (x : List S29) (S : Nat → Prop), (∀ j, ¬ S j) → ∀ a : Nat, a < 65536 → Is x S a (rd o a) := fun o ho x S hS a ha => .inr ⟨ho a ha, fun i hi => absurd hi (hS i)⟩
  have si : ∀ k, 200000000 < k → ∃ o, o.length = 65536 ∧ (∀ a : Nat, a < 65536 → Is t (fun j => j < t.length) a (rd o a)) ∧ spec_l02Paint.f k t = some o := by
    intro k hk
    obtain ⟨o, k', h1, h2, h3, h4⟩ := spInit (x := t) 65536 k 0 (List.replicate 65536 0) (by omega) (List.length_replicate ..) (by omega) (fun a ha => by omega)
    obtain ⟨w, w1, w2, w3⟩ := paintL h.okr 65540 8000000 (by omega) (by omega) 17 k' 0 o (by omega) h2 (by omega) (none_ o h3 t _ (fun j => by unfold Pd; intro q; have := (h.bd.2 j q.1).1; omega))
    refine ⟨w, w1, w2, ?_⟩
    unfold spec_l02Paint.f
    rw [if_pos (by omega)]
    have h4' : spec_l02Paint.l0 k (List.replicate 65536 0) 0 t = spec_l02Paint.l1 k' o 0 t := h4
    rw [h4']
    exact w3
  have ii : ∀ k, 200000000 < k → ∃ o, o.length = 65536 ∧ (∀ a : Nat, a < 65536 → Is t (fun j => j < t.length) a (rd o a)) ∧ impl_hopsOf.f k t = some o := by
    intro k hk
    obtain ⟨y, y1, y2, y3⟩ := stable_sort hl h.bd (k := k) (by omega)
    have yl := y1.len
    have hy : Okr y := ⟨by omega, fun j hj => by
      obtain ⟨p, _, p2, p3⟩ := y1.fro j (Nat.zero_le _) (by omega)
      rw [p3]; exact h.okr.2 p p2⟩
    obtain ⟨w, w1, w2, w3⟩ := paintI hy (by rw [yl]; exact y2) 65540 (by omega) y.length k 0 (List.replicate 65536 (-1)) (by omega) (List.length_replicate ..) (Nat.lt_of_le_of_lt (Nat.mul_le_mul_right 65540 hy.1) (by omega)) (none_ _ (fun a ha => rd_rep _ _ ha) y _ (fun j => by omega))
    refine ⟨w, w1, fun a ha => (w2 a ha).mix y1, ?_⟩
    unfold impl_hopsOf.f slices_Repeat_int_int.f slices_Clone_impl_Route_impl_Route.f
    have q0 : (65536 : Int) ≤ 65536 := by omega
    have q1 : ([-1] : List Int).length = 1 := rfl
    have q2 : (0 : Int) ≤ 65536 := by omega
    have q3 : t.length ≤ 1048576 := by omega
    simp only [q1, q2, q3, q0, if_true]
    simp only [Option.bind_some]
    rw [y3]
    simp only [Option.bind_some]
    have e : (65536 : Int).toNat = 65536 := rfl
    rw [e, ← yl]
    exact w3
  have same : ∀ {o o' : List Int}, o.length = 65536 → o'.length = 65536 → (∀ a : Nat, a < 65536 → Is t (fun j => j < t.length) a (rd o a)) → (∀ a : Nat, a < 65536 → Is t (fun j => j < t.length) a (rd o' a)) → o = o' := by
    intro o o' l1 l2 g1 g2
    exact rd_ext.1 ⟨by omega, fun j hj => (g1 j (by omega)).uniq h (g2 j (by omega))⟩
  obtain ⟨o, o1, o2, _⟩ := si 200000001 (by omega)
  refine ⟨o, o1, fun k hk => ?_⟩
  obtain ⟨p, p1, p2, p3⟩ := si k hk
  obtain ⟨q, q1, q2, q3⟩ := ii k hk
  rw [p3, q3, same p1 o1 p2 o2, same q1 o1 q2 o2]
  exact ⟨rfl, rfl⟩
theorem impl_same {a b : List Int} (h : a.length ≤ 1048576) {k : Nat} (hk : a.length < k) : slices_Equal_int_int.f k a b = some (decide (a = b)) := by
  unfold slices_Equal_int_int.f
  by_cases e : a.length = b.length
  · rw [if_pos (by omega)]
    obtain ⟨x, h1, h2⟩ := all_loop (F := fun k i => slices_Equal_int_int.l0 k a b (a.length : Int) i) (n := a.length) (P := fun j => rd a j = rd b j) (e := true) (fun k i hi _ => by
      show (rd a i = rd b i ∧ slices_Equal_int_int.l0 (k + 1) a b (a.length : Int) i = slices_Equal_int_int.l0 k a b (a.length : Int) ((i : Int) + 1)) ∨ (¬ rd a i = rd b i ∧ slices_Equal_int_int.l0 (k + 1) a b (a.length : Int) i = some false)
      simp only [slices_Equal_int_int.l0]
      rw [if_pos (by omega), if_pos (by omega), if_pos (by omega), if_pos (by omega)]
      by_cases c : rd a i = rd b i
      · rw [if_pos c, w64 (by omega) (by omega)]
        exact .inl ⟨c, rfl⟩
      · rw [if_neg c]
        exact .inr ⟨c, rfl⟩) (fun k _ => by
      show slices_Equal_int_int.l0 (k + 1) a b (a.length : Int) (a.length : Int) = some true
      simp only [slices_Equal_int_int.l0]
      rw [if_neg (by omega)]) a.length k 0 (by omega) hk (fun j hj => by omega)
    have h1' : slices_Equal_int_int.l0 k a b (a.length : Int) 0 = some x := h1
    rw [h1']
    congr 1
    rw [Bool.eq_iff_iff, h2, decide_eq_true_eq, ← rd_ext]
    exact ⟨fun z => ⟨e, z.1⟩, fun z => ⟨z.2, rfl⟩⟩
  · rw [if_neg (by omega), decide_eq_false (fun z => e (by rw [z]))]
theorem sz_TableG {l : List S46} {a : Int} (h0 : 0 ≤ a) (h1 : a ≤ 1048576) (h : l.length ≤ 9223372036854775807) : ∃ r, laws_szTable.f l a = some r ∧ r ≤ 1048576 ∧ (¬ r < 0 → l.length ≤ 1048576) := by
  unfold laws_szTable.f laws_szRouteS.f
  rw [w64 (by omega) (by omega)]
  by_cases hl : a - (l.length : Int) < 0
  · rw [if_pos hl]
    exact ⟨-1, rfl, by omega, fun z => absurd (by omega : (-1 : Int) < 0) z⟩
  · rw [if_neg hl]
    simp only [Option.bind_some]
    rw [if_neg hl]
    exact ⟨_, rfl, by omega, fun _ => by omega⟩
theorem spec_samep {a b : List Int} (ha : a.length = 65536) (hb : b.length = 65536) {k : Nat} (hk : 65537 < k) : spec_l02SamePaint.f k a b = some (decide (a = b)) := by
  unfold spec_l02SamePaint.f
  obtain ⟨x, h1, h2⟩ := all_loop (F := fun k i => spec_l02SamePaint.l0 k a b i) (n := 65536) (P := fun j => rd a j = rd b j) (e := true) (fun k i hi _ => by
    show (rd a i = rd b i ∧ spec_l02SamePaint.l0 (k + 1) a b i = spec_l02SamePaint.l0 k a b ((i : Int) + 1)) ∨ (¬ rd a i = rd b i ∧ spec_l02SamePaint.l0 (k + 1) a b i = some false)
    simp only [spec_l02SamePaint.l0]
    rw [if_pos (by omega), if_pos (by omega), if_pos (by omega), if_pos (by omega)]
    by_cases c : rd a i = rd b i
    · rw [if_pos c, w64 (by omega) (by omega)]
      exact .inl ⟨c, rfl⟩
    · rw [if_neg c]
      exact .inr ⟨c, rfl⟩) (fun k _ => by
    show spec_l02SamePaint.l0 (k + 1) a b ((65536 : Nat) : Int) = some true
    simp only [spec_l02SamePaint.l0]
    rw [if_neg (by omega)]) 65536 k 0 (by omega) (by omega) (fun j hj => by omega)
  have h1' : spec_l02SamePaint.l0 k a b 0 = some x := h1
  rw [h1']
  congr 1
  rw [Bool.eq_iff_iff, h2, decide_eq_true_eq, ← rd_ext]
  exact ⟨fun z => ⟨by omega, fun j hj => z.1 j (by omega)⟩, fun z => ⟨fun j hj => z.2 j (by omega), rfl⟩⟩
theorem both_SameTable {t u : List S29} (h : t.length ≤ 1048576) (h' : u.length ≤ 1048576) {k : Nat} (hk : 200000000 < k) : ∃ b, spec_SameTable.f k t u = some b ∧ impl_SameTable.f k t u = some b := by
  obtain ⟨b1, s1, s2⟩ := spec_Tok h (k := k) (by omega)
  obtain ⟨c1, i1, i2⟩ := impl_tab h (k := k) (by omega)
  obtain ⟨b2, s3, s4⟩ := spec_Tok h' (k := k) (by omega)
  obtain ⟨c2, i3, i4⟩ := impl_tab h' (k := k) (by omega)
  have e1 : c1 = b1 := by rw [Bool.eq_iff_iff, i2, s2]; rfl
  have e2 : c2 = b2 := by rw [Bool.eq_iff_iff, i4, s4]; rfl
  unfold spec_SameTable.f impl_SameTable.f
  rw [s1, s3, i1, i3, e1, e2]
  simp only [Option.bind_some]
  by_cases d1 : b1 = true
  · rw [if_pos d1, if_pos d1]
    by_cases d2 : b2 = true
    · rw [if_pos d2, if_pos d2]
      obtain ⟨o, o1, o2⟩ := both_paint (s2.1 d1)
      obtain ⟨p, p1, p2⟩ := both_paint (s4.1 d2)
      rw [(o2 k hk).1, (o2 k hk).2, (p2 k hk).1, (p2 k hk).2]
      simp only [Option.bind_some]
      rw [spec_samep o1 p1 (by omega), impl_same (by omega) (by omega)]
      exact ⟨_, rfl, rfl⟩
    · rw [if_neg d2, if_neg d2]
      exact ⟨false, rfl, rfl⟩
  · rw [if_neg d1, if_neg d1]
    exact ⟨false, rfl, rfl⟩
theorem FnExactSameTable : FnExactSameTable.Pure := by
  intro l m hw hw2
  have hm : l.length ≤ 9223372036854775807 := hw.1
  have hm2 : m.length ≤ 9223372036854775807 := hw2.1
  obtain ⟨K, hK⟩ : ∃ K, K = l.length + m.length + 200000010 := ⟨_, rfl⟩
  obtain ⟨r, z1, zz, z2⟩ := sz_TableG (l := l) (a := 1048576) (by omega) (by omega) hm
  refine ⟨K, ?_⟩
  unfold laws_FnExactSameTable.f
  rw [z1]
  simp only [Option.bind_some]
  by_cases c : r < 0
  · rw [if_pos c]
  · rw [if_neg c]
    obtain ⟨r2, z3, zz2, z4⟩ := sz_TableG (l := m) (a := r) (by omega) zz hm2
    rw [z3]
    simp only [Option.bind_some]
    by_cases c2 : r2 < 0
    · rw [if_pos c2]
    · rw [if_neg c2]
      have hl := z2 c
      have hl2 := z4 c2
      have hn : (l.map cvR).length = l.length := List.length_map ..
      have hn2 : (m.map cvR).length = m.length := List.length_map ..
      obtain ⟨b, h1, h2⟩ := both_SameTable (t := l.map cvR) (u := m.map cvR) (by omega) (by omega) (k := K) (by omega)
      rw [to_Table hl (by omega), to_Table hl2 (by omega)]
      simp only [Option.bind_some]
      rw [h1]
      simp only [Option.bind_some]
      rw [h2]
      simp only [Option.bind_some, bne_self_eq_false, Bool.false_eq_true, if_false]
      rw [eq_Table (by omega) (by omega)]
      simp only [Option.bind_some, if_true]
      rw [eq_Table (by omega) (by omega)]
      simp only [Option.bind_some, if_true]

end Go.Proofs.Ytjepabdgmholjaa.Pure
