/- The plain law of FnExactTableText: the program's answer is the reference's. -/
import Derived.Test.YtmbaemcnjdgemaaDoorStmtFnExactTableText
namespace Go.Proofs.YtmbaemcnjdgemaaDoor.Pure
open Go.RowKit Go.Proofs.YtmbaemcnjdgemaaDoor.QFnExactTableText Go.Proofs.YtmbaemcnjdgemaaDoorC.PrintWords Go.Proofs.YtmbaemcnjdgemaaDoorC.PrintLast Go.Proofs.YtmbaemcnjdgemaaDoorC.PrintMore
set_option linter.unusedVariables false
set_option linter.unusedSimpArgs false

theorem len17 {l : Int} (h0 : 0 ≤ l) (h1 : l ≤ 16) : l = 0 ∨ l = 1 ∨ l = 2 ∨ l = 3 ∨ l = 4 ∨ l = 5 ∨ l = 6 ∨ l = 7 ∨ l = 8 ∨ l = 9 ∨ l = 10 ∨ l = 11 ∨ l = 12 ∨ l = 13 ∨ l = 14 ∨ l = 15 ∨ l = 16 := by omega
/-- How many addresses a prefix of length l has. -/
def psz (l : Int) : Int := 2 ^ (16 - l).toNat
theorem psz_pos (l : Int) : 0 < psz l := Int.pow_pos (by decide)
theorem psz_le {l : Int} (h0 : 0 ≤ l) (h1 : l ≤ 16) : psz l ≤ 65536 := by
  rcases len17 h0 h1 with rfl | rfl | rfl | rfl | rfl | rfl | rfl | rfl | rfl | rfl | rfl | rfl | rfl | rfl | rfl | rfl | rfl <;> decide
theorem psz_half {l : Int} (h0 : 0 ≤ l) (h1 : l ≤ 15) : psz l = 2 * psz (l + 1) := by
  rcases len17 h0 (by omega) with rfl | rfl | rfl | rfl | rfl | rfl | rfl | rfl | rfl | rfl | rfl | rfl | rfl | rfl | rfl | rfl | rfl <;> first | decide | omega
theorem psz_top {l : Int} (h0 : 0 ≤ l) (h1 : l ≤ 16) : 65536 = psz l * 2 ^ l.toNat := by
  rcases len17 h0 h1 with rfl | rfl | rfl | rfl | rfl | rfl | rfl | rfl | rfl | rfl | rfl | rfl | rfl | rfl | rfl | rfl | rfl <;> decide
theorem w64 {n : Int} (h0 : -9223372036854775808 ≤ n) (h1 : n ≤ 9223372036854775807) : wrap64 n = n := by unfold wrap64; omega
theorem shl_psz {l : Int} (h0 : 0 ≤ l) (h1 : l ≤ 16) : shl .i64 1 (16 - l) = psz l := by
  rcases len17 h0 h1 with rfl | rfl | rfl | rfl | rfl | rfl | rfl | rfl | rfl | rfl | rfl | rfl | rfl | rfl | rfl | rfl | rfl <;> decide
theorem u64w {n : Int} (h0 : 0 ≤ n) (h1 : n ≤ 16) : IntKind.u64.wrap n = n := by
  rcases len17 h0 h1 with rfl | rfl | rfl | rfl | rfl | rfl | rfl | rfl | rfl | rfl | rfl | rfl | rfl | rfl | rfl | rfl | rfl <;> decide
/-- A valid prefix. -/
def Pok (n l : Int) : Prop := 0 ≤ l ∧ l ≤ 16 ∧ 0 ≤ n ∧ n ≤ 65535 ∧ n % psz l = 0
instance (n l : Int) : Decidable (Pok n l) := by unfold Pok; infer_instance
theorem Pok.top {n l : Int} (h : Pok n l) : n + psz l ≤ 65536 := by
  obtain ⟨h0, h1, h2, h3, h4⟩ := h
  have e := psz_top h0 h1
  have p := psz_pos l
  have d := Int.emod_add_mul_ediv n (psz l)
  rw [h4, Int.zero_add] at d
  have q : n / psz l < 2 ^ l.toNat := by
    apply Int.ediv_lt_of_lt_mul p
    rw [Int.mul_comm]; omega
  have m : psz l * (n / psz l + 1) ≤ psz l * 2 ^ l.toNat := Int.mul_le_mul_of_nonneg_left (by omega) (by omega)
  rw [Int.mul_add] at m
  omega
theorem spec_In (a b c : Int) : spec_l01In.f a b c = some (decide (b ≤ a ∧ a ≤ c)) := by
  unfold spec_l01In.f
  by_cases h : b ≤ a <;> simp [h]
theorem spec_Addr (a : Int) : spec_l01Addr.f a = some (decide (0 ≤ a ∧ a ≤ 65535)) := by
  unfold spec_l01Addr.f; rw [spec_In]; rfl
theorem spec_Size {l : Int} (h0 : 0 ≤ l) (h1 : l ≤ 16) : spec_l01Size2.f l = some (psz l) := by
  unfold spec_l01Size2.f
  rw [w64 (by omega) (by omega), u64w (by omega) (by omega), if_pos (by omega), shl_psz h0 h1]
theorem spec_Pok (n l : Int) : spec_PrefixOk.f n l = some (decide (Pok n l)) := by
  unfold spec_PrefixOk.f
  rw [spec_In, spec_Addr]
  simp only [Option.bind_some, decide_eq_true_eq]
  by_cases hl : 0 ≤ l ∧ l ≤ 16
  · rw [if_pos hl]
    by_cases hn : 0 ≤ n ∧ n ≤ 65535
    · rw [if_pos hn, spec_Size hl.1 hl.2]
      have p := psz_pos l
      simp only [Option.bind_some]
      rw [if_neg (by omega), Int.tmod_eq_emod_of_nonneg hn.1]
      congr 1
      by_cases e : n % psz l = 0
      · rw [e]; simp [Pok, hl, hn, e]
      · simp [Pok, hl, hn, e]
    · rw [if_neg hn]; congr 1; symm; rw [decide_eq_false_iff_not]; unfold Pok; omega
  · rw [if_neg hl]; congr 1; symm; rw [decide_eq_false_iff_not]; unfold Pok; omega
theorem impl_In (a b c : Int) : impl_within.f a b c = some (decide (b ≤ a ∧ a ≤ c)) := by
  unfold impl_within.f
  by_cases h : b ≤ a <;> simp [h]
theorem impl_Addr (a : Int) : impl_isAddr.f a = some (decide (0 ≤ a ∧ a ≤ 65535)) := by
  unfold impl_isAddr.f; rw [impl_In]; rfl
theorem impl_Size (n : Int) {l : Int} (h0 : 0 ≤ l) (h1 : l ≤ 16) : impl_Prefix_size.f n l = some (psz l) := by
  unfold impl_Prefix_size.f
  rw [w64 (by omega) (by omega), if_pos (by omega), shl_psz h0 h1]
theorem impl_Pok (n l : Int) : impl_PrefixOk.f n l = some (decide (Pok n l)) := by
  unfold impl_PrefixOk.f
  rw [impl_In, impl_Addr]
  simp only [Option.bind_some, decide_eq_true_eq]
  by_cases hl : 0 ≤ l ∧ l ≤ 16
  · rw [if_pos hl]
    by_cases hn : 0 ≤ n ∧ n ≤ 65535
    · rw [if_pos hn, impl_Size n hl.1 hl.2]
      have p := psz_pos l
      simp only [Option.bind_some]
      rw [if_neg (by omega), Int.tmod_eq_emod_of_nonneg hn.1]
      congr 1
      by_cases e : n % psz l = 0
      · rw [e]; simp [Pok, hl, hn, e]
      · simp [Pok, hl, hn, e]
    · rw [if_neg hn]; congr 1; symm; rw [decide_eq_false_iff_not]; unfold Pok; omega
  · rw [if_neg hl]; congr 1; symm; rw [decide_eq_false_iff_not]; unfold Pok; omega
/-- A loop that asks each index and ends at the first refusal. -/
theorem all_loop {F : Nat → Int → Option Bool} {n : Nat} {P : Nat → Prop} {e : Bool}
    (hs : ∀ (k i : Nat), i < n → (∀ j, j < i → P j) → (P i ∧ F (k + 1) i = F k ((i : Int) + 1)) ∨ (¬ P i ∧ F (k + 1) i = some false))
    (he : ∀ k : Nat, (∀ j, j < n → P j) → F (k + 1) n = some e) : ∀ (d k i : Nat), i + d = n → d < k → (∀ j, j < i → P j) →
    ∃ b, F k i = some b ∧ (b = true ↔ ((∀ j, j < n → P j) ∧ e = true)) := by
  intro d
  induction d with
  | zero =>
    intro k i hi hk hp
    obtain ⟨k, rfl⟩ : ∃ m, k = m + 1 := ⟨k - 1, by omega⟩
    obtain rfl : i = n := by omega
    exact ⟨e, he k hp, ⟨fun h => ⟨hp, h⟩, fun h => h.2⟩⟩
  | succ d ih =>
    intro k i hi hk hp
    obtain ⟨k, rfl⟩ : ∃ m, k = m + 1 := ⟨k - 1, by omega⟩
    rcases hs k i (by omega) hp with ⟨h1, h2⟩ | ⟨h1, h2⟩
    · have e1 : (i : Int) + 1 = ((i + 1 : Nat) : Int) := by omega
      rw [h2, e1]
      refine ih k (i + 1) (by omega) (by omega) (fun j hj => ?_)
      by_cases hji : j = i
      · rw [hji]; exact h1
      · exact hp j (by omega)
    · refine ⟨false, h2, ⟨(fun h => by cases h), fun h => absurd (h.1 i (by omega)) h1⟩⟩
/-- A loop that copies a list, element by element. -/
theorem copy_loop {α β : Type} {F : Nat → List α → List β → Int → Option (List β)} {cv : α → β} (z : α) {N : Nat}
    (hs : ∀ (k i : Nat) (x : List α) (y : List β), x.length ≤ N → i < x.length → i < y.length → F (k + 1) x y i = F k x (y.set i (cv (x.getD i z))) ((i : Int) + 1))
    (he : ∀ (k : Nat) (x : List α) (y : List β), F (k + 1) x y x.length = some y) (x : List α) (hN : x.length ≤ N) : ∀ (d k i : Nat) (y : List β), i + d = x.length → d < k → y.length = x.length →
    y.take i = (x.take i).map cv → F k x y i = some (x.map cv) := by
  intro d
  induction d with
  | zero =>
    intro k i y hi hk hl ht
    obtain ⟨k, rfl⟩ : ∃ m, k = m + 1 := ⟨k - 1, by omega⟩
    obtain rfl : i = x.length := by omega
    rw [he]
    rw [List.take_of_length_le (by omega), List.take_of_length_le (by omega)] at ht
    rw [ht]
  | succ d ih =>
    intro k i y hi hk hl ht
    obtain ⟨k, rfl⟩ : ∃ m, k = m + 1 := ⟨k - 1, by omega⟩
    have e1 : (i : Int) + 1 = ((i + 1 : Nat) : Int) := by omega
    rw [hs k i x y hN (by omega) (by omega), e1]
    refine ih k (i + 1) _ (by omega) (by omega) (by rw [List.length_set, hl]) ?_
    have hx : i < x.length := by omega
    have hy : i < y.length := by omega
    rw [List.take_succ_eq_append_getElem (by rw [List.length_set]; exact hy), List.take_succ_eq_append_getElem hx, List.map_append, List.take_set, ht]
    congr 1
    · rw [List.set_eq_of_length_le]
      simp; omega
    · simp [List.getD_eq_getElem?_getD, hx]
/-- Two equal lists, compared element by element. -/
theorem same_loop {α : Type} {F : Nat → List α → List α → Int → Option Bool} {N : Nat}
    (hs : ∀ (k i : Nat) (x : List α), x.length ≤ N → i < x.length → F (k + 1) x x i = F k x x ((i : Int) + 1))
    (he : ∀ (k : Nat) (x : List α), F (k + 1) x x x.length = some true) (x : List α) (hN : x.length ≤ N) : ∀ (d k i : Nat), i + d = x.length → d < k → F k x x i = some true := by
  intro d
  induction d with
  | zero =>
    intro k i hi hk
    obtain ⟨k, rfl⟩ : ∃ m, k = m + 1 := ⟨k - 1, by omega⟩
    obtain rfl : i = x.length := by omega
    exact he k x
  | succ d ih =>
    intro k i hi hk
    obtain ⟨k, rfl⟩ : ∃ m, k = m + 1 := ⟨k - 1, by omega⟩
    have e1 : (i : Int) + 1 = ((i + 1 : Nat) : Int) := by omega
    rw [hs k i x hN (by omega), e1]
    exact ih k (i + 1) (by omega) (by omega)
/-- A route, of the laws' type and of the program's. -/
def cvR (x : S86) : S73 := ⟨⟨x.f0.f0, x.f0.f1⟩, x.f1⟩
theorem sz_Table {l : List S86} (h : l.length ≤ 9223372036854775807) : laws_szTable.f l 1048576 = some (if l.length ≤ 1048576 then 1048576 - (l.length : Int) else -1) := by
  unfold laws_szTable.f laws_szRouteS.f
  rw [w64 (by omega) (by omega)]
  by_cases hl : l.length ≤ 1048576
  · rw [if_neg (by omega), if_pos hl]
    simp only [Option.bind_some]
    rw [if_neg (by omega)]
  · rw [if_pos (by omega), if_neg hl]
    rfl
theorem to_RouteS {l : List S86} {k : Nat} (h : l.length ≤ 1048576) (hk : l.length < k) : laws_toRouteS.f k l = some (l.map cvR) := by
  unfold laws_toRouteS.f
  rw [if_pos (by omega), if_pos (by omega)]
  refine copy_loop (F := laws_toRouteS.l0) (cv := cvR) z86 (N := 1048576) ?_ ?_ l h l.length k 0 _ (by omega) hk (by simp) (by simp)
  · intro k i x y hN hx hy
    simp only [laws_toRouteS.l0]
    rw [if_pos (by omega), if_pos (by omega)]
    unfold laws_toRoute.f laws_toPrefix.f
    simp only [Option.bind_some]
    rw [if_pos (by omega), w64 (by omega) (by omega)]
    simp [rd_T86, cvR]
  · intro k x y
    simp only [laws_toRouteS.l0]
    rw [if_neg (by omega)]
theorem to_Table {l : List S86} {k : Nat} (h : l.length ≤ 1048576) (hk : l.length < k) : laws_toTable.f k l = some (l.map cvR) := by
  unfold laws_toTable.f
  rw [to_RouteS h hk]; rfl
theorem eq_RouteS {l : List S73} {k : Nat} (h : l.length ≤ 1048576) (hk : l.length < k) : laws_eqRouteS.f k l l = some true := by
  unfold laws_eqRouteS.f
  rw [if_pos rfl]
  refine same_loop (F := laws_eqRouteS.l0) (N := 1048576) ?_ ?_ l h l.length k 0 (by omega) hk
  · intro k i x hN hx
    simp only [laws_eqRouteS.l0]
    rw [if_pos (by omega), if_pos (by omega), if_pos (by omega)]
    unfold laws_eqRoute.f laws_eqPrefix.f
    simp only [if_true, Option.bind_some]
    rw [w64 (by omega) (by omega)]
  · intro k x
    simp only [laws_eqRouteS.l0]
    rw [if_neg (by omega)]
theorem eq_Table {l : List S73} {k : Nat} (h : l.length ≤ 1048576) (hk : l.length < k) : laws_eqTable.f k l l = some true := by
  unfold laws_eqTable.f
  rw [eq_RouteS h hk]; rfl
/-- Prefix a stands ahead of prefix b. -/
def Ahead (n l m k : Int) : Prop := n < m ∨ n = m ∧ l < k
/-- The route at an index is valid and stands behind the one ahead of it. -/
def Rat (t : List S73) (j : Nat) : Prop :=
  Pok (rd_T73 t j).f0.f0 (rd_T73 t j).f0.f1 ∧ (0 ≤ (rd_T73 t j).f1 ∧ (rd_T73 t j).f1 ≤ 999) ∧
    (0 < j → Ahead (rd_T73 t ((j : Int) - 1)).f0.f0 (rd_T73 t ((j : Int) - 1)).f0.f1 (rd_T73 t j).f0.f0 (rd_T73 t j).f0.f1)
theorem spec_Ahead (n l m k : Int) : ∃ b, spec_l02Ahead.f n l m k = some b ∧ (b = true ↔ Ahead n l m k) := by
  unfold spec_l02Ahead.f Ahead
  by_cases h : n < m
  · exact ⟨true, by rw [if_pos h], by simp [h]⟩
  · by_cases h2 : n = m
    · exact ⟨decide (l < k), by rw [if_neg h, if_pos h2], by simp [h2]⟩
    · exact ⟨false, by rw [if_neg h, if_neg h2], by simp [h, h2]⟩
theorem impl_Compare {n l m k : Int} (h1 : Pok n l) (h2 : Pok m k) : ∃ c, impl_comparePrefixes.f n l m k = some c ∧ (¬ c ≥ 0 ↔ Ahead n l m k) := by
  obtain ⟨a0, a1, a2, a3, _⟩ := h1
  obtain ⟨b0, b1, b2, b3, _⟩ := h2
  unfold impl_comparePrefixes.f Ahead
  by_cases h : n = m
  · refine ⟨l - k, by rw [if_pos h, w64 (by omega) (by omega)], by omega⟩
  · refine ⟨n - m, by rw [if_neg h, w64 (by omega) (by omega)], by omega⟩
theorem spec_tab {t : List S73} (h : t.length ≤ 1048576) {k : Nat} (hk : t.length < k) : ∃ b, spec_TableOk.l0 k 0 t = some b ∧ (b = true ↔ ∀ j, j < t.length → Rat t j) := by
  have x := all_loop (F := fun k i => spec_TableOk.l0 k i t) (n := t.length) (P := Rat t) (e := true) ?_ ?_ t.length k 0 (by omega) hk (fun j hj => by omega)
  · obtain ⟨b, h1, h2⟩ := x
    exact ⟨b, h1, by simpa using h2⟩
  · intro k i hi hp
    simp only [spec_TableOk.l0]
    rw [if_pos (by omega), if_pos (by omega), spec_Pok, spec_In]
    simp only [Option.bind_some, decide_eq_true_eq]
    by_cases c1 : Pok (rd_T73 t i).f0.f0 (rd_T73 t i).f0.f1
    · rw [if_pos c1]
      by_cases c2 : 0 ≤ (rd_T73 t i).f1 ∧ (rd_T73 t i).f1 ≤ 999
      · rw [if_pos c2]
        by_cases c3 : i = 0
        · subst c3
          rw [if_neg (by omega), w64 (by omega) (by omega)]
          exact .inl ⟨⟨c1, c2, fun h => by omega⟩, rfl⟩
        · rw [if_pos (by omega), w64 (n := (i : Int) - 1) (by omega) (by omega), if_pos (by omega), if_pos (by omega)]
          obtain ⟨b, hb, hb2⟩ := spec_Ahead (rd_T73 t ((i : Int) - 1)).f0.f0 (rd_T73 t ((i : Int) - 1)).f0.f1 (rd_T73 t i).f0.f0 (rd_T73 t i).f0.f1
          rw [hb]
          simp only [Option.bind_some]
          by_cases c4 : b = true
          · rw [if_pos c4, w64 (by omega) (by omega)]
            exact .inl ⟨⟨c1, c2, fun _ => hb2.1 c4⟩, rfl⟩
          · rw [if_neg c4]
            exact .inr ⟨fun h => c4 (hb2.2 (h.2.2 (by omega))), rfl⟩
      · rw [if_neg c2]
        exact .inr ⟨fun h => c2 h.2.1, rfl⟩
    · rw [if_neg c1]
      exact .inr ⟨fun h => c1 h.1, rfl⟩
  · intro k _
    simp only [spec_TableOk.l0]
    rw [if_neg (by omega)]
theorem impl_tab {t : List S73} (h : t.length ≤ 1048576) {k : Nat} (hk : t.length < k) : ∃ b, impl_TableOk.f k t = some b ∧ (b = true ↔ (∀ j, j < t.length → Rat t j) ∧ t.length ≤ 120) := by
  unfold impl_TableOk.f
  have x := all_loop (F := fun k i => impl_TableOk.l0 k t t.length i t) (n := t.length) (P := Rat t) (e := decide (t.length ≤ 120)) ?_ ?_ t.length k 0 (by omega) hk (fun j hj => by omega)
  · obtain ⟨b, h1, h2⟩ := x
    exact ⟨b, h1, by simpa using h2⟩
  · intro k i hi hp
    simp only [impl_TableOk.l0]
    unfold impl_isRoute.f
    rw [if_pos (by omega), if_pos (by omega), if_pos (by omega), impl_Pok, impl_In]
    simp only [Option.bind_some, decide_eq_true_eq]
    by_cases c1 : Pok (rd_T73 t i).f0.f0 (rd_T73 t i).f0.f1
    · rw [if_pos c1]
      simp only [Option.bind_some, decide_eq_true_eq]
      by_cases c2 : 0 ≤ (rd_T73 t i).f1 ∧ (rd_T73 t i).f1 ≤ 999
      · rw [if_pos c2]
        by_cases c3 : i = 0
        · subst c3
          rw [if_neg (by omega), w64 (by omega) (by omega)]
          exact .inl ⟨⟨c1, c2, fun h => by omega⟩, rfl⟩
        · rw [if_pos (by omega), w64 (n := (i : Int) - 1) (by omega) (by omega), if_pos (by omega), if_pos (by omega)]
          have e1 : (((i - 1 : Nat) : Int)) = (i : Int) - 1 := by omega
          have pv := (hp (i - 1) (by omega)).1
          rw [e1] at pv
          obtain ⟨b, hb, hb2⟩ := impl_Compare pv c1
          rw [hb]
          simp only [Option.bind_some]
          by_cases c4 : b ≥ 0
          · rw [if_pos c4]
            exact .inr ⟨fun h => hb2.2 (h.2.2 (by omega)) c4, rfl⟩
          · rw [if_neg c4, w64 (by omega) (by omega)]
            exact .inl ⟨⟨c1, c2, fun _ => hb2.1 c4⟩, rfl⟩
      · rw [if_neg c2]
        exact .inr ⟨fun h => c2 h.2.1, rfl⟩
    · rw [if_neg c1]
      simp only [Option.bind_some]
      exact .inr ⟨fun h => c1 h.1, rfl⟩
  · intro k _
    simp only [impl_TableOk.l0]
    rw [if_neg (by omega)]
    congr 1
    rw [decide_eq_decide]; omega
/-- A valid table. -/
def Tok (t : List S73) : Prop := (∀ j, j < t.length → Rat t j) ∧ t.length ≤ 120
theorem spec_Tok {t : List S73} (h : t.length ≤ 1048576) {k : Nat} (hk : t.length < k) : ∃ b, spec_TableOk.f k t = some b ∧ (b = true ↔ Tok t) := by
  unfold spec_TableOk.f Tok
  by_cases hl : (t.length : Int) > 120
  · exact ⟨false, by rw [if_pos hl], by simp; omega⟩
  · obtain ⟨b, h1, h2⟩ := spec_tab h hk
    exact ⟨b, by rw [if_neg hl, h1], by rw [h2]; exact ⟨fun x => ⟨x, by omega⟩, fun x => x.1⟩⟩
theorem ba_app (l : List UInt8) (m : List UInt8) : (⟨l.toArray⟩ : ByteArray) ++ (⟨m.toArray⟩ : ByteArray) = ⟨(l ++ m).toArray⟩ := by
  apply ByteArray.ext
  rw [ByteArray.data_append]
  simp
theorem ba_size (l : List UInt8) : (⟨l.toArray⟩ : ByteArray).size = l.length := by
  show l.toArray.size = l.length
  simp
theorem dig_str (d : Nat) (hd : d < 10) : strOfNums [(wrap64 (48 + (d : Int))) % 256] = ⟨[UInt8.ofNat (48 + d)].toArray⟩ := by
  rw [w64 (by omega) (by omega)]
  rcases (show d = 0 ∨ d = 1 ∨ d = 2 ∨ d = 3 ∨ d = 4 ∨ d = 5 ∨ d = 6 ∨ d = 7 ∨ d = 8 ∨ d = 9 by omega) with rfl | rfl | rfl | rfl | rfl | rfl | rfl | rfl | rfl | rfl <;> rfl
theorem num_loop : ∀ (m : Nat), 0 < m → m ≤ 1000000 → ∀ (k : Nat) (o : List UInt8), m < k → o.length + m ≤ 2000000 → spec_l01Num.l0 (k + 1) m ⟨o.toArray⟩ false = some ⟨(Lib.decDigits m ++ o).toArray⟩ := by
  intro m
  induction m using Nat.strongRecOn with
  | _ m ih =>
    intro h0 h1 k o hk ho
    have td : Int.tdiv (m : Int) 10 = ((m / 10 : Nat) : Int) := by rw [Int.tdiv_eq_ediv_of_nonneg (by omega)]; omega
    have tm : Int.tmod (m : Int) 10 = ((m % 10 : Nat) : Int) := by rw [Int.tmod_eq_emod_of_nonneg (by omega)]; omega
    simp only [spec_l01Num.l0]
    rw [if_neg (by omega), tm, if_neg (by omega)]
    simp only [Option.bind_some]
    rw [dig_str (m % 10) (by omega), ba_size, ba_size, if_pos (by simp; omega), ba_app, td, w64 (n := ((m / 10 : Nat) : Int)) (by omega) (by omega)]
    obtain ⟨k, rfl⟩ : ∃ q, k = q + 1 := ⟨k - 1, by omega⟩
    by_cases c : m < 10
    · have e : m / 10 = 0 := by omega
      have e2 : m % 10 = m := by omega
      rw [e, e2, Lib.decDigits_one c]
      simp only [spec_l01Num.l0]
      rw [if_pos (show ((0 : Nat) : Int) = 0 from rfl), if_neg (by decide)]
    · rw [ih (m / 10) (by omega) (by omega) (by omega) k _ (by omega) (by simp; omega)]
      have e : Lib.decDigits m = Lib.decDigits (m / 10) ++ [UInt8.ofNat (48 + m % 10)] := by rw [Lib.decDigits, dif_neg c]
      rw [e, List.append_assoc]
theorem num_ok {n : Nat} (h : n ≤ 1000000) {k : Nat} (hk : n + 1 < k) : spec_l01Num.f k n = some ⟨(Lib.decDigits n).toArray⟩ := by
  unfold spec_l01Num.f
  by_cases c : n = 0
  · subst c
    rw [if_pos (show ((0 : Nat) : Int) = 0 from rfl), Lib.decDigits_one (by omega)]
    rfl
  · obtain ⟨k, rfl⟩ : ∃ q, k = q + 1 := ⟨k - 1, by omega⟩
    have z := num_loop n (by omega) h k [] (by omega) (by simp; omega)
    rw [if_neg (by omega), decide_eq_false (by omega)]
    rw [List.append_nil] at z
    exact z
theorem itoa_ok {n : Nat} (h : n ≤ 1000000) : strconv_Itoa_46.f n = some ⟨(Lib.decDigits n).toArray⟩ := by
  unfold strconv_Itoa_46.f Lib.itoa
  rw [if_pos (by omega), if_neg (by omega), Int.toNat_natCast]
theorem dec_len (n : Nat) (h : n ≤ 1000000) : (Lib.decDigits n).length ≤ 20 := by
  have key : ∀ (d n : Nat), n < 10 ^ d → 0 < d → (Lib.decDigits n).length ≤ d := by
    intro d
    induction d with
    | zero => exact fun n _ h => absurd h (Nat.lt_irrefl 0)
    | succ d ih =>
      intro n hn _
      by_cases c : n < 10
      · rw [Lib.decDigits_one c]; simp
      · rw [Lib.decDigits, dif_neg c, List.length_append, List.length_singleton]
        have hd : 0 < d := by
          rcases Nat.eq_zero_or_pos d with rfl | h
          · simp at hn; omega
          · exact h
        have := ih (n / 10) (by rw [Nat.pow_succ] at hn; omega) hd
        omega
  exact key 20 n (Nat.lt_of_le_of_lt h (by decide)) (by decide)
/-- The text of a prefix. -/
def ptxt (n l : Nat) : List UInt8 := (((Lib.decDigits (n / 256) ++ [46]) ++ Lib.decDigits (n % 256)) ++ [47]) ++ Lib.decDigits l
theorem spec_text {n l : Int} (h : Pok n l) {k : Nat} (hk : 1000000 < k) : spec_PrefixText.f k n l = some ⟨(ptxt n.toNat l.toNat).toArray⟩ := by
  have h' := h
  obtain ⟨b0, b1, b2, b3, b4⟩ := h'
  obtain ⟨n, rfl⟩ := Int.eq_ofNat_of_zero_le b2
  obtain ⟨l, rfl⟩ := Int.eq_ofNat_of_zero_le b0
  have td : Int.tdiv (n : Int) 256 = ((n / 256 : Nat) : Int) := by rw [Int.tdiv_eq_ediv_of_nonneg (by omega)]; omega
  have tm : Int.tmod (n : Int) 256 = ((n % 256 : Nat) : Int) := by rw [Int.tmod_eq_emod_of_nonneg (by omega)]; omega
  have l1 := dec_len (n / 256) (by omega)
  have l2 := dec_len (n % 256) (by omega)
  have l3 := dec_len l (by omega)
  have d46 : (⟨#[46]⟩ : ByteArray) = ⟨[(46 : UInt8)].toArray⟩ := rfl
  have d47 : (⟨#[47]⟩ : ByteArray) = ⟨[(47 : UInt8)].toArray⟩ := rfl
  unfold spec_PrefixText.f
  rw [spec_Pok, decide_eq_true h]
  rw [Option.bind_some, if_pos rfl, td, tm, w64 (n := ((n / 256 : Nat) : Int)) (by omega) (by omega), num_ok (by omega) (by omega)]
  rw [Option.bind_some, ba_size, if_pos (by omega), num_ok (by omega) (by omega)]
  rw [Option.bind_some, d46, d47, ba_app, ba_size, ba_size, if_pos (by simp; omega), ba_app, ba_size, if_pos (by simp; omega), num_ok (by omega) (by omega)]
  rw [Option.bind_some, ba_app, ba_size, ba_size, if_pos (by simp; omega), ba_app]
  rfl
theorem impl_text {n l : Int} (h : Pok n l) : impl_Prefix_text.f n l = some ⟨(ptxt n.toNat l.toNat).toArray⟩ := by
  have h' := h
  obtain ⟨b0, b1, b2, b3, b4⟩ := h'
  obtain ⟨n, rfl⟩ := Int.eq_ofNat_of_zero_le b2
  obtain ⟨l, rfl⟩ := Int.eq_ofNat_of_zero_le b0
  have td : Int.tdiv (n : Int) 256 = ((n / 256 : Nat) : Int) := by rw [Int.tdiv_eq_ediv_of_nonneg (by omega)]; omega
  have tm : Int.tmod (n : Int) 256 = ((n % 256 : Nat) : Int) := by rw [Int.tmod_eq_emod_of_nonneg (by omega)]; omega
  have l1 := dec_len (n / 256) (by omega)
  have l2 := dec_len (n % 256) (by omega)
  have l3 := dec_len l (by omega)
  have d46 : (⟨#[46]⟩ : ByteArray) = ⟨[(46 : UInt8)].toArray⟩ := rfl
  have d47 : (⟨#[47]⟩ : ByteArray) = ⟨[(47 : UInt8)].toArray⟩ := rfl
  unfold impl_Prefix_text.f
  rw [td, tm, w64 (n := ((n / 256 : Nat) : Int)) (by omega) (by omega), itoa_ok (by omega)]
  rw [Option.bind_some, ba_size, if_pos (by omega), itoa_ok (by omega)]
  rw [Option.bind_some, d46, d47, ba_app, ba_size, ba_size, if_pos (by simp; omega), ba_app, ba_size, if_pos (by simp; omega), itoa_ok (by omega)]
  rw [Option.bind_some, ba_app, ba_size, ba_size, if_pos (by simp; omega), ba_app]
  rfl
/-- The text of a route: its prefix, a blank, its hop, a line's end. -/
def rtxt (x : S73) : List UInt8 := ((ptxt x.f0.f0.toNat x.f0.f1.toNat ++ [32]) ++ Lib.decDigits x.f1.toNat) ++ [10]
/-- The text of d routes, from an index on. -/
def ttxt (t : List S73) : Nat → Nat → List UInt8
  | _, 0 => []
  | i, d + 1 => rtxt (rd_T73 t i) ++ ttxt t (i + 1) d
theorem rtxt_len {x : S73} (h : Pok x.f0.f0 x.f0.f1) (h1 : 0 ≤ x.f1 ∧ x.f1 ≤ 999) : (ptxt x.f0.f0.toNat x.f0.f1.toNat).length ≤ 70 ∧ (Lib.decDigits x.f1.toNat).length ≤ 20 ∧ (rtxt x).length ≤ 100 := by
  obtain ⟨b0, b1, b2, b3, b4⟩ := h
  have l1 := dec_len (x.f0.f0.toNat / 256) (by omega)
  have l2 := dec_len (x.f0.f0.toNat % 256) (by omega)
  have l3 := dec_len x.f0.f1.toNat (by omega)
  have l4 := dec_len x.f1.toNat (by omega)
  unfold rtxt ptxt
  simp only [List.length_append, List.length_singleton]
  omega
theorem spec_ttext {t : List S73} (hl : t.length ≤ 120) (h : ∀ j, j < t.length → Rat t j) : ∀ (d i k : Nat) (o : List UInt8), i + d = t.length → 2000000 + d < k → o.length + 100 * d ≤ 20000 → spec_TableText.l0 k ⟨o.toArray⟩ i t = some ⟨(o ++ ttxt t i d).toArray⟩ := by
  intro d
  induction d with
  | zero =>
    intro i k o hi hk ho
    obtain ⟨k, rfl⟩ : ∃ q, k = q + 1 := ⟨k - 1, by omega⟩
    simp only [spec_TableText.l0]
    rw [if_neg (by omega), ttxt, List.append_nil]
  | succ d ih =>
    intro i k o hi hk ho
    obtain ⟨k, rfl⟩ : ∃ q, k = q + 1 := ⟨k - 1, by omega⟩
    obtain ⟨g1, g2, -⟩ := h i (by omega)
    obtain ⟨e1, e2, e3⟩ := rtxt_len g1 g2
    have d32 : (⟨#[32]⟩ : ByteArray) = ⟨[(32 : UInt8)].toArray⟩ := rfl
    have d10 : (⟨#[10]⟩ : ByteArray) = ⟨[(10 : UInt8)].toArray⟩ := rfl
    simp only [spec_TableText.l0]
    rw [if_pos (by omega), if_pos (by omega), spec_text g1 (by omega)]
    rw [Option.bind_some, ba_size, ba_size, if_pos (by omega), ba_app, ba_size, if_pos (by rw [List.length_append]; omega)]
    rw [show (rd_T73 t i).f1 = (((rd_T73 t i).f1.toNat : Nat) : Int) by omega, num_ok (by omega) (by omega)]
    rw [Option.bind_some, d32, d10, ba_app, ba_size, ba_size, if_pos (by rw [List.length_append, List.length_append, List.length_singleton]; omega), ba_app, ba_size, if_pos (by rw [List.length_append, List.length_append, List.length_append, List.length_singleton]; omega), ba_app, w64 (by omega) (by omega)]
    have e : ((((o ++ ptxt (rd_T73 t i).f0.f0.toNat (rd_T73 t i).f0.f1.toNat) ++ [32]) ++ Lib.decDigits (rd_T73 t i).f1.toNat) ++ [10]) = o ++ rtxt (rd_T73 t i) := by unfold rtxt; simp only [List.append_assoc]
    have z := ih (i + 1) k (o ++ rtxt (rd_T73 t i)) (by omega) (by omega) (by rw [List.length_append]; omega)
    rw [e, ttxt, ← List.append_assoc]
    exact z
theorem impl_ttext {t : List S73} (hl : t.length ≤ 120) (h : ∀ j, j < t.length → Rat t j) : ∀ (d i k : Nat) (o : List UInt8), i + d = t.length → d < k → o.length + 100 * d ≤ 20000 → impl_TableText.l0 k i ⟨o.toArray⟩ t = some ⟨(o ++ ttxt t i d).toArray⟩ := by
  intro d
  induction d with
  | zero =>
    intro i k o hi hk ho
    obtain ⟨k, rfl⟩ : ∃ q, k = q + 1 := ⟨k - 1, by omega⟩
    simp only [impl_TableText.l0]
    rw [if_neg (by omega), ttxt, List.append_nil]
  | succ d ih =>
    intro i k o hi hk ho
    obtain ⟨k, rfl⟩ : ∃ q, k = q + 1 := ⟨k - 1, by omega⟩
    obtain ⟨g1, g2, -⟩ := h i (by omega)
    obtain ⟨e1, e2, e3⟩ := rtxt_len g1 g2
    have d32 : (⟨#[32]⟩ : ByteArray) = ⟨[(32 : UInt8)].toArray⟩ := rfl
    have d10 : (⟨#[10]⟩ : ByteArray) = ⟨[(10 : UInt8)].toArray⟩ := rfl
    simp only [impl_TableText.l0]
    rw [if_pos (by omega), if_pos (by omega), impl_text g1]
    rw [Option.bind_some, ba_size, if_pos (by omega)]
    rw [show (rd_T73 t i).f1 = (((rd_T73 t i).f1.toNat : Nat) : Int) by omega, itoa_ok (by omega)]
    rw [Option.bind_some, d32, d10, ba_app, ba_size, ba_size, if_pos (by rw [List.length_append, List.length_singleton]; omega), ba_app, ba_size, if_pos (by rw [List.length_append, List.length_append, List.length_singleton]; omega), ba_app, ba_size, ba_size]
    have e : (((ptxt (rd_T73 t i).f0.f0.toNat (rd_T73 t i).f0.f1.toNat ++ [32]) ++ Lib.decDigits (rd_T73 t i).f1.toNat) ++ [10]) = rtxt (rd_T73 t i) := rfl
    rw [e, if_pos (by omega), ba_app, w64 (by omega) (by omega)]
    have z := ih (i + 1) k (o ++ rtxt (rd_T73 t i)) (by omega) (by omega) (by rw [List.length_append]; omega)
    rw [ttxt, ← List.append_assoc]
    exact z
theorem FnExactTableText : FnExactTableText.Pure := by
  intro l hw
  have hm : l.length ≤ 9223372036854775807 := hw.1
  obtain ⟨K, hK⟩ : ∃ K, K = l.length + 3000000 := ⟨_, rfl⟩
  refine ⟨K, ?_⟩
  unfold laws_FnExactTableText.f
  rw [sz_Table hm]
  rw [Option.bind_some]
  by_cases hl : l.length ≤ 1048576
  · have hn : (l.map cvR).length = l.length := List.length_map ..
    obtain ⟨b1, s1, s2⟩ := spec_Tok (t := l.map cvR) (by omega) (k := K) (by omega)
    obtain ⟨b2, i1, i2⟩ := impl_tab (t := l.map cvR) (by omega) (k := K) (by omega)
    have e : b2 = b1 := by
      rw [Bool.eq_iff_iff, i2, s2]; rfl
    have key : ∃ s, spec_TableText.f K (l.map cvR) = some s ∧ impl_TableText.f K (l.map cvR) = some s := by
      unfold spec_TableText.f impl_TableText.f
      rw [s1, i1, e, Option.bind_some, Option.bind_some]
      by_cases c : b1 = true
      · obtain ⟨r1, r2⟩ := s2.1 c
        rw [if_pos c, if_pos c]
        refine ⟨⟨([] ++ ttxt (l.map cvR) 0 (l.map cvR).length).toArray⟩, ?_, ?_⟩
        · exact spec_ttext r2 r1 (l.map cvR).length 0 K [] (by omega) (by omega) (by simp only [List.length_nil]; omega)
        · exact impl_ttext r2 r1 (l.map cvR).length 0 K [] (by omega) (by omega) (by simp only [List.length_nil]; omega)
      · rw [if_neg c, if_neg c]
        exact ⟨_, rfl, rfl⟩
    obtain ⟨s, k1, k2⟩ := key
    rw [if_pos hl, if_neg (by omega), to_Table hl (by omega)]
    rw [Option.bind_some, k1, Option.bind_some, Option.bind_some, k2, Option.bind_some, if_pos rfl, Option.bind_some, eq_Table (by omega) (by omega)]
    rw [Option.bind_some, if_pos rfl]
  · rw [if_neg hl]; rfl

end Go.Proofs.YtmbaemcnjdgemaaDoor.Pure
