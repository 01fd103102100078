/- For every input the law FnExactBestRoute holds of the functions that the program's text computes, over numbers and lists alone. -/
import Derived.Test.YtjepabdgmholjaaStmtFnExactBestRoute
namespace Go.Proofs.Ytjepabdgmholjaa.Pure
open Go.RowKit Go.Proofs.Ytjepabdgmholjaa.PFnExactBestRoute Go.Proofs.YtjepabdgmholjaaW.PrintWords Go.Proofs.YtjepabdgmholjaaW.PrintLast Go.Proofs.YtjepabdgmholjaaW.PrintMore
set_option linter.unusedVariables false
set_option linter.unusedSimpArgs false

theorem len17 {l : Int} (h0 : 0 ≤ l) (h1 : l ≤ 16) : l = 0 ∨ l = 1 ∨ l = 2 ∨ l = 3 ∨ l = 4 ∨ l = 5 ∨ l = 6 ∨ l = 7 ∨ l = 8 ∨ l = 9 ∨ l = 10 ∨ l = 11 ∨ l = 12 ∨ l = 13 ∨ l = 14 ∨ l = 15 ∨ l = 16 := by omega
/-- How many addresses a prefix of length l has. -/
def psz (l : Int) : Int := 2 ^ (16 - l).toNat
theorem psz_pos (l : Int) : 0 < psz l := Int.pow_pos (by decide)
theorem psz_le {l : Int} (h0 : 0 ≤ l) (h1 : l ≤ 16) : psz l ≤ 65536 := by
  rcases len17 h0 h1 with rfl | rfl | rfl | rfl | rfl | rfl | rfl | rfl | rfl | rfl | rfl | rfl | rfl | rfl | rfl | rfl | rfl <;> decide
theorem psz_half {l : Int} (h0 : 0 ≤ l) (h1 : l ≤ 15) : psz l = 2 * psz (l + 1) := by
  rcases len17 h0 (by omega) with rfl | rfl | rfl | rfl | rfl | rfl | rfl | rfl | rfl | rfl | rfl | rfl | rfl | rfl | rfl | rfl | rfl <;> first | decide | omega
theorem psz_top {l : Int} (h0 : 0 ≤ l) (h1 : l ≤ 16) : 65536 = psz l * 2 ^ l.toNat := by
  rcases len17 h0 h1 with rfl | rfl | rfl | rfl | rfl | rfl | rfl | rfl | rfl | rfl | rfl | rfl | rfl | rfl | rfl | rfl | rfl <;> decide
theorem w64 {n : Int} (h0 : -9223372036854775808 ≤ n) (h1 : n ≤ 9223372036854775807) : wrap64 n = n := by unfold wrap64; omega
theorem shl_psz {l : Int} (h0 : 0 ≤ l) (h1 : l ≤ 16) : shl .i64 1 (16 - l) = psz l := by
  rcases len17 h0 h1 with rfl | rfl | rfl | rfl | rfl | rfl | rfl | rfl | rfl | rfl | rfl | rfl | rfl | rfl | rfl | rfl | rfl <;> decide
theorem u64w {n : Int} (h0 : 0 ≤ n) (h1 : n ≤ 16) : IntKind.u64.wrap n = n := by
  rcases len17 h0 h1 with rfl | rfl | rfl | rfl | rfl | rfl | rfl | rfl | rfl | rfl | rfl | rfl | rfl | rfl | rfl | rfl | rfl <;> decide
/-- A valid prefix. -/
def Pok (n l : Int) : Prop := 0 ≤ l ∧ l ≤ 16 ∧ 0 ≤ n ∧ n ≤ 65535 ∧ n % psz l = 0
instance (n l : Int) : Decidable (Pok n l) := by unfold Pok; infer_instance
theorem Pok.top {n l : Int} (h : Pok n l) : n + psz l ≤ 65536 := by
  obtain ⟨h0, h1, h2, h3, h4⟩ := h
  have e := psz_top h0 h1
  have p := psz_pos l
  have d := Int.emod_add_mul_ediv n (psz l)
  rw [h4, Int.zero_add] at d
  have q : n / psz l < 2 ^ l.toNat := by
    apply Int.ediv_lt_of_lt_mul p
    rw [Int.mul_comm]; omega
  have m : psz l * (n / psz l + 1) ≤ psz l * 2 ^ l.toNat := Int.mul_le_mul_of_nonneg_left (by omega) (by omega)
  rw [Int.mul_add] at m
  omega
theorem spec_In (a b c : Int) : spec_l01In.f a b c = some (decide (b ≤ a ∧ a ≤ c)) := by
  unfold spec_l01In.f
  by_cases h : b ≤ a <;> simp [h]
theorem spec_Addr (a : Int) : spec_l01Addr.f a = some (decide (0 ≤ a ∧ a ≤ 65535)) := by
  unfold spec_l01Addr.f; rw [spec_In]; rfl
theorem spec_Size {l : Int} (h0 : 0 ≤ l) (h1 : l ≤ 16) : spec_l01Size2.f l = some (psz l) := by
  unfold spec_l01Size2.f
  rw [w64 (by omega) (by omega), u64w (by omega) (by omega), if_pos (by omega), shl_psz h0 h1]
theorem spec_Pok (n l : Int) : spec_PrefixOk.f n l = some (decide (Pok n l)) := by
  unfold spec_PrefixOk.f
  rw [spec_In, spec_Addr]
  simp only [Option.bind_some, decide_eq_true_eq]
  by_cases hl : 0 ≤ l ∧ l ≤ 16
  · rw [if_pos hl]
    by_cases hn : 0 ≤ n ∧ n ≤ 65535
    · rw [if_pos hn, spec_Size hl.1 hl.2]
      have p := psz_pos l
      simp only [Option.bind_some]
      rw [if_neg (by omega), Int.tmod_eq_emod_of_nonneg hn.1]
      congr 1
      by_cases e : n % psz l = 0
      · rw [e]; simp [Pok, hl, hn, e]
      · simp [Pok, hl, hn, e]
    · rw [if_neg hn]; congr 1; symm; rw [decide_eq_false_iff_not]; unfold Pok; omega
  · rw [if_neg hl]; congr 1; symm; rw [decide_eq_false_iff_not]; unfold Pok; omega
theorem impl_In (a b c : Int) : impl_within.f a b c = some (decide (b ≤ a ∧ a ≤ c)) := by
  unfold impl_within.f
  by_cases h : b ≤ a <;> simp [h]
theorem impl_Addr (a : Int) : impl_isAddr.f a = some (decide (0 ≤ a ∧ a ≤ 65535)) := by
  unfold impl_isAddr.f; rw [impl_In]; rfl
theorem impl_Size (n : Int) {l : Int} (h0 : 0 ≤ l) (h1 : l ≤ 16) : impl_Prefix_size.f n l = some (psz l) := by
  unfold impl_Prefix_size.f
  rw [w64 (by omega) (by omega), if_pos (by omega), shl_psz h0 h1]
theorem impl_Pok (n l : Int) : impl_PrefixOk.f n l = some (decide (Pok n l)) := by
  unfold impl_PrefixOk.f
  rw [impl_In, impl_Addr]
  simp only [Option.bind_some, decide_eq_true_eq]
  by_cases hl : 0 ≤ l ∧ l ≤ 16
  · rw [if_pos hl]
    by_cases hn : 0 ≤ n ∧ n ≤ 65535
    · rw [if_pos hn, impl_Size n hl.1 hl.2]
      have p := psz_pos l
      simp only [Option.bind_some]
      rw [if_neg (by omega), Int.tmod_eq_emod_of_nonneg hn.1]
      congr 1
      by_cases e : n % psz l = 0
      · rw [e]; simp [Pok, hl, hn, e]
      · simp [Pok, hl, hn, e]
    · rw [if_neg hn]; congr 1; symm; rw [decide_eq_false_iff_not]; unfold Pok; omega
  · rw [if_neg hl]; congr 1; symm; rw [decide_eq_false_iff_not]; unfold Pok; omega
/-- A prefix holds an address. -/
def Phas (n l a : Int) : Prop := n ≤ a ∧ a ≤ n + psz l - 1
instance (n l a : Int) : Decidable (Phas n l a) := by unfold Phas; infer_instance
theorem spec_Has (n l a : Int) : spec_HasAddr.f n l a = some (decide (Pok n l ∧ Phas n l a)) := by
  unfold spec_HasAddr.f
  rw [spec_Pok]
  simp only [Option.bind_some, decide_eq_true_eq]
  by_cases h : Pok n l
  · have p := psz_pos l
    have p2 := psz_le h.1 h.2.1
    have h3 := h
    unfold Pok at h3
    rw [if_pos h, spec_Size h.1 h.2.1]
    simp only [Option.bind_some]
    rw [w64 (n := n + psz l) (by omega) (by omega), w64 (by omega) (by omega), spec_In]
    simp [h, Phas]
  · simp [h]
theorem impl_has {n l : Int} (h : Pok n l) (a : Int) : impl_Prefix_has.f n l a = some (decide (Phas n l a)) := by
  have p := psz_pos l
  have p2 := psz_le h.1 h.2.1
  have h3 := h
  unfold Pok at h3
  unfold impl_Prefix_has.f
  rw [impl_Size n h.1 h.2.1]
  simp only [Option.bind_some]
  rw [w64 (n := n + psz l) (by omega) (by omega), w64 (by omega) (by omega), impl_In]
  rfl
/-- A loop that asks each index and ends at the first refusal. -/
theorem all_loop {F : Nat → Int → Option Bool} {n : Nat} {P : Nat → Prop} {e : Bool}
    (hs : ∀ (k i : Nat), i < n → (∀ j, j < i → P j) → (P i ∧ F (k + 1) i = F k ((i : Int) + 1)) ∨ (¬ P i ∧ F (k + 1) i = some false))
    (he : ∀ k : Nat, (∀ j, j < n → P j) → F (k + 1) n = some e) : ∀ (d k i : Nat), i + d = n → d < k → (∀ j, j < i → P j) →
    ∃ b, F k i = some b ∧ (b = true ↔ ((∀ j, j < n → P j) ∧ e = true)) := by
  intro d
  induction d with
  | zero =>
    intro k i hi hk hp
    obtain ⟨k, rfl⟩ : ∃ m, k = m + 1 := ⟨k - 1, by omega⟩
    obtain rfl : i = n := by omega
    exact ⟨e, he k hp, ⟨fun h => ⟨hp, h⟩, fun h => h.2⟩⟩
  | succ d ih =>
    intro k i hi hk hp
    obtain ⟨k, rfl⟩ : ∃ m, k = m + 1 := ⟨k - 1, by omega⟩
    rcases hs k i (by omega) hp with ⟨h1, h2⟩ | ⟨h1, h2⟩
    · have e1 : (i : Int) + 1 = ((i + 1 : Nat) : Int) := by omega
      rw [h2, e1]
      refine ih k (i + 1) (by omega) (by omega) (fun j hj => ?_)
      by_cases hji : j = i
      · rw [hji]; exact h1
      · exact hp j (by omega)
    · refine ⟨false, h2, ⟨(fun h => by cases h), fun h => absurd (h.1 i (by omega)) h1⟩⟩
/-- A loop that copies a list, element by element. -/
theorem copy_loop {α β : Type} {F : Nat → List α → List β → Int → Option (List β)} {cv : α → β} (z : α) {N : Nat}
    (hs : ∀ (k i : Nat) (x : List α) (y : List β), x.length ≤ N → i < x.length → i < y.length → F (k + 1) x y i = F k x (y.set i (cv (x.getD i z))) ((i : Int) + 1))
    (he : ∀ (k : Nat) (x : List α) (y : List β), F (k + 1) x y x.length = some y) (x : List α) (hN : x.length ≤ N) : ∀ (d k i : Nat) (y : List β), i + d = x.length → d < k → y.length = x.length →
    y.take i = (x.take i).map cv → F k x y i = some (x.map cv) := by
  intro d
  induction d with
  | zero =>
    intro k i y hi hk hl ht
    obtain ⟨k, rfl⟩ : ∃ m, k = m + 1 := ⟨k - 1, by omega⟩
    obtain rfl : i = x.length := by omega
    rw [he]
    rw [List.take_of_length_le (by omega), List.take_of_length_le (by omega)] at ht
    rw [ht]
  | succ d ih =>
    intro k i y hi hk hl ht
    obtain ⟨k, rfl⟩ : ∃ m, k = m + 1 := ⟨k - 1, by omega⟩
    have e1 : (i : Int) + 1 = ((i + 1 : Nat) : Int) := by omega
    rw [hs k i x y hN (by omega) (by omega), e1]
    refine ih k (i + 1) _ (by omega) (by omega) (by rw [List.length_set, hl]) ?_
    have hx : i < x.length := by omega
    have hy : i < y.length := by omega
    rw [List.take_succ_eq_append_getElem (by rw [List.length_set]; exact hy), List.take_succ_eq_append_getElem hx, List.map_append, List.take_set, ht]
    congr 1
    · rw [List.set_eq_of_length_le]
      simp; omega
    · simp [List.getD_eq_getElem?_getD, hx]
/-- Two equal lists, compared element by element. -/
theorem same_loop {α : Type} {F : Nat → List α → List α → Int → Option Bool} {N : Nat}
    (hs : ∀ (k i : Nat) (x : List α), x.length ≤ N → i < x.length → F (k + 1) x x i = F k x x ((i : Int) + 1))
    (he : ∀ (k : Nat) (x : List α), F (k + 1) x x x.length = some true) (x : List α) (hN : x.length ≤ N) : ∀ (d k i : Nat), i + d = x.length → d < k → F k x x i = some true := by
  intro d
  induction d with
  | zero =>
    intro k i hi hk
    obtain ⟨k, rfl⟩ : ∃ m, k = m + 1 := ⟨k - 1, by omega⟩
    obtain rfl : i = x.length := by omega
    exact he k x
  | succ d ih =>
    intro k i hi hk
    obtain ⟨k, rfl⟩ : ∃ m, k = m + 1 := ⟨k - 1, by omega⟩
    have e1 : (i : Int) + 1 = ((i + 1 : Nat) : Int) := by omega
    rw [hs k i x hN (by omega), e1]
    exact ih k (i + 1) (by omega) (by omega)
/-- A loop that carries a state over a list. -/
theorem fold_loop {σ α ρ : Type} {F : Nat → σ → Int → Option ρ} {g : σ → α → σ} {out : σ → ρ} (t : List α) (z : α)
    (hs : ∀ (k i : Nat) (s : σ), i < t.length → F (k + 1) s i = F k (g s (t.getD i z)) ((i : Int) + 1))
    (he : ∀ (k : Nat) (s : σ), F (k + 1) s t.length = some (out s)) : ∀ (d k i : Nat) (s : σ), i + d = t.length → d < k → F k s i = some (out ((t.drop i).foldl g s)) := by
  intro d
  induction d with
  | zero =>
    intro k i s hi hk
    obtain ⟨k, rfl⟩ : ∃ m, k = m + 1 := ⟨k - 1, by omega⟩
    obtain rfl : i = t.length := by omega
    rw [he, List.drop_length]; rfl
  | succ d ih =>
    intro k i s hi hk
    obtain ⟨k, rfl⟩ : ∃ m, k = m + 1 := ⟨k - 1, by omega⟩
    have e1 : (i : Int) + 1 = ((i + 1 : Nat) : Int) := by omega
    rw [hs k i s (by omega), e1, ih k (i + 1) _ (by omega) (by omega)]
    have hil : i < t.length := by omega
    rw [List.drop_eq_getElem_cons hil, List.foldl_cons, List.getD_eq_getElem?_getD, List.getElem?_eq_getElem hil]
    rfl
/-- A route, of the laws' type and of the program's. -/
def cvR (x : S46) : S29 := ⟨⟨x.f0.f0, x.f0.f1⟩, x.f1⟩
theorem sz_Table {l : List S46} (h : l.length ≤ 9223372036854775807) : laws_szTable.f l 1048576 = some (if l.length ≤ 1048576 then 1048576 - (l.length : Int) else -1) := by
  unfold laws_szTable.f laws_szRouteS.f
  rw [w64 (by omega) (by omega)]
  by_cases hl : l.length ≤ 1048576
  · rw [if_neg (by omega), if_pos hl]
    simp only [Option.bind_some]
    rw [if_neg (by omega)]
  · rw [if_pos (by omega), if_neg hl]
    rfl
theorem to_RouteS {l : List S46} {k : Nat} (h : l.length ≤ 1048576) (hk : l.length < k) : laws_toRouteS.f k l = some (l.map cvR) := by
  unfold laws_toRouteS.f
  rw [if_pos (by omega), if_pos (by omega)]
  refine copy_loop (F := laws_toRouteS.l0) (cv := cvR) z46 (N := 1048576) ?_ ?_ l h l.length k 0 _ (by omega) hk (by simp) (by simp)
  · intro k i x y hN hx hy
    simp only [laws_toRouteS.l0]
    rw [if_pos (by omega), if_pos (by omega)]
    unfold laws_toRoute.f laws_toPrefix.f
    simp only [Option.bind_some]
    rw [if_pos (by omega), w64 (by omega) (by omega)]
    simp [rd_T46, cvR]
  · intro k x y
    simp only [laws_toRouteS.l0]
    rw [if_neg (by omega)]
theorem to_Table {l : List S46} {k : Nat} (h : l.length ≤ 1048576) (hk : l.length < k) : laws_toTable.f k l = some (l.map cvR) := by
  unfold laws_toTable.f
  rw [to_RouteS h hk]; rfl
theorem eq_RouteS {l : List S29} {k : Nat} (h : l.length ≤ 1048576) (hk : l.length < k) : laws_eqRouteS.f k l l = some true := by
  unfold laws_eqRouteS.f
  rw [if_pos rfl]
  refine same_loop (F := laws_eqRouteS.l0) (N := 1048576) ?_ ?_ l h l.length k 0 (by omega) hk
  · intro k i x hN hx
    simp only [laws_eqRouteS.l0]
    rw [if_pos (by omega), if_pos (by omega), if_pos (by omega)]
    unfold laws_eqRoute.f laws_eqPrefix.f
    simp only [if_true, Option.bind_some]
    rw [w64 (by omega) (by omega)]
  · intro k x
    simp only [laws_eqRouteS.l0]
    rw [if_neg (by omega)]
theorem eq_Table {l : List S29} {k : Nat} (h : l.length ≤ 1048576) (hk : l.length < k) : laws_eqTable.f k l l = some true := by
  unfold laws_eqTable.f
  rw [eq_RouteS h hk]; rfl
/-- Prefix a stands ahead of prefix b. -/
def Ahead (n l m k : Int) : Prop := n < m ∨ n = m ∧ l < k
/-- The route at an index is valid and stands behind the one ahead of it. -/
def Rat (t : List S29) (j : Nat) : Prop :=
  Pok (rd_T29 t j).f0.f0 (rd_T29 t j).f0.f1 ∧ (0 ≤ (rd_T29 t j).f1 ∧ (rd_T29 t j).f1 ≤ 999) ∧
    (0 < j → Ahead (rd_T29 t ((j : Int) - 1)).f0.f0 (rd_T29 t ((j : Int) - 1)).f0.f1 (rd_T29 t j).f0.f0 (rd_T29 t j).f0.f1)
theorem spec_Ahead (n l m k : Int) : ∃ b, spec_l02Ahead.f n l m k = some b ∧ (b = true ↔ Ahead n l m k) := by
  unfold spec_l02Ahead.f Ahead
  by_cases h : n < m
  · exact ⟨true, by rw [if_pos h], by simp [h]⟩
  · by_cases h2 : n = m
    · exact ⟨decide (l < k), by rw [if_neg h, if_pos h2], by simp [h2]⟩
    · exact ⟨false, by rw [if_neg h, if_neg h2], by simp [h, h2]⟩
theorem impl_Compare {n l m k : Int} (h1 : Pok n l) (h2 : Pok m k) : ∃ c, impl_comparePrefixes.f n l m k = some c ∧ (¬ c ≥ 0 ↔ Ahead n l m k) := by
  obtain ⟨a0, a1, a2, a3, _⟩ := h1
  obtain ⟨b0, b1, b2, b3, _⟩ := h2
  unfold impl_comparePrefixes.f Ahead
  by_cases h : n = m
  · refine ⟨l - k, by rw [if_pos h, w64 (by omega) (by omega)], by omega⟩
  · refine ⟨n - m, by rw [if_neg h, w64 (by omega) (by omega)], by omega⟩
theorem spec_tab {t : List S29} (h : t.length ≤ 1048576) {k : Nat} (hk : t.length < k) : ∃ b, spec_TableOk.l0 k 0 t = some b ∧ (b = true ↔ ∀ j, j < t.length → Rat t j) := by
  have x := all_loop (F := fun k i => spec_TableOk.l0 k i t) (n := t.length) (P := Rat t) (e := true) ?_ ?_ t.length k 0 (by omega) hk (fun j hj => by omega)
  · obtain ⟨b, h1, h2⟩ := x
    exact ⟨b, h1, by simpa using h2⟩
  · intro k i hi hp
    simp only [spec_TableOk.l0]
    rw [if_pos (by omega), if_pos (by omega), spec_Pok, spec_In]
    simp only [Option.bind_some, decide_eq_true_eq]
    by_cases c1 : Pok (rd_T29 t i).f0.f0 (rd_T29 t i).f0.f1
    · rw [if_pos c1]
      by_cases c2 : 0 ≤ (rd_T29 t i).f1 ∧ (rd_T29 t i).f1 ≤ 999
      · rw [if_pos c2]
        by_cases c3 : i = 0
        · subst c3
          rw [if_neg (by omega), w64 (by omega) (by omega)]
          exact .inl ⟨⟨c1, c2, fun h => by omega⟩, rfl⟩
        · rw [if_pos (by omega), w64 (n := (i : Int) - 1) (by omega) (by omega), if_pos (by omega), if_pos (by omega)]
          obtain ⟨b, hb, hb2⟩ := spec_Ahead (rd_T29 t ((i : Int) - 1)).f0.f0 (rd_T29 t ((i : Int) - 1)).f0.f1 (rd_T29 t i).f0.f0 (rd_T29 t i).f0.f1
          rw [hb]
          simp only [Option.bind_some]
          by_cases c4 : b = true
          · rw [if_pos c4, w64 (by omega) (by omega)]
            exact .inl ⟨⟨c1, c2, fun _ => hb2.1 c4⟩, rfl⟩
          · rw [if_neg c4]
            exact .inr ⟨fun h => c4 (hb2.2 (h.2.2 (by omega))), rfl⟩
      · rw [if_neg c2]
        exact .inr ⟨fun h => c2 h.2.1, rfl⟩
    · rw [if_neg c1]
      exact .inr ⟨fun h => c1 h.1, rfl⟩
  · intro k _
    simp only [spec_TableOk.l0]
    rw [if_neg (by omega)]
theorem impl_tab {t : List S29} (h : t.length ≤ 1048576) {k : Nat} (hk : t.length < k) : ∃ b, impl_TableOk.f k t = some b ∧ (b = true ↔ (∀ j, j < t.length → Rat t j) ∧ t.length ≤ 120) := by
  unfold impl_TableOk.f
  have x := all_loop (F := fun k i => impl_TableOk.l0 k t t.length i t) (n := t.length) (P := Rat t) (e := decide (t.length ≤ 120)) ?_ ?_ t.length k 0 (by omega) hk (fun j hj => by omega)
  · obtain ⟨b, h1, h2⟩ := x
    exact ⟨b, h1, by simpa using h2⟩
  · intro k i hi hp
    simp only [impl_TableOk.l0]
    unfold impl_isRoute.f
    rw [if_pos (by omega), if_pos (by omega), if_pos (by omega), impl_Pok, impl_In]
    simp only [Option.bind_some, decide_eq_true_eq]
    by_cases c1 : Pok (rd_T29 t i).f0.f0 (rd_T29 t i).f0.f1
    · rw [if_pos c1]
      simp only [Option.bind_some, decide_eq_true_eq]
      by_cases c2 : 0 ≤ (rd_T29 t i).f1 ∧ (rd_T29 t i).f1 ≤ 999
      · rw [if_pos c2]
        by_cases c3 : i = 0
        · subst c3
          rw [if_neg (by omega), w64 (by omega) (by omega)]
          exact .inl ⟨⟨c1, c2, fun h => by omega⟩, rfl⟩
        · rw [if_pos (by omega), w64 (n := (i : Int) - 1) (by omega) (by omega), if_pos (by omega), if_pos (by omega)]
          have e1 : (((i - 1 : Nat) : Int)) = (i : Int) - 1 := by omega
          have pv := (hp (i - 1) (by omega)).1
          rw [e1] at pv
          obtain ⟨b, hb, hb2⟩ := impl_Compare pv c1
          rw [hb]
          simp only [Option.bind_some]
          by_cases c4 : b ≥ 0
          · rw [if_pos c4]
            exact .inr ⟨fun h => hb2.2 (h.2.2 (by omega)) c4, rfl⟩
          · rw [if_neg c4, w64 (by omega) (by omega)]
            exact .inl ⟨⟨c1, c2, fun _ => hb2.1 c4⟩, rfl⟩
      · rw [if_neg c2]
        exact .inr ⟨fun h => c2 h.2.1, rfl⟩
    · rw [if_neg c1]
      simp only [Option.bind_some]
      exact .inr ⟨fun h => c1 h.1, rfl⟩
  · intro k _
    simp only [impl_TableOk.l0]
    rw [if_neg (by omega)]
    congr 1
    rw [decide_eq_decide]; omega
/-- A valid table. -/
def Tok (t : List S29) : Prop := (∀ j, j < t.length → Rat t j) ∧ t.length ≤ 120
theorem spec_Tok {t : List S29} (h : t.length ≤ 1048576) {k : Nat} (hk : t.length < k) : ∃ b, spec_TableOk.f k t = some b ∧ (b = true ↔ Tok t) := by
  unfold spec_TableOk.f Tok
  by_cases hl : (t.length : Int) > 120
  · exact ⟨false, by rw [if_pos hl], by simp; omega⟩
  · obtain ⟨b, h1, h2⟩ := spec_tab h hk
    exact ⟨b, by rw [if_neg hl, h1], by rw [h2]; exact ⟨fun x => ⟨x, by omega⟩, fun x => x.1⟩⟩
/-- One route more: the longer prefix that holds the address wins, the earlier of two. -/
def bstep (a : Int) (s : Bool × Int × Int × Int) (r : S29) : Bool × Int × Int × Int :=
  if Phas r.f0.f0 r.f0.f1 a then (if s.1 = true then (if r.f0.f1 > s.2.2.1 then (true, r.f0.f0, r.f0.f1, r.f1) else s) else (true, r.f0.f0, r.f0.f1, r.f1)) else s
def bestOf (a : Int) (t : List S29) : Bool × Int × Int × Int := t.foldl (bstep a) (false, 0, 0, 0)
def bout (s : Bool × Int × Int × Int) : Int × Int × Int × Bool := (s.2.1, s.2.2.1, s.2.2.2, s.1)
theorem rd_get (t : List S29) (i : Nat) : rd_T29 t i = t.getD i z29 := by simp [rd_T29]
theorem spec_best {t : List S29} (h : t.length ≤ 1048576) (ht : ∀ j, j < t.length → Rat t j) (a : Int) {k : Nat} (hk : t.length < k) :
    spec_BestRoute.l0 k a false 0 t 0 0 0 = some (bout (bestOf a t)) := by
  have x := fold_loop (F := fun k (s : Bool × Int × Int × Int) i => spec_BestRoute.l0 k a s.1 i t s.2.1 s.2.2.1 s.2.2.2) (g := bstep a) (out := bout) t z29 ?_ ?_ t.length k 0 (false, 0, 0, 0) (by omega) hk
  · exact x
  · intro k i s hi
    have hr := (ht i hi).1
    simp only [spec_BestRoute.l0]
    rw [if_pos (by omega), if_pos (by omega), spec_Has, w64 (by omega) (by omega), ← rd_get]
    unfold bstep
    simp only [Option.bind_some, decide_eq_true_eq, hr, true_and]
    by_cases c1 : Phas (rd_T29 t i).f0.f0 (rd_T29 t i).f0.f1 a
    · rw [if_pos c1, if_pos c1]
      by_cases c2 : s.1 = true
      · rw [if_pos c2, if_pos c2]
        by_cases c3 : (rd_T29 t i).f0.f1 > s.2.2.1
        · rw [if_pos c3, if_pos c3]
        · rw [if_neg c3, if_neg c3]
      · rw [if_neg c2, if_neg c2]
    · rw [if_neg c1, if_neg c1]
  · intro k s
    simp only [spec_BestRoute.l0]
    rw [if_neg (by omega)]
    rfl
theorem impl_bestl {t : List S29} (h : t.length ≤ 1048576) (ht : ∀ j, j < t.length → Rat t j) (a : Int) {k : Nat} (hk : t.length < k) :
    impl_best.f k t a = some (bout (bestOf a t)) := by
  have x := fold_loop (F := fun k (s : Bool × Int × Int × Int) i => impl_best.l0 k a s.1 t t.length i s.2.1 s.2.2.1 s.2.2.2) (g := bstep a) (out := bout) t z29 ?_ ?_ t.length k 0 (false, 0, 0, 0) (by omega) hk
  · exact x
  · intro k i s hi
    have hr := (ht i hi).1
    simp only [impl_best.l0]
    rw [if_pos (by omega), if_pos (by omega), if_pos (by omega), impl_has hr, w64 (by omega) (by omega), ← rd_get]
    unfold bstep
    simp only [Option.bind_some, decide_eq_true_eq]
    by_cases c1 : Phas (rd_T29 t i).f0.f0 (rd_T29 t i).f0.f1 a
    · rw [if_pos c1, if_pos c1]
      by_cases c2 : s.1 = true
      · rw [if_pos c2, if_pos c2]
        by_cases c3 : (rd_T29 t i).f0.f1 > s.2.2.1
        · rw [if_pos c3, if_pos c3]
        · rw [if_neg c3, if_neg c3]
      · rw [if_neg c2, if_neg c2]
    · rw [if_neg c1, if_neg c1]
  · intro k s
    simp only [impl_best.l0]
    rw [if_neg (by omega)]
    rfl
open Classical in
/-- What BestRoute answers. -/
noncomputable def bestAns (t : List S29) (a : Int) : Int × Int × Int × Bool := if Tok t ∧ 0 ≤ a ∧ a ≤ 65535 then bout (bestOf a t) else (0, 0, 0, false)
theorem spec_Best {t : List S29} (h : t.length ≤ 1048576) (a : Int) {k : Nat} (hk : t.length + 1 < k) : spec_BestRoute.f k t a = some (bestAns t a) := by
  obtain ⟨k, rfl⟩ : ∃ m, k = m + 1 := ⟨k - 1, by omega⟩
  obtain ⟨b, h1, h2⟩ := spec_Tok h (k := k + 1) (by omega)
  unfold spec_BestRoute.f bestAns
  rw [h1, spec_Addr]
  simp only [Option.bind_some]
  by_cases c : b = true
  · have ht := h2.1 c
    rw [if_pos c]
    by_cases ca : 0 ≤ a ∧ a ≤ 65535
    · rw [decide_eq_true ca]
      simp only [Bool.not_true, spec_BestRoute.j0]
      rw [if_neg (by decide), spec_best h ht.1 a (by omega), if_pos ⟨ht, ca⟩]
    · rw [if_neg (fun h => ca h.2)]
      simp only [ca, decide_false, Bool.not_false, spec_BestRoute.j0]
      rfl
  · rw [if_neg c, if_neg (fun h => c (h2.2 h.1))]
    simp only [spec_BestRoute.j0]
    rw [if_pos trivial]
theorem impl_Best {t : List S29} (h : t.length ≤ 1048576) (a : Int) {k : Nat} (hk : t.length < k) : impl_BestRoute.f k t a = some (bestAns t a) := by
  obtain ⟨b, h1, h2⟩ := impl_tab h hk
  unfold impl_BestRoute.f bestAns
  rw [h1, impl_Addr]
  simp only [Option.bind_some]
  by_cases c : b = true
  · have ht : Tok t := h2.1 c
    rw [if_pos c]
    by_cases ca : 0 ≤ a ∧ a ≤ 65535
    · rw [decide_eq_true ca, if_pos rfl, impl_bestl h ht.1 a hk, if_pos ⟨ht, ca⟩]
      rfl
    · rw [if_neg (c := Tok t ∧ 0 ≤ a ∧ a ≤ 65535) (fun h => ca h.2)]
      simp [ca]
  · rw [if_neg c, if_neg (fun h => c (h2.2 h.1))]
theorem FnExactBestRoute : FnExactBestRoute.Pure := by
  intro l a hw _
  have hm : l.length ≤ 9223372036854775807 := hw.1
  refine ⟨l.length + 2, ?_⟩
  unfold laws_FnExactBestRoute.f
  rw [sz_Table hm]
  simp only [Option.bind_some]
  by_cases hl : l.length ≤ 1048576
  · have hn : (l.map cvR).length = l.length := List.length_map ..
    rw [if_pos hl, if_neg (by omega), to_Table hl (by omega)]
    simp only [Option.bind_some]
    rw [spec_Best (by omega) a (by omega)]
    simp only [Option.bind_some]
    rw [impl_Best (by omega) a (by omega)]
    simp only [Option.bind_some]
    unfold laws_eqRoute.f laws_eqPrefix.f
    simp only [if_true, Option.bind_some, bne_self_eq_false]
    simp only [laws_FnExactBestRoute.j0]
    rw [if_neg (by decide), to_Table hl (by omega)]
    simp only [Option.bind_some]
    rw [eq_Table (by omega) (by omega)]
    rfl
  · rw [if_neg hl]; rfl

end Go.Proofs.Ytjepabdgmholjaa.Pure
