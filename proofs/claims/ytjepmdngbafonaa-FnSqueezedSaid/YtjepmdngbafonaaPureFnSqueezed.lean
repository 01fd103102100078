/- The plain law of FnSqueezed: the program's law answers true at every draw. -/
import Derived.Test.YtjepmdngbafonaaStmtFnSqueezed
namespace Go.Proofs.Ytjepmdngbafonaa.Pure
open Go.RowKit Go.Proofs.Ytjepmdngbafonaa.QFnSqueezed Go.Proofs.YtjepmdngbafonaaZ.PrintWords Go.Proofs.YtjepmdngbafonaaZ.PrintLast Go.Proofs.YtjepmdngbafonaaZ.PrintMore
set_option linter.unusedVariables false
set_option linter.unusedSimpArgs false

theorem len17 {l : Int} (h0 : 0 ≤ l) (h1 : l ≤ 16) : l = 0 ∨ l = 1 ∨ l = 2 ∨ l = 3 ∨ l = 4 ∨ l = 5 ∨ l = 6 ∨ l = 7 ∨ l = 8 ∨ l = 9 ∨ l = 10 ∨ l = 11 ∨ l = 12 ∨ l = 13 ∨ l = 14 ∨ l = 15 ∨ l = 16 := by omega
/-- How many addresses a prefix of length l has. -/
def psz (l : Int) : Int := 2 ^ (16 - l).toNat
theorem psz_pos (l : Int) : 0 < psz l := Int.pow_pos (by decide)
theorem psz_le {l : Int} (h0 : 0 ≤ l) (h1 : l ≤ 16) : psz l ≤ 65536 := by
  rcases len17 h0 h1 with rfl | rfl | rfl | rfl | rfl | rfl | rfl | rfl | rfl | rfl | rfl | rfl | rfl | rfl | rfl | rfl | rfl <;> decide
theorem psz_top {l : Int} (h0 : 0 ≤ l) (h1 : l ≤ 16) : 65536 = psz l * 2 ^ l.toNat := by
  rcases len17 h0 h1 with rfl | rfl | rfl | rfl | rfl | rfl | rfl | rfl | rfl | rfl | rfl | rfl | rfl | rfl | rfl | rfl | rfl <;> decide
theorem w64 {n : Int} (h0 : -9223372036854775808 ≤ n) (h1 : n ≤ 9223372036854775807) : wrap64 n = n := by unfold wrap64; omega
theorem shl_psz {l : Int} (h0 : 0 ≤ l) (h1 : l ≤ 16) : shl .i64 1 (16 - l) = psz l := by
  rcases len17 h0 h1 with rfl | rfl | rfl | rfl | rfl | rfl | rfl | rfl | rfl | rfl | rfl | rfl | rfl | rfl | rfl | rfl | rfl <;> decide
theorem u64w {n : Int} (h0 : 0 ≤ n) (h1 : n ≤ 16) : IntKind.u64.wrap n = n := by
  rcases len17 h0 h1 with rfl | rfl | rfl | rfl | rfl | rfl | rfl | rfl | rfl | rfl | rfl | rfl | rfl | rfl | rfl | rfl | rfl <;> decide
/-- A valid prefix. -/
def Pok (n l : Int) : Prop := 0 ≤ l ∧ l ≤ 16 ∧ 0 ≤ n ∧ n ≤ 65535 ∧ n % psz l = 0
instance (n l : Int) : Decidable (Pok n l) := by unfold Pok; infer_instance
theorem Pok.top {n l : Int} (h : Pok n l) : n + psz l ≤ 65536 := by
  obtain ⟨h0, h1, h2, h3, h4⟩ := h
  have e := psz_top h0 h1
  have p := psz_pos l
  have d := Int.emod_add_mul_ediv n (psz l)
  rw [h4, Int.zero_add] at d
  have q : n / psz l < 2 ^ l.toNat := by
    apply Int.ediv_lt_of_lt_mul p
    rw [Int.mul_comm]; omega
  have m : psz l * (n / psz l + 1) ≤ psz l * 2 ^ l.toNat := Int.mul_le_mul_of_nonneg_left (by omega) (by omega)
  rw [Int.mul_add] at m
  omega
theorem spec_In (a b c : Int) : spec_l01In.f a b c = some (decide (b ≤ a ∧ a ≤ c)) := by
  unfold spec_l01In.f
  by_cases h : b ≤ a <;> simp [h]
theorem spec_Addr (a : Int) : spec_l01Addr.f a = some (decide (0 ≤ a ∧ a ≤ 65535)) := by
  unfold spec_l01Addr.f; rw [spec_In]; rfl
theorem spec_Size {l : Int} (h0 : 0 ≤ l) (h1 : l ≤ 16) : spec_l01Size2.f l = some (psz l) := by
  unfold spec_l01Size2.f
  rw [w64 (by omega) (by omega), u64w (by omega) (by omega), if_pos (by omega), shl_psz h0 h1]
theorem spec_Pok (n l : Int) : spec_PrefixOk.f n l = some (decide (Pok n l)) := by
  unfold spec_PrefixOk.f
  rw [spec_In, spec_Addr]
  simp only [Option.bind_some, decide_eq_true_eq]
  by_cases hl : 0 ≤ l ∧ l ≤ 16
  · rw [if_pos hl]
    by_cases hn : 0 ≤ n ∧ n ≤ 65535
    · rw [if_pos hn, spec_Size hl.1 hl.2]
      have p := psz_pos l
      simp only [Option.bind_some]
      rw [if_neg (by omega), Int.tmod_eq_emod_of_nonneg hn.1]
      congr 1
      by_cases e : n % psz l = 0
      · rw [e]; simp [Pok, hl, hn, e]
      · simp [Pok, hl, hn, e]
    · rw [if_neg hn]; congr 1; symm; rw [decide_eq_false_iff_not]; unfold Pok; omega
  · rw [if_neg hl]; congr 1; symm; rw [decide_eq_false_iff_not]; unfold Pok; omega
theorem impl_In (a b c : Int) : impl_within.f a b c = some (decide (b ≤ a ∧ a ≤ c)) := by
  unfold impl_within.f
  by_cases h : b ≤ a <;> simp [h]
theorem impl_Addr (a : Int) : impl_isAddr.f a = some (decide (0 ≤ a ∧ a ≤ 65535)) := by
  unfold impl_isAddr.f; rw [impl_In]; rfl
theorem impl_Size (n : Int) {l : Int} (h0 : 0 ≤ l) (h1 : l ≤ 16) : impl_Prefix_size.f n l = some (psz l) := by
  unfold impl_Prefix_size.f
  rw [w64 (by omega) (by omega), if_pos (by omega), shl_psz h0 h1]
theorem impl_Pok (n l : Int) : impl_PrefixOk.f n l = some (decide (Pok n l)) := by
  unfold impl_PrefixOk.f
  rw [impl_In, impl_Addr]
  simp only [Option.bind_some, decide_eq_true_eq]
  by_cases hl : 0 ≤ l ∧ l ≤ 16
  · rw [if_pos hl]
    by_cases hn : 0 ≤ n ∧ n ≤ 65535
    · rw [if_pos hn, impl_Size n hl.1 hl.2]
      have p := psz_pos l
      simp only [Option.bind_some]
      rw [if_neg (by omega), Int.tmod_eq_emod_of_nonneg hn.1]
      congr 1
      by_cases e : n % psz l = 0
      · rw [e]; simp [Pok, hl, hn, e]
      · simp [Pok, hl, hn, e]
    · rw [if_neg hn]; congr 1; symm; rw [decide_eq_false_iff_not]; unfold Pok; omega
  · rw [if_neg hl]; congr 1; symm; rw [decide_eq_false_iff_not]; unfold Pok; omega
/-- A loop that asks each index and ends at the first refusal. -/
theorem all_loop {F : Nat → Int → Option Bool} {n : Nat} {P : Nat → Prop} {e : Bool}
    (hs : ∀ (k i : Nat), i < n → (∀ j, j < i → P j) → (P i ∧ F (k + 1) i = F k ((i : Int) + 1)) ∨ (¬ P i ∧ F (k + 1) i = some false))
    (he : ∀ k : Nat, (∀ j, j < n → P j) → F (k + 1) n = some e) : ∀ (d k i : Nat), i + d = n → d < k → (∀ j, j < i → P j) →
    ∃ b, F k i = some b ∧ (b = true ↔ ((∀ j, j < n → P j) ∧ e = true)) := by
  intro d
  induction d with
  | zero =>
    intro k i hi hk hp
    obtain ⟨k, rfl⟩ : ∃ m, k = m + 1 := ⟨k - 1, by omega⟩
    obtain rfl : i = n := by omega
    exact ⟨e, he k hp, ⟨fun h => ⟨hp, h⟩, fun h => h.2⟩⟩
  | succ d ih =>
    intro k i hi hk hp
    obtain ⟨k, rfl⟩ : ∃ m, k = m + 1 := ⟨k - 1, by omega⟩
    rcases hs k i (by omega) hp with ⟨h1, h2⟩ | ⟨h1, h2⟩
    · have e1 : (i : Int) + 1 = ((i + 1 : Nat) : Int) := by omega
      rw [h2, e1]
      refine ih k (i + 1) (by omega) (by omega) (fun j hj => ?_)
      by_cases hji : j = i
      · rw [hji]; exact h1
      · exact hp j (by omega)
    · refine ⟨false, h2, ⟨(fun h => by cases h), fun h => absurd (h.1 i (by omega)) h1⟩⟩
/-- slices.IndexFunc: the first place at which p holds. -/
theorem index_loop {α : Type} {F : Nat → Int → Option Int} {p : α → Bool} (z : α) (x : List α)
    (hs : ∀ (k i : Nat), i < x.length → F (k + 1) i = if p (x.getD i z) = true then some (i : Int) else F k ((i : Int) + 1))
    (he : ∀ k : Nat, F (k + 1) (x.length : Int) = some (-1)) : ∀ (d k i : Nat), i + d = x.length → d < k →
    (F k i = some (-1) ∧ ∀ q, i ≤ q → q < x.length → p (x.getD q z) = false) ∨ (∃ j : Nat, F k i = some (j : Int) ∧ i ≤ j ∧ j < x.length ∧ p (x.getD j z) = true ∧ ∀ q, i ≤ q → q < j → p (x.getD q z) = false) := by
  intro d
  induction d with
  | zero =>
    intro k i hi hk
    obtain ⟨k, rfl⟩ : ∃ m, k = m + 1 := ⟨k - 1, by omega⟩
    obtain rfl : i = x.length := by omega
    exact .inl ⟨he k, fun q h1 h2 => by omega⟩
  | succ d ih =>
    intro k i hi hk
    obtain ⟨k, rfl⟩ : ∃ m, k = m + 1 := ⟨k - 1, by omega⟩
    rw [hs k i (by omega)]
    by_cases c : p (x.getD i z) = true
    · exact .inr ⟨i, by rw [if_pos c], Nat.le_refl _, by omega, c, fun q h1 h2 => by omega⟩
    · have c' : p (x.getD i z) = false := by simpa using c
      have e1 : (i : Int) + 1 = ((i + 1 : Nat) : Int) := by omega
      rw [if_neg c, e1]
      have hq : ∀ q, i ≤ q → ¬ i + 1 ≤ q → p (x.getD q z) = false := fun q h1 h2 => by
        have : q = i := by omega
        rw [this]; exact c'
      rcases ih k (i + 1) (by omega) (by omega) with ⟨h1, h2⟩ | ⟨j, h1, h2, h3, h4, h5⟩
      · exact .inl ⟨h1, fun q q1 q2 => if c3 : i + 1 ≤ q then h2 q c3 q2 else hq q q1 c3⟩
      · exact .inr ⟨j, h1, by omega, h3, h4, fun q q1 q2 => if c3 : i + 1 ≤ q then h5 q c3 q2 else hq q q1 c3⟩
theorem drop_cons' {α : Type} (x : List α) (z : α) {j : Nat} (hj : j < x.length) : x.drop j = x.getD j z :: x.drop (j + 1) := by
  rw [List.drop_eq_getElem_cons hj, List.getD_eq_getElem?_getD, List.getElem?_eq_getElem hj]
  rfl
theorem take_snoc' {α : Type} (x : List α) (z : α) {j : Nat} (hj : j < x.length) : x.take (j + 1) = x.take j ++ [x.getD j z] := by
  rw [List.take_succ_eq_append_getElem hj, List.getD_eq_getElem?_getD, List.getElem?_eq_getElem hj]
  rfl
/-- The first place, and the rest filtered: the whole filtered. -/
theorem filter_at {α : Type} {p : α → Bool} (z : α) (x : List α) {j : Nat} (hj : j < x.length) (hp : p (x.getD j z) = true) (h : ∀ q, q < j → p (x.getD q z) = false) : x.take j ++ (x.drop (j + 1)).filter (fun y => !p y) = x.filter (fun y => !p y) := by
  have e1 : (x.take j).filter (fun y => !p y) = x.take j := by
    rw [List.filter_eq_self]
    intro y hy
    obtain ⟨q, hq, rfl⟩ := List.mem_iff_getElem.1 hy
    have hq2 : q < j := by rw [List.length_take] at hq; omega
    have := h q hq2
    rw [List.getD_eq_getElem?_getD, List.getElem?_eq_getElem (by omega)] at this
    rw [List.getElem_take]
    simpa using this
  have e2 : x = x.take j ++ (x.getD j z :: x.drop (j + 1)) := by
    rw [← drop_cons' x z hj, List.take_append_drop]
  have e3 : x.filter (fun y => !p y) = (x.take j).filter (fun y => !p y) ++ (x.getD j z :: x.drop (j + 1)).filter (fun y => !p y) := by
    rw [← List.filter_append, ← e2]
  rw [e3, e1, List.filter_cons, hp]
  simp
theorem filter_none {α : Type} {p : α → Bool} (z : α) (x : List α) (h : ∀ q, q < x.length → p (x.getD q z) = false) : x.filter (fun y => !p y) = x := by
  rw [List.filter_eq_self]
  intro y hy
  obtain ⟨q, hq, rfl⟩ := List.mem_iff_getElem.1 hy
  have := h q hq
  rw [List.getD_eq_getElem?_getD, List.getElem?_eq_getElem hq] at this
  simpa using this
/-- Prefix a stands ahead of prefix b. -/
def Ahead (n l m k : Int) : Prop := n < m ∨ n = m ∧ l < k
theorem spec_Ahead (n l m k : Int) : ∃ b, spec_l02Ahead.f n l m k = some b ∧ (b = true ↔ Ahead n l m k) := by
  unfold spec_l02Ahead.f Ahead
  by_cases h : n < m
  · exact ⟨true, by rw [if_pos h], by simp [h]⟩
  · by_cases h2 : n = m
    · exact ⟨decide (l < k), by rw [if_neg h, if_pos h2], by simp [h2]⟩
    · exact ⟨false, by rw [if_neg h, if_neg h2], by simp [h, h2]⟩
theorem impl_Compare {n l m k : Int} (h1 : Pok n l) (h2 : Pok m k) : ∃ c, impl_comparePrefixes.f n l m k = some c ∧ (¬ c ≥ 0 ↔ Ahead n l m k) := by
  obtain ⟨a0, a1, a2, a3, _⟩ := h1
  obtain ⟨b0, b1, b2, b3, _⟩ := h2
  unfold impl_comparePrefixes.f Ahead
  by_cases h : n = m
  · refine ⟨l - k, by rw [if_pos h, w64 (by omega) (by omega)], by omega⟩
  · refine ⟨n - m, by rw [if_neg h, w64 (by omega) (by omega)], by omega⟩
/-- The route at an index is valid and stands behind the one ahead of it. -/
def Rat (t : List S30) (j : Nat) : Prop :=
  Pok (rd_T30 t j).f0.f0 (rd_T30 t j).f0.f1 ∧ (0 ≤ (rd_T30 t j).f1 ∧ (rd_T30 t j).f1 ≤ 999) ∧
    (0 < j → Ahead (rd_T30 t ((j : Int) - 1)).f0.f0 (rd_T30 t ((j : Int) - 1)).f0.f1 (rd_T30 t j).f0.f0 (rd_T30 t j).f0.f1)
theorem spec_tab {t : List S30} (h : t.length ≤ 1048576) {k : Nat} (hk : t.length < k) : ∃ b, spec_TableOk.l0 k 0 t = some b ∧ (b = true ↔ ∀ j, j < t.length → Rat t j) := by
  have x := all_loop (F := fun k i => spec_TableOk.l0 k i t) (n := t.length) (P := Rat t) (e := true) ?_ ?_ t.length k 0 (by omega) hk (fun j hj => by omega)
  · obtain ⟨b, h1, h2⟩ := x
    exact ⟨b, h1, by simpa using h2⟩
  · intro k i hi hp
    simp only [spec_TableOk.l0]
    rw [if_pos (by omega), if_pos (by omega), spec_Pok, spec_In]
    simp only [Option.bind_some, decide_eq_true_eq]
    by_cases c1 : Pok (rd_T30 t i).f0.f0 (rd_T30 t i).f0.f1
    · rw [if_pos c1]
      by_cases c2 : 0 ≤ (rd_T30 t i).f1 ∧ (rd_T30 t i).f1 ≤ 999
      · rw [if_pos c2]
        by_cases c3 : i = 0
        · subst c3
          rw [if_neg (by omega), w64 (by omega) (by omega)]
          exact .inl ⟨⟨c1, c2, fun h => by omega⟩, rfl⟩
        · rw [if_pos (by omega), w64 (n := (i : Int) - 1) (by omega) (by omega), if_pos (by omega), if_pos (by omega)]
          obtain ⟨b, hb, hb2⟩ := spec_Ahead (rd_T30 t ((i : Int) - 1)).f0.f0 (rd_T30 t ((i : Int) - 1)).f0.f1 (rd_T30 t i).f0.f0 (rd_T30 t i).f0.f1
          rw [hb]
          simp only [Option.bind_some]
          by_cases c4 : b = true
          · rw [if_pos c4, w64 (by omega) (by omega)]
            exact .inl ⟨⟨c1, c2, fun _ => hb2.1 c4⟩, rfl⟩
          · rw [if_neg c4]
            exact .inr ⟨fun h => c4 (hb2.2 (h.2.2 (by omega))), rfl⟩
      · rw [if_neg c2]
        exact .inr ⟨fun h => c2 h.2.1, rfl⟩
    · rw [if_neg c1]
      exact .inr ⟨fun h => c1 h.1, rfl⟩
  · intro k _
    simp only [spec_TableOk.l0]
    rw [if_neg (by omega)]
theorem impl_tab {t : List S30} (h : t.length ≤ 1048576) {k : Nat} (hk : t.length < k) : ∃ b, impl_TableOk.f k t = some b ∧ (b = true ↔ (∀ j, j < t.length → Rat t j) ∧ t.length ≤ 120) := by
  unfold impl_TableOk.f
  have x := all_loop (F := fun k i => impl_TableOk.l0 k t t.length i t) (n := t.length) (P := Rat t) (e := decide (t.length ≤ 120)) ?_ ?_ t.length k 0 (by omega) hk (fun j hj => by omega)
  · obtain ⟨b, h1, h2⟩ := x
    exact ⟨b, h1, by simpa using h2⟩
  · intro k i hi hp
    simp only [impl_TableOk.l0]
    unfold impl_isRoute.f
    rw [if_pos (by omega), if_pos (by omega), if_pos (by omega), impl_Pok, impl_In]
    simp only [Option.bind_some, decide_eq_true_eq]
    by_cases c1 : Pok (rd_T30 t i).f0.f0 (rd_T30 t i).f0.f1
    · rw [if_pos c1]
      simp only [Option.bind_some, decide_eq_true_eq]
      by_cases c2 : 0 ≤ (rd_T30 t i).f1 ∧ (rd_T30 t i).f1 ≤ 999
      · rw [if_pos c2]
        by_cases c3 : i = 0
        · subst c3
          rw [if_neg (by omega), w64 (by omega) (by omega)]
          exact .inl ⟨⟨c1, c2, fun h => by omega⟩, rfl⟩
        · rw [if_pos (by omega), w64 (n := (i : Int) - 1) (by omega) (by omega), if_pos (by omega), if_pos (by omega)]
          have e1 : (((i - 1 : Nat) : Int)) = (i : Int) - 1 := by omega
          have pv := (hp (i - 1) (by omega)).1
          rw [e1] at pv
          obtain ⟨b, hb, hb2⟩ := impl_Compare pv c1
          rw [hb]
          simp only [Option.bind_some]
          by_cases c4 : b ≥ 0
          · rw [if_pos c4]
            exact .inr ⟨fun h => hb2.2 (h.2.2 (by omega)) c4, rfl⟩
          · rw [if_neg c4, w64 (by omega) (by omega)]
            exact .inl ⟨⟨c1, c2, fun _ => hb2.1 c4⟩, rfl⟩
      · rw [if_neg c2]
        exact .inr ⟨fun h => c2 h.2.1, rfl⟩
    · rw [if_neg c1]
      simp only [Option.bind_some]
      exact .inr ⟨fun h => c1 h.1, rfl⟩
  · intro k _
    simp only [impl_TableOk.l0]
    rw [if_neg (by omega)]
    congr 1
    rw [decide_eq_decide]; omega
/-- A valid table. -/
def Tok (t : List S30) : Prop := (∀ j, j < t.length → Rat t j) ∧ t.length ≤ 120
theorem spec_Tok {t : List S30} (h : t.length ≤ 1048576) {k : Nat} (hk : t.length < k) : ∃ b, spec_TableOk.f k t = some b ∧ (b = true ↔ Tok t) := by
  unfold spec_TableOk.f Tok
  by_cases hl : (t.length : Int) > 120
  · exact ⟨false, by rw [if_pos hl], by simp; omega⟩
  · obtain ⟨b, h1, h2⟩ := spec_tab h hk
    exact ⟨b, by rw [if_neg hl, h1], by rw [h2]; exact ⟨fun x => ⟨x, by omega⟩, fun x => x.1⟩⟩
/-- A prefix holds an address. -/
def Phas (n l a : Int) : Prop := n ≤ a ∧ a ≤ n + psz l - 1
instance (n l a : Int) : Decidable (Phas n l a) := by unfold Phas; infer_instance
theorem impl_has {n l : Int} (h : Pok n l) (a : Int) : impl_Prefix_has.f n l a = some (decide (Phas n l a)) := by
  have p := psz_pos l
  have p2 := psz_le h.1 h.2.1
  have h3 := h
  unfold Pok at h3
  unfold impl_Prefix_has.f
  rw [impl_Size n h.1 h.2.1]
  simp only [Option.bind_some]
  rw [w64 (n := n + psz l) (by omega) (by omega), w64 (by omega) (by omega), impl_In]
  rfl
/-- A loop that carries a state over a list. -/
theorem fold_loop {σ α ρ : Type} {F : Nat → σ → Int → Option ρ} {g : σ → α → σ} {out : σ → ρ} (t : List α) (z : α)
    (hs : ∀ (k i : Nat) (s : σ), i < t.length → F (k + 1) s i = F k (g s (t.getD i z)) ((i : Int) + 1))
    (he : ∀ (k : Nat) (s : σ), F (k + 1) s t.length = some (out s)) : ∀ (d k i : Nat) (s : σ), i + d = t.length → d < k → F k s i = some (out ((t.drop i).foldl g s)) := by
  intro d
  induction d with
  | zero =>
    intro k i s hi hk
    obtain ⟨k, rfl⟩ : ∃ m, k = m + 1 := ⟨k - 1, by omega⟩
    obtain rfl : i = t.length := by omega
    rw [he, List.drop_length]; rfl
  | succ d ih =>
    intro k i s hi hk
    obtain ⟨k, rfl⟩ : ∃ m, k = m + 1 := ⟨k - 1, by omega⟩
    have e1 : (i : Int) + 1 = ((i + 1 : Nat) : Int) := by omega
    rw [hs k i s (by omega), e1, ih k (i + 1) _ (by omega) (by omega)]
    have hil : i < t.length := by omega
    rw [List.drop_eq_getElem_cons hil, List.foldl_cons, List.getD_eq_getElem?_getD, List.getElem?_eq_getElem hil]
    rfl
/-- One route more: the longer prefix that holds the address wins, the earlier of two. -/
def bstep (a : Int) (s : Bool × Int × Int × Int) (r : S30) : Bool × Int × Int × Int :=
  if Phas r.f0.f0 r.f0.f1 a then (if s.1 = true then (if r.f0.f1 > s.2.2.1 then (true, r.f0.f0, r.f0.f1, r.f1) else s) else (true, r.f0.f0, r.f0.f1, r.f1)) else s
def bestOf (a : Int) (t : List S30) : Bool × Int × Int × Int := t.foldl (bstep a) (false, 0, 0, 0)
def bout (s : Bool × Int × Int × Int) : Int × Int × Int × Bool := (s.2.1, s.2.2.1, s.2.2.2, s.1)
theorem rd_get (t : List S30) (i : Nat) : rd_T30 t i = t.getD i z30 := by simp [rd_T30]
theorem impl_bestl {t : List S30} (h : t.length ≤ 1048576) (ht : ∀ j, j < t.length → Rat t j) (a : Int) {k : Nat} (hk : t.length < k) :
    impl_best.f k t a = some (bout (bestOf a t)) := by
  have x := fold_loop (F := fun k (s : Bool × Int × Int × Int) i => impl_best.l0 k a s.1 t t.length i s.2.1 s.2.2.1 s.2.2.2) (g := bstep a) (out := bout) t z30 ?_ ?_ t.length k 0 (false, 0, 0, 0) (by omega) hk
  · exact x
  · intro k i s hi
    have hr := (ht i hi).1
    simp only [impl_best.l0]
    rw [if_pos (by omega), if_pos (by omega), if_pos (by omega), impl_has hr, w64 (by omega) (by omega), ← rd_get]
    unfold bstep
    simp only [Option.bind_some, decide_eq_true_eq]
    by_cases c1 : Phas (rd_T30 t i).f0.f0 (rd_T30 t i).f0.f1 a
    · rw [if_pos c1, if_pos c1]
      by_cases c2 : s.1 = true
      · rw [if_pos c2, if_pos c2]
        by_cases c3 : (rd_T30 t i).f0.f1 > s.2.2.1
        · rw [if_pos c3, if_pos c3]
        · rw [if_neg c3, if_neg c3]
      · rw [if_neg c2, if_neg c2]
    · rw [if_neg c1, if_neg c1]
  · intro k s
    simp only [impl_best.l0]
    rw [if_neg (by omega)]
    rfl
theorem psz_split {m l : Int} (h0 : 0 ≤ m) (h1 : m ≤ l) (h2 : l ≤ 16) : psz m = psz l * 2 ^ (l - m).toNat := by
  unfold psz
  rw [← Int.pow_add]
  congr 1
  omega
theorem psz_mod {a m l : Int} (h0 : 0 ≤ m) (h1 : m ≤ l) (h2 : l ≤ 16) (h : a % psz m = 0) : a % psz l = 0 := by
  rw [psz_split h0 h1 h2] at h
  have d := Int.emod_add_mul_ediv a (psz l * 2 ^ (l - m).toNat)
  rw [h, Int.zero_add, Int.mul_assoc] at d
  rw [← d]
  exact Int.mul_emod_right _ _
theorem mult_le {a b z : Int} (hz : 0 < z) (ha : a % z = 0) (hb : b % z = 0) (h : a < b + z) : a ≤ b := by
  have da := Int.emod_add_mul_ediv a z
  have db := Int.emod_add_mul_ediv b z
  rw [ha, Int.zero_add] at da
  rw [hb, Int.zero_add] at db
  have h2 : z * (a / z) < z * (b / z + 1) := by
    rw [Int.mul_add, da, db]
    omega
  have h3 : a / z < b / z + 1 := Int.lt_of_mul_lt_mul_left h2 (Int.le_of_lt hz)
  have h4 : z * (a / z) ≤ z * (b / z) := Int.mul_le_mul_of_nonneg_left (by omega) (Int.le_of_lt hz)
  rw [da, db] at h4
  exact h4
/-- Whether a route has the prefix (a, b). -/
def isR (a b : Int) (r : S30) : Bool := decide (r.f0.f0 = a ∧ r.f0.f1 = b)
theorem rd_natR {x : List S30} {i : Nat} (h : i < x.length) : rd_T30 x (i : Int) = x[i] := by
  simp [rd_T30, List.getD_eq_getElem?_getD, List.getElem?_eq_getElem h]
theorem tok_asc {t : List S30} (h : ∀ j, j < t.length → Rat t j) : ∀ (j i : Nat), i < j → j < t.length → Ahead (rd_T30 t (i : Int)).f0.f0 (rd_T30 t (i : Int)).f0.f1 (rd_T30 t (j : Int)).f0.f0 (rd_T30 t (j : Int)).f0.f1 := by
  intro j
  induction j with
  | zero => intro i hi; omega
  | succ j ih =>
    intro i hi hj
    have x := (h (j + 1) hj).2.2 (by omega)
    have e : ((j + 1 : Nat) : Int) - 1 = (j : Int) := by omega
    rw [e] at x
    by_cases c : i = j
    · subst c; exact x
    · have y := ih i (by omega) (by omega)
      unfold Ahead at x y ⊢
      omega
/-- A route of a prefix stands at one place: without it the list is short of that place. -/
theorem drop_one {t : List S30} (h : ∀ j, j < t.length → Rat t j) {a b : Int} {j : Nat} (hj : j < t.length) (hp : isR a b (rd_T30 t (j : Int)) = true) : t.filter (fun r => !isR a b r) = t.eraseIdx j := by
  have hp' := of_decide_eq_true hp
  have others : ∀ q, q < t.length → q ≠ j → isR a b (rd_T30 t (q : Int)) = false := fun q hq hne => by
    refine decide_eq_false (fun e => ?_)
    rcases Nat.lt_or_gt_of_ne hne with c | c
    · have := tok_asc h j q c hj
      unfold Ahead at this
      omega
    · have := tok_asc h q j c hq
      unfold Ahead at this
      omega
  have gd : ∀ q, q < t.length → t.getD q z30 = rd_T30 t (q : Int) := fun q hq => by
    rw [rd_natR hq, List.getD_eq_getElem?_getD, List.getElem?_eq_getElem hq]
    rfl
  have e := filter_at (p := isR a b) z30 t hj (by rw [gd j hj]; exact hp) (fun q hq => by rw [gd q (by omega)]; exact others q (by omega) (by omega))
  have e2 : (t.drop (j + 1)).filter (fun y => !isR a b y) = t.drop (j + 1) := by
    rw [List.filter_eq_self]
    intro y hy
    obtain ⟨q, hq, rfl⟩ := List.mem_iff_getElem.1 hy
    rw [List.length_drop] at hq
    have z := others (j + 1 + q) (by omega) (by omega)
    rw [rd_natR (by omega)] at z
    rw [List.getElem_drop, z]
    rfl
  rw [e2] at e
  rw [← e, List.eraseIdx_eq_take_drop_succ]
theorem wr1 {i : Nat} (h : i ≤ 1048576) : wrap64 ((i : Int) + 1) = ((i + 1 : Nat) : Int) := by rw [w64 (by omega) (by omega)]; omega
theorem spec_less {t : List S30} (h : t.length ≤ 1048576) (a b : Int) {k : Nat} (hk : t.length < k) : spec_l02Less.f k t a b = some (t.filter (fun r => !isR a b r)) := by
  have key : ∀ (d i k : Nat) (acc : List S30), i + d = t.length → d < k → acc.length ≤ i → spec_l02Less.l0 k i t a b acc = some (acc ++ (t.drop i).filter (fun r => !isR a b r)) := by
    intro d
    induction d with
    | zero =>
      intro i k acc hi hk ha
      obtain ⟨k, rfl⟩ : ∃ m, k = m + 1 := ⟨k - 1, by omega⟩
      simp only [spec_l02Less.l0]
      rw [if_neg (by omega), List.drop_eq_nil_of_le (by omega)]
      simp
    | succ d ih =>
      intro i k acc hi hk ha
      obtain ⟨k, rfl⟩ : ∃ m, k = m + 1 := ⟨k - 1, by omega⟩
      have hil : i < t.length := by omega
      have er : rd_T30 t (i : Int) = t[i] := rd_natR hil
      have ed : t.drop i = t[i] :: t.drop (i + 1) := List.drop_eq_getElem_cons hil
      simp only [spec_l02Less.l0]
      rw [if_pos (by omega), if_pos (by omega), wr1 (by omega), er, ed, List.filter_cons]
      by_cases c : isR a b t[i] = true
      · have c' := of_decide_eq_true c
        have e : (!(t[i].f0.f0 == a) || !(t[i].f0.f1 == b)) = false := by rw [c'.1, c'.2]; simp
        rw [e, if_neg (by decide), c, ih (i + 1) k acc (by omega) (by omega) (by omega)]
        rfl
      · have c' : isR a b t[i] = false := by simpa using c
        have c2 := of_decide_eq_false c'
        have e : (!(t[i].f0.f0 == a) || !(t[i].f0.f1 == b)) = true := by
          by_cases c3 : t[i].f0.f0 = a
          · have c4 : ¬ t[i].f0.f1 = b := fun c4 => c2 ⟨c3, c4⟩
            simp [c4]
          · simp [c3]
        rw [e, if_pos rfl, if_pos (by omega), c', ih (i + 1) k (acc ++ [t[i]]) (by omega) (by omega) (by rw [List.length_append, List.length_singleton]; omega), List.append_assoc]
        rfl
  have z := key t.length 0 k [] (by omega) (by omega) (Nat.le_refl _)
  unfold spec_l02Less.f
  rw [List.drop_zero, List.nil_append] at z
  exact z
theorem spec_copy {t : List S30} (h : t.length ≤ 1048576) {k : Nat} (hk : t.length < k) : spec_l02Copy.f k t = some t := by
  have key : ∀ (d i k : Nat) (acc : List S30), i + d = t.length → d < k → acc.length ≤ i → spec_l02Copy.l0 k i t acc = some (acc ++ t.drop i) := by
    intro d
    induction d with
    | zero =>
      intro i k acc hi hk ha
      obtain ⟨k, rfl⟩ : ∃ m, k = m + 1 := ⟨k - 1, by omega⟩
      simp only [spec_l02Copy.l0]
      rw [if_neg (by omega), List.drop_eq_nil_of_le (by omega), List.append_nil]
    | succ d ih =>
      intro i k acc hi hk ha
      obtain ⟨k, rfl⟩ : ∃ m, k = m + 1 := ⟨k - 1, by omega⟩
      have hil : i < t.length := by omega
      have er : rd_T30 t (i : Int) = t[i] := rd_natR hil
      have ed : t.drop i = t[i] :: t.drop (i + 1) := List.drop_eq_getElem_cons hil
      simp only [spec_l02Copy.l0]
      rw [if_pos (by omega), if_pos (by omega), if_pos (by omega), wr1 (by omega), er, ed, ih (i + 1) k (acc ++ [t[i]]) (by omega) (by omega) (by rw [List.length_append, List.length_singleton]; omega), List.append_assoc]
      rfl
  have z := key t.length 0 k [] (by omega) (by omega) (Nat.le_refl _)
  unfold spec_l02Copy.f
  rw [List.drop_zero, List.nil_append] at z
  exact z
/-! The stable sort of routes by the length of their prefixes: what it needs and what it leaves. -/
theorem rdR_get (t : List S30) (i : Nat) : rd_T30 t i = t.getD i z30 := by simp [rd_T30]
theorem rdR_set {x : List S30} {i j : Nat} (v : S30) (hi : i < x.length) : rd_T30 (x.set i v) j = if i = j then v else rd_T30 x j := by
  rw [rdR_get, rdR_get, List.getD_eq_getElem?_getD, List.getD_eq_getElem?_getD, List.getElem?_set]
  by_cases c : i = j
  · subst c; simp [hi]
  · simp [c]
/-- The length of the prefix at a place. -/
def Kl (x : List S30) (j : Nat) : Int := (rd_T30 x j).f0.f1
def sw (x : List S30) (i j : Nat) : List S30 := (x.set i (rd_T30 x j)).set j (rd_T30 x i)
theorem sw_len (x : List S30) (i j : Nat) : (sw x i j).length = x.length := by simp [sw]
theorem rd_sw {x : List S30} {i j : Nat} (hi : i < x.length) (hj : j < x.length) (t : Nat) : rd_T30 (sw x i j) t = if j = t then rd_T30 x i else if i = t then rd_T30 x j else rd_T30 x t := by
  unfold sw
  rw [rdR_set _ (by rw [List.length_set]; exact hj)]
  by_cases c : j = t
  · rw [if_pos c, if_pos c]
  · rw [if_neg c, if_neg c, rdR_set _ hi]
/-- y holds from a to b what x holds there, in some order, and is x elsewhere. -/
structure Mix (x y : List S30) (a b : Nat) : Prop where
  len : y.length = x.length
  out : ∀ j : Nat, j < a ∨ b ≤ j → rd_T30 y j = rd_T30 x j
  fro : ∀ i : Nat, a ≤ i → i < b → ∃ p : Nat, a ≤ p ∧ p < b ∧ rd_T30 y i = rd_T30 x p
  back : ∀ i : Nat, a ≤ i → i < b → ∃ p : Nat, a ≤ p ∧ p < b ∧ rd_T30 x i = rd_T30 y p
theorem Mix.refl (x : List S30) (a b : Nat) : Mix x x a b := ⟨rfl, fun _ _ => rfl, fun i h1 h2 => ⟨i, h1, h2, rfl⟩, fun i h1 h2 => ⟨i, h1, h2, rfl⟩⟩
theorem Mix.trans {x y z : List S30} {a b : Nat} (h : Mix x y a b) (g : Mix y z a b) : Mix x z a b := by
  refine ⟨g.len.trans h.len, fun j hj => (g.out j hj).trans (h.out j hj), fun i h1 h2 => ?_, fun i h1 h2 => ?_⟩
  · obtain ⟨p, p1, p2, p3⟩ := g.fro i h1 h2
    obtain ⟨q, q1, q2, q3⟩ := h.fro p p1 p2
    exact ⟨q, q1, q2, p3.trans q3⟩
  · obtain ⟨p, p1, p2, p3⟩ := h.back i h1 h2
    obtain ⟨q, q1, q2, q3⟩ := g.back p p1 p2
    exact ⟨q, q1, q2, p3.trans q3⟩
theorem Mix.widen {x y : List S30} {a b a' b' : Nat} (h : Mix x y a b) (ha : a' ≤ a) (hb : b ≤ b') : Mix x y a' b' := by
  refine ⟨h.len, fun j hj => h.out j (by omega), fun i h1 h2 => ?_, fun i h1 h2 => ?_⟩
  · by_cases c : a ≤ i ∧ i < b
    · obtain ⟨p, p1, p2, p3⟩ := h.fro i c.1 c.2
      exact ⟨p, by omega, by omega, p3⟩
    · exact ⟨i, h1, h2, h.out i (by omega)⟩
  · by_cases c : a ≤ i ∧ i < b
    · obtain ⟨p, p1, p2, p3⟩ := h.back i c.1 c.2
      exact ⟨p, by omega, by omega, p3⟩
    · exact ⟨i, h1, h2, (h.out i (by omega)).symm⟩
theorem Mix.sw {x : List S30} {a b i j : Nat} (hi : a ≤ i ∧ i < b) (hj : a ≤ j ∧ j < b) (hb : b ≤ x.length) : Mix x (sw x i j) a b := by
  have r := rd_sw (x := x) (i := i) (j := j) (by omega) (by omega)
  refine ⟨sw_len .., fun t ht => ?_, fun t h1 h2 => ?_, fun t h1 h2 => ?_⟩
  · rw [r, if_neg (by omega), if_neg (by omega)]
  · rw [r]
    by_cases c : j = t
    · rw [if_pos c]; exact ⟨i, hi.1, hi.2, rfl⟩
    · rw [if_neg c]
      by_cases c2 : i = t
      · rw [if_pos c2]; exact ⟨j, hj.1, hj.2, rfl⟩
      · rw [if_neg c2]; exact ⟨t, h1, h2, rfl⟩
  · by_cases c : j = t
    · refine ⟨i, hi.1, hi.2, ?_⟩
      rw [r]
      by_cases c2 : j = i
      · rw [if_pos c2, ← c, c2]
      · rw [if_neg c2, if_pos rfl, c]
    · by_cases c2 : i = t
      · exact ⟨j, hj.1, hj.2, by rw [r, if_pos rfl, c2]⟩
      · exact ⟨t, h1, h2, by rw [r, if_neg c, if_neg c2]⟩
/-- All lengths are those of prefixes, and there are few. -/
def Bd (x : List S30) : Prop := x.length ≤ 1000 ∧ ∀ j : Nat, j < x.length → 0 ≤ Kl x j ∧ Kl x j ≤ 16
theorem Bd.mix {x y : List S30} {a b : Nat} (h : Bd x) (m : Mix x y a b) (hb : b ≤ x.length) : Bd y := by
  refine ⟨by rw [m.len]; exact h.1, fun j hj => ?_⟩
  rw [m.len] at hj
  unfold Kl
  by_cases c : a ≤ j ∧ j < b
  · obtain ⟨p, p1, p2, p3⟩ := m.fro j c.1 c.2
    rw [p3]; exact h.2 p (by omega)
  · rw [m.out j (by omega)]; exact h.2 j hj
def Srt (x : List S30) (a b : Nat) : Prop := ∀ p q : Nat, a ≤ p → p < q → q < b → Kl x p ≤ Kl x q
theorem Srt.mix {x y : List S30} {a b c d : Nat} (h : Srt x a b) (m : Mix x y c d) (hd : b ≤ c ∨ d ≤ a) : Srt y a b := by
  intro p q h1 h2 h3
  unfold Kl
  rw [m.out p (by omega), m.out q (by omega)]
  exact h p q h1 h2 h3
theorem Srt.le {x : List S30} {a b : Nat} (h : Srt x a b) {p q : Nat} (h1 : a ≤ p) (h2 : p ≤ q) (h3 : q < b) : Kl x p ≤ Kl x q := by
  rcases Nat.lt_or_ge p q with c | c
  · exact h p q h1 c h3
  · rw [show p = q by omega]; exact Int.le_refl _
theorem cmp_R {a b c d e f : Int} (h : -9223372036854775808 ≤ b - e) (h2 : b - e ≤ 9223372036854775807) : impl_hopsOf_1.f a b c d e f = some (b - e) := by
  unfold impl_hopsOf_1.f
  rw [w64 h h2]
/-- Sorted from a to i but for what stands at j, which may be too far to the right. -/
def Inv1 (x : List S30) (a i j : Nat) : Prop := ∀ p q : Nat, a ≤ p → p < q → q ≤ i → q ≠ j → Kl x p ≤ Kl x q
theorem ins_inner (a b i : Nat) (hib : i < b) : ∀ (d k j : Nat) (x : List S30), j = a + d → j ≤ i → b ≤ x.length → Bd x → d < k → Inv1 x a i j →
    ∃ y k', k ≤ k' + d + 1 ∧ Mix x y a (i + 1) ∧ Srt y a (i + 1) ∧ slices_insertionSortCmpFunc_impl_Route.l1 k x a b i j = slices_insertionSortCmpFunc_impl_Route.l0 k' y a b ((i + 1 : Nat) : Int) := by
  intro d
  induction d with
  | zero =>
    intro k j x hj hji hb hB hk hI
    obtain ⟨k, rfl⟩ : ∃ m, k = m + 1 := ⟨k - 1, by omega⟩
    have hl := hB.1
    refine ⟨x, k, by omega, Mix.refl .., fun p q h1 h2 h3 => hI p q h1 h2 (by omega) (by omega), ?_⟩
    simp only [slices_insertionSortCmpFunc_impl_Route.l1]
    rw [if_neg (by omega), w64 (by omega) (by omega)]
    rfl
  | succ d ih =>
    intro k j x hj hji hb hB hk hI
    obtain ⟨k, rfl⟩ : ∃ m, k = m + 1 := ⟨k - 1, by omega⟩
    obtain ⟨j, rfl⟩ : ∃ m, j = m + 1 := ⟨j - 1, by omega⟩
    have hl := hB.1
    have e1 := Aside0.mk (show wrap64 (((j + 1 : Nat) : Int) - 1) = (j : Int) from by rw [w64 (by omega) (by omega)]; omega)
    have k1 := hB.2 j (by omega)
    have k2 := hB.2 (j + 1) (by omega)
    simp only [slices_insertionSortCmpFunc_impl_Route.l1]
    rw [e1.out, if_pos (by omega), if_pos (by omega), if_pos (by omega), if_pos (by omega), if_pos (by omega), cmp_R (by unfold Kl at k1 k2; omega) (by unfold Kl at k1 k2; omega)]
    simp only [Option.bind_some, Int.toNat_natCast]
    by_cases c : Kl x (j + 1) < Kl x j
    · rw [if_pos (by unfold Kl at c; omega)]
      have hm : Mix x (sw x (j + 1) j) a (i + 1) := Mix.sw ⟨by omega, by omega⟩ ⟨by omega, by omega⟩ (by omega)
      have r := rd_sw (x := x) (i := j + 1) (j := j) (by omega) (by omega)
      obtain ⟨y, k', q1, q2, q3, q4⟩ := ih k j (sw x (j + 1) j) (by omega) (by omega) (by rw [sw_len]; exact hb) (hB.mix hm (by omega)) (by omega) (fun p q h1 h2 h3 h4 => by
        unfold Kl at c ⊢
        rw [r p, r q, if_neg (by omega : ¬ j = q)]
        by_cases cq : j + 1 = q
        · rw [if_pos cq]
          by_cases cp : j = p
          · rw [if_pos cp]; omega
          · rw [if_neg cp, if_neg (by omega)]
            exact hI p j h1 (by omega) (by omega) (by omega)
        · rw [if_neg cq]
          by_cases cp : j = p
          · rw [if_pos cp]
            exact hI (j + 1) q (by omega) (by omega) h3 (by omega)
          · rw [if_neg cp]
            by_cases cp2 : j + 1 = p
            · rw [if_pos cp2]
              exact hI j q (by omega) (by omega) h3 (by omega)
            · rw [if_neg cp2]
              exact hI p q h1 h2 h3 (by omega))
      exact ⟨y, k', by omega, hm.trans q2, q3, q4⟩
    · rw [if_neg (by unfold Kl at c; omega)]
      refine ⟨x, k, by omega, Mix.refl .., fun p q h1 h2 h3 => ?_, by rw [w64 (by omega) (by omega)]; rfl⟩
      by_cases cq : q = j + 1
      · subst cq
        by_cases cp : p = j
        · subst cp; omega
        · have := hI p j h1 (by omega) (by omega) (by omega)
          omega
      · exact hI p q h1 h2 (by omega) cq
theorem ins_outer (a b : Nat) : ∀ (d k i : Nat) (x : List S30), i + d = b → a < i → b ≤ x.length → Bd x → d * (b + 3) + 1 < k → Srt x a i →
    ∃ y, Mix x y a b ∧ Srt y a b ∧ slices_insertionSortCmpFunc_impl_Route.l0 k x a b i = some y := by
  intro d
  induction d with
  | zero =>
    intro k i x hi hai hb hB hk hS
    obtain ⟨k, rfl⟩ : ∃ m, k = m + 1 := ⟨k - 1, by omega⟩
    obtain rfl : i = b := by omega
    simp only [slices_insertionSortCmpFunc_impl_Route.l0]
    rw [if_neg (by omega)]
    exact ⟨x, Mix.refl .., hS, rfl⟩
  | succ d ih =>
    intro k i x hi hai hb hB hk hS
    obtain ⟨k, rfl⟩ : ∃ m, k = m + 1 := ⟨k - 1, by omega⟩
    have hk2 : d * (b + 3) + (b + 3) + 1 < k + 1 := by rw [Nat.succ_mul] at hk; exact hk
    simp only [slices_insertionSortCmpFunc_impl_Route.l0]
    rw [if_pos (by omega)]
    obtain ⟨y, k', q1, q2, q3, q4⟩ := ins_inner a b i (by omega) (i - a) k i x (by omega) (Nat.le_refl _) hb hB (by omega) (fun p q h1 h2 h3 h4 => hS p q h1 h2 (by omega))
    obtain ⟨z, z1, z2, z3⟩ := ih k' (i + 1) y (by omega) (by omega) (by rw [q2.len]; exact hb) (hB.mix q2 (by omega)) (by omega) q3
    exact ⟨z, (q2.widen (Nat.le_refl _) (by omega)).trans z1, z2, by rw [q4, z3]⟩
theorem ins_sort {a b k : Nat} {x : List S30} (hab : a < b) (hb : b ≤ x.length) (hB : Bd x) (hk : (b + 1) * (b + 3) < k) :
    ∃ y, Mix x y a b ∧ Srt y a b ∧ slices_insertionSortCmpFunc_impl_Route.f k x a b = some y := by
  have hl := hB.1
  have e : (b - (a + 1)) * (b + 3) + 1 < k := by
    have h1 : (b - (a + 1)) * (b + 3) ≤ b * (b + 3) := Nat.mul_le_mul_right _ (by omega)
    rw [Nat.succ_mul] at hk
    omega
  obtain ⟨y, y1, y2, y3⟩ := ins_outer a b (b - (a + 1)) k (a + 1) x (by omega) (by omega) hb hB e (fun p q h1 h2 h3 => by omega)
  refine ⟨y, y1, y2, ?_⟩
  unfold slices_insertionSortCmpFunc_impl_Route.f
  rw [w64 (by omega) (by omega)]
  exact y3
theorem swr_loop (a b n : Nat) (hab : a + n ≤ b) : ∀ (d k i : Nat) (x : List S30), i + d = n → d < k → b + n ≤ x.length → x.length ≤ 1000 →
    ∃ y, y.length = x.length ∧ (∀ t : Nat, rd_T30 y t = if a + i ≤ t ∧ t < a + n then rd_T30 x ((t - a + b : Nat) : Int) else if b + i ≤ t ∧ t < b + n then rd_T30 x ((t - b + a : Nat) : Int) else rd_T30 x t) ∧ slices_swapRangeCmpFunc_impl_Route.l0 k x a b n i = some y := by
  intro d
  induction d with
  | zero =>
    intro k i x hi hk hb hl
    obtain ⟨k, rfl⟩ : ∃ m, k = m + 1 := ⟨k - 1, by omega⟩
    refine ⟨x, rfl, fun t => by rw [if_neg (by omega), if_neg (by omega)], ?_⟩
    simp only [slices_swapRangeCmpFunc_impl_Route.l0]
    rw [if_neg (by omega)]
  | succ d ih =>
    intro k i x hi hk hb hl
    obtain ⟨k, rfl⟩ : ∃ m, k = m + 1 := ⟨k - 1, by omega⟩
    have e1 := Aside0.mk (show wrap64 ((b : Int) + (i : Int)) = ((b + i : Nat) : Int) from by rw [w64 (by omega) (by omega)]; omega)
    have e2 := Aside0.mk (show wrap64 ((a : Int) + (i : Int)) = ((a + i : Nat) : Int) from by rw [w64 (by omega) (by omega)]; omega)
    have e3 := Aside0.mk (show wrap64 ((i : Int) + 1) = ((i + 1 : Nat) : Int) from by rw [w64 (by omega) (by omega)]; omega)
    have r := rd_sw (x := x) (i := a + i) (j := b + i) (by omega) (by omega)
    obtain ⟨y, y1, y2, y3⟩ := ih k (i + 1) (sw x (a + i) (b + i)) (by omega) (by omega) (by rw [sw_len]; exact hb) (by rw [sw_len]; exact hl)
    refine ⟨y, y1.trans (sw_len ..), fun t => ?_, ?_⟩
    · rw [y2 t]
      by_cases c1 : a + (i + 1) ≤ t ∧ t < a + n
      · rw [if_pos c1, if_pos (by omega), r, if_neg (by omega), if_neg (by omega)]
      · rw [if_neg c1]
        by_cases c2 : b + (i + 1) ≤ t ∧ t < b + n
        · rw [if_pos c2, if_neg (by omega), if_pos (by omega), r, if_neg (by omega), if_neg (by omega)]
        · rw [if_neg c2, r t]
          by_cases c3 : b + i = t
          · rw [if_pos c3, if_neg (by omega), if_pos (by omega), show t - b + a = a + i by omega]
          · rw [if_neg c3]
            by_cases c4 : a + i = t
            · rw [if_pos c4, if_pos (by omega), show t - a + b = b + i by omega]
            · rw [if_neg c4, if_neg (by omega), if_neg (by omega)]
    · simp only [slices_swapRangeCmpFunc_impl_Route.l0]
      rw [if_pos (by omega), e1.out, e2.out, e3.out, if_pos (by omega), if_pos (by omega), if_pos (by omega), if_pos (by omega)]
      exact y3
theorem swr {a b n k : Nat} {x : List S30} (hab : a + n ≤ b) (hb : b + n ≤ x.length) (hl : x.length ≤ 1000) (hk : n < k) :
    ∃ y, y.length = x.length ∧ (∀ t : Nat, rd_T30 y t = if a ≤ t ∧ t < a + n then rd_T30 x ((t - a + b : Nat) : Int) else if b ≤ t ∧ t < b + n then rd_T30 x ((t - b + a : Nat) : Int) else rd_T30 x t) ∧ slices_swapRangeCmpFunc_impl_Route.f k x a b n = some y := by
  obtain ⟨y, y1, y2, y3⟩ := swr_loop a b n hab n k 0 x (by omega) hk hb hl
  exact ⟨y, y1, y2, y3⟩
/-- y is x with what stands from s to m and what stands from m to e changed over. -/
def Rot (x y : List S30) (s m e : Nat) : Prop := y.length = x.length ∧ ∀ t : Nat, rd_T30 y t = if s ≤ t ∧ t < s + (e - m) then rd_T30 x ((t + (m - s) : Nat) : Int) else if s + (e - m) ≤ t ∧ t < e then rd_T30 x ((t - (e - m) : Nat) : Int) else rd_T30 x t
theorem rot_loop (m : Nat) : ∀ (N k i j : Nat) (x : List S30), i + j ≤ N → 1 ≤ i → 1 ≤ j → i ≤ m → m + j ≤ x.length → x.length ≤ 1000 → 2 * N + 1 < k →
    ∃ y, Rot x y (m - i) m (m + j) ∧ slices_rotateCmpFunc_impl_Route.l0 k x m i j = some y := by
  intro N
  induction N with
  | zero => intro k i j x h1 h2; omega
  | succ N ih =>
    intro k i j x hN hi hj him hml hl hk
    obtain ⟨k, rfl⟩ : ∃ m, k = m + 1 := ⟨k - 1, by omega⟩
    have e1 := Aside0.mk (show wrap64 ((m : Int) - (i : Int)) = ((m - i : Nat) : Int) from by rw [w64 (by omega) (by omega)]; omega)
    simp only [slices_rotateCmpFunc_impl_Route.l0]
    rw [e1.out]
    by_cases c1 : i = j
    · subst c1
      rw [if_pos rfl]
      obtain ⟨y, y1, y2, y3⟩ := swr (a := m - i) (b := m) (n := i) (k := k) (x := x) (by omega) (by omega) hl (by omega)
      refine ⟨y, ⟨y1, fun t => ?_⟩, by rw [y3]; rfl⟩
      rw [y2 t]
      by_cases c2 : m - i ≤ t ∧ t < m - i + i
      · rw [if_pos c2, if_pos (by omega), show t - (m - i) + m = t + (m - (m - i)) by omega]
      · rw [if_neg c2]
        by_cases c3 : m ≤ t ∧ t < m + i
        · rw [if_pos c3, if_neg (by omega), if_pos (by omega), show t - m + (m - i) = t - (m + i - m) by omega]
        · rw [if_neg c3, if_neg (by omega), if_neg (by omega)]
    · rw [if_neg (by omega)]
      by_cases c2 : i > j
      · rw [if_pos (by omega)]
        obtain ⟨y, y1, y2, y3⟩ := swr (a := m - i) (b := m) (n := j) (k := k) (x := x) (by omega) (by omega) hl (by omega)
        obtain ⟨z, ⟨z1, z2⟩, z3⟩ := ih k (i - j) j y (by omega) (by omega) hj (by omega) (by omega) (by omega) (by omega)
        have e2 := Aside0.mk (show wrap64 ((i : Int) - (j : Int)) = ((i - j : Nat) : Int) from by rw [w64 (by omega) (by omega)]; omega)
        refine ⟨z, ⟨z1.trans y1, fun t => ?_⟩, by rw [y3, e2.out]; exact z3⟩
        rw [z2 t]
        by_cases d1 : m - (i - j) ≤ t ∧ t < m - (i - j) + (m + j - m)
        · rw [if_pos d1, y2, if_neg (by omega), if_pos (by omega), if_neg (by omega), if_pos (by omega)]
          congr 2; omega
        · rw [if_neg d1]
          by_cases d2 : m - (i - j) + (m + j - m) ≤ t ∧ t < m + j
          · rw [if_pos d2, y2, if_neg (by omega), if_neg (by omega), if_neg (by omega), if_pos (by omega)]
          · rw [if_neg d2, y2]
            by_cases d3 : m - i ≤ t ∧ t < m - i + j
            · rw [if_pos d3, if_pos (by omega)]
              congr 2; omega
            · rw [if_neg d3, if_neg (by omega), if_neg (by omega), if_neg (by omega)]
      · rw [if_neg (by omega)]
        have e3 := Aside0.mk (show wrap64 (wrap64 ((m : Int) + (j : Int)) - (i : Int)) = ((m + j - i : Nat) : Int) from by rw [w64 (n := (m : Int) + j) (by omega) (by omega), w64 (by omega) (by omega)]; omega)
        obtain ⟨y, y1, y2, y3⟩ := swr (a := m - i) (b := m + j - i) (n := i) (k := k) (x := x) (by omega) (by omega) hl (by omega)
        obtain ⟨z, ⟨z1, z2⟩, z3⟩ := ih k i (j - i) y (by omega) hi (by omega) him (by omega) (by omega) (by omega)
        have e2 := Aside0.mk (show wrap64 ((j : Int) - (i : Int)) = ((j - i : Nat) : Int) from by rw [w64 (by omega) (by omega)]; omega)
        refine ⟨z, ⟨z1.trans y1, fun t => ?_⟩, by rw [e3.out, y3, e2.out]; exact z3⟩
        rw [z2 t]
        by_cases d1 : m - i ≤ t ∧ t < m - i + (m + (j - i) - m)
        · rw [if_pos d1, y2, if_neg (by omega), if_neg (by omega), if_pos (by omega)]
        · rw [if_neg d1]
          by_cases d2 : m - i + (m + (j - i) - m) ≤ t ∧ t < m + (j - i)
          · rw [if_pos d2, y2, if_pos (by omega), if_pos (by omega)]
            congr 2; omega
          · rw [if_neg d2, y2, if_neg (by omega)]
            by_cases d3 : m + j - i ≤ t ∧ t < m + j - i + i
            · rw [if_pos d3, if_neg (by omega), if_pos (by omega)]
              congr 2; omega
            · rw [if_neg d3, if_neg (by omega), if_neg (by omega)]
theorem rot {s m e k : Nat} {x : List S30} (h1 : s < m) (h2 : m < e) (he : e ≤ x.length) (hl : x.length ≤ 1000) (hk : 2 * (e - s) + 1 < k) :
    ∃ y, Rot x y s m e ∧ slices_rotateCmpFunc_impl_Route.f k x s m e = some y := by
  have e1 := Aside0.mk (show wrap64 ((m : Int) - (s : Int)) = ((m - s : Nat) : Int) from by rw [w64 (by omega) (by omega)]; omega)
  have e2 := Aside0.mk (show wrap64 ((e : Int) - (m : Int)) = ((e - m : Nat) : Int) from by rw [w64 (by omega) (by omega)]; omega)
  obtain ⟨y, y1, y2⟩ := rot_loop m (e - s) k (m - s) (e - m) x (by omega) (by omega) (by omega) (by omega) (by omega) hl hk
  rw [show m - (m - s) = s by omega, show m + (e - m) = e by omega] at y1
  refine ⟨y, y1, ?_⟩
  unfold slices_rotateCmpFunc_impl_Route.f
  rw [e1.out, e2.out]
  exact y2
theorem Rot.mix {x y : List S30} {s m e : Nat} (h : Rot x y s m e) (h1 : s ≤ m) (h2 : m ≤ e) : Mix x y s e := by
  refine ⟨h.1, fun t ht => ?_, fun t t1 t2 => ?_, fun t t1 t2 => ?_⟩
  · rw [h.2 t, if_neg (by omega), if_neg (by omega)]
  · rw [h.2 t]
    by_cases c : s ≤ t ∧ t < s + (e - m)
    · rw [if_pos c]; exact ⟨t + (m - s), by omega, by omega, rfl⟩
    · rw [if_neg c, if_pos (by omega)]; exact ⟨t - (e - m), by omega, by omega, rfl⟩
  · by_cases c : t < m
    · refine ⟨t + (e - m), by omega, by omega, ?_⟩
      rw [h.2, if_neg (by omega), if_pos (by omega), show t + (e - m) - (e - m) = t by omega]
    · refine ⟨t - (m - s), by omega, by omega, ?_⟩
      rw [h.2, if_pos (by omega), show t - (m - s) + (m - s) = t by omega]
theorem u64n {n : Int} (h0 : 0 ≤ n) (h1 : n < 18446744073709551616) : IntKind.u64.wrap n = n := by
  have e : IntKind.u64.wrap n = n % 18446744073709551616 := rfl
  rw [e]; omega
theorem mid_ {i j : Nat} (h : i + j ≤ 4000) : wrap64 ((IntKind.u64.wrap (wrap64 ((i : Int) + (j : Int)))) / 2) = (((i + j) / 2 : Nat) : Int) := by
  rw [w64 (n := (i : Int) + j) (by omega) (by omega), u64n (by omega) (by omega), w64 (by omega) (by omega)]
  omega
theorem bs0 {x : List S30} (a m b : Nat) (ha : a < m) (hb : b ≤ x.length) (hB : Bd x) (hS : Srt x m b) : ∀ (N k i j : Nat), j - i ≤ N → m ≤ i → i ≤ j → j ≤ b → N + 1 < k →
    (∀ t : Nat, m ≤ t → t < i → Kl x t < Kl x a) → (∀ t : Nat, j ≤ t → t < b → Kl x a ≤ Kl x t) →
    ∃ i' k', k ≤ k' + N + 1 ∧ m ≤ i' ∧ i' ≤ b ∧ (∀ t : Nat, m ≤ t → t < i' → Kl x t < Kl x a) ∧ (∀ t : Nat, i' ≤ t → t < b → Kl x a ≤ Kl x t) ∧ slices_symMergeCmpFunc_impl_Route.l0 k x a i j = slices_symMergeCmpFunc_impl_Route.l1 k' x i' a := by
  intro N
  induction N with
  | zero =>
    intro k i j h1 h2 h3 h4 hk p q
    obtain ⟨k, rfl⟩ : ∃ m, k = m + 1 := ⟨k - 1, by omega⟩
    obtain rfl : i = j := by omega
    refine ⟨i, k, by omega, h2, h4, p, q, ?_⟩
    simp only [slices_symMergeCmpFunc_impl_Route.l0]
    rw [if_neg (by omega)]
  | succ N ih =>
    intro k i j h1 h2 h3 h4 hk p q
    obtain ⟨k, rfl⟩ : ∃ m, k = m + 1 := ⟨k - 1, by omega⟩
    have hl := hB.1
    by_cases c : i < j
    · obtain ⟨h, hh⟩ : ∃ h, h = (i + j) / 2 := ⟨_, rfl⟩
      have k1 := hB.2 a (by omega)
      have k2 := hB.2 h (by omega)
      have e1 := Aside0.mk (show wrap64 ((h : Int) + 1) = ((h + 1 : Nat) : Int) from by rw [w64 (by omega) (by omega)]; omega)
      simp only [slices_symMergeCmpFunc_impl_Route.l0]
      rw [if_pos (by omega), mid_ (by omega), ← hh, if_pos (by omega), if_pos (by omega), if_pos (by omega), if_pos (by omega), cmp_R (by unfold Kl at k1 k2; omega) (by unfold Kl at k1 k2; omega)]
      simp only [Option.bind_some]
      by_cases d : Kl x h < Kl x a
      · rw [if_pos (by unfold Kl at d; omega), e1.out]
        obtain ⟨i', k', r1, r2, r3, r4, r5, r6⟩ := ih k (h + 1) j (by omega) (by omega) (by omega) h4 (by omega) (fun t t1 t2 => by
          have := hS.le t1 (show t ≤ h by omega) (by omega)
          omega) q
        exact ⟨i', k', by omega, r2, r3, r4, r5, r6⟩
      · rw [if_neg (by unfold Kl at d; omega)]
        obtain ⟨i', k', r1, r2, r3, r4, r5, r6⟩ := ih k i h (by omega) h2 (by omega) (by omega) (by omega) p (fun t t1 t2 => by
          have := hS.le (show m ≤ h by omega) t1 t2
          omega)
        exact ⟨i', k', by omega, r2, r3, r4, r5, r6⟩
    · obtain rfl : i = j := by omega
      refine ⟨i, k, by omega, h2, h4, p, q, ?_⟩
      simp only [slices_symMergeCmpFunc_impl_Route.l0]
      rw [if_neg (by omega)]
theorem bub0 (i : Nat) : ∀ (d k c : Nat) (x : List S30), c + 1 + d = i → i ≤ x.length → x.length ≤ 1000 → d < k →
    ∃ y, y.length = x.length ∧ (∀ t : Nat, rd_T30 y t = if c ≤ t ∧ t + 1 < i then rd_T30 x ((t + 1 : Nat) : Int) else if t + 1 = i then rd_T30 x (c : Nat) else rd_T30 x t) ∧ slices_symMergeCmpFunc_impl_Route.l1 k x i c = some y := by
  intro d
  induction d with
  | zero =>
    intro k c x hc hi hl hk
    obtain ⟨k, rfl⟩ : ∃ m, k = m + 1 := ⟨k - 1, by omega⟩
    refine ⟨x, rfl, fun t => ?_, ?_⟩
    · rw [if_neg (by omega)]
      by_cases e : t + 1 = i
      · rw [if_pos e, show t = c by omega]
      · rw [if_neg e]
    · simp only [slices_symMergeCmpFunc_impl_Route.l1]
      rw [w64 (n := (i : Int) - 1) (by omega) (by omega), if_neg (by omega)]
  | succ d ih =>
    intro k c x hc hi hl hk
    obtain ⟨k, rfl⟩ : ∃ m, k = m + 1 := ⟨k - 1, by omega⟩
    have e1 := Aside0.mk (show wrap64 ((c : Int) + 1) = ((c + 1 : Nat) : Int) from by rw [w64 (by omega) (by omega)]; omega)
    have r := rd_sw (x := x) (i := c) (j := c + 1) (by omega) (by omega)
    obtain ⟨y, y1, y2, y3⟩ := ih k (c + 1) (sw x c (c + 1)) (by omega) (by rw [sw_len]; exact hi) (by rw [sw_len]; exact hl) (by omega)
    refine ⟨y, y1.trans (sw_len ..), fun t => ?_, ?_⟩
    · rw [y2 t]
      by_cases d1 : c + 1 ≤ t ∧ t + 1 < i
      · rw [if_pos d1, if_pos (by omega), r, if_neg (by omega), if_neg (by omega)]
      · rw [if_neg d1]
        by_cases d2 : t + 1 = i
        · rw [if_pos d2, if_neg (by omega), if_pos d2, r, if_pos rfl]
        · rw [if_neg d2, r t, if_neg (by omega : ¬ c + 1 = t)]
          by_cases d3 : c = t
          · rw [if_pos d3, if_pos (by omega), d3]
          · rw [if_neg d3, if_neg (by omega), if_neg d2]
    · simp only [slices_symMergeCmpFunc_impl_Route.l1]
      rw [w64 (n := (i : Int) - 1) (by omega) (by omega), if_pos (by omega), e1.out, if_pos (by omega), if_pos (by omega), if_pos (by omega), if_pos (by omega)]
      exact y3
theorem merge1 {x : List S30} {a b k : Nat} (hab : a + 1 < b) (hb : b ≤ x.length) (hB : Bd x) (hS : Srt x (a + 1) b) (hk : 2 * (b - a) + 4 < k) :
    ∃ y, Mix x y a b ∧ Srt y a b ∧ slices_symMergeCmpFunc_impl_Route.l0 k x a ((a + 1 : Nat) : Int) b = some y := by
  obtain ⟨i, k', r1, r2, r3, r4, r5, r6⟩ := bs0 a (a + 1) b (by omega) hb hB hS (b - a) k (a + 1) b (by omega) (Nat.le_refl _) (by omega) (Nat.le_refl _) (by omega) (fun t t1 t2 => by omega) (fun t t1 t2 => by omega)
  obtain ⟨y, y1, y2, y3⟩ := bub0 i (i - (a + 1)) k' a x (by omega) (by omega) hB.1 (by omega)
  refine ⟨y, ⟨y1, fun t ht => ?_, fun t t1 t2 => ?_, fun t t1 t2 => ?_⟩, fun p q h1 h2 h3 => ?_, by rw [r6, y3]⟩
  · rw [y2 t, if_neg (by omega), if_neg (by omega)]
  · rw [y2 t]
    by_cases c : a ≤ t ∧ t + 1 < i
    · rw [if_pos c]; exact ⟨t + 1, by omega, by omega, rfl⟩
    · rw [if_neg c]
      by_cases c2 : t + 1 = i
      · rw [if_pos c2]; exact ⟨a, by omega, by omega, rfl⟩
      · rw [if_neg c2]; exact ⟨t, by omega, by omega, rfl⟩
  · by_cases c : t = a
    · refine ⟨i - 1, by omega, by omega, ?_⟩
      rw [y2, if_neg (by omega), if_pos (by omega), c]
    · by_cases c2 : t < i
      · refine ⟨t - 1, by omega, by omega, ?_⟩
        rw [y2, if_pos (by omega), show t - 1 + 1 = t by omega]
      · refine ⟨t, by omega, by omega, ?_⟩
        rw [y2, if_neg (by omega), if_neg (by omega)]
  · have kp : Kl y p = if a ≤ p ∧ p + 1 < i then Kl x (p + 1) else if p + 1 = i then Kl x a else Kl x p := by
      unfold Kl; rw [y2 p]; split; rfl; split <;> rfl
    have kq : Kl y q = if a ≤ q ∧ q + 1 < i then Kl x (q + 1) else if q + 1 = i then Kl x a else Kl x q := by
      unfold Kl; rw [y2 q]; split; rfl; split <;> rfl
    rw [kp, kq]
    by_cases c : a ≤ p ∧ p + 1 < i
    · rw [if_pos c]
      by_cases d : a ≤ q ∧ q + 1 < i
      · rw [if_pos d]; exact hS.le (by omega) (by omega) (by omega)
      · rw [if_neg d]
        by_cases d2 : q + 1 = i
        · rw [if_pos d2]; have := r4 (p + 1) (by omega) (by omega); omega
        · rw [if_neg d2]; exact hS.le (by omega) (by omega) (by omega)
    · rw [if_neg c, if_neg (by omega : ¬ (a ≤ q ∧ q + 1 < i))]
      by_cases c2 : p + 1 = i
      · rw [if_pos c2, if_neg (by omega)]; exact r5 q (by omega) (by omega)
      · rw [if_neg c2, if_neg (by omega)]; exact hS.le (by omega) (by omega) (by omega)
theorem bs2 {x : List S30} (a m : Nat) (hm : m < x.length) (hB : Bd x) (hS : Srt x a m) : ∀ (N k i j : Nat), j - i ≤ N → a ≤ i → i ≤ j → j ≤ m → N + 1 < k →
    (∀ t : Nat, a ≤ t → t < i → Kl x t ≤ Kl x m) → (∀ t : Nat, j ≤ t → t < m → Kl x m < Kl x t) →
    ∃ i' k', k ≤ k' + N + 1 ∧ a ≤ i' ∧ i' ≤ m ∧ (∀ t : Nat, a ≤ t → t < i' → Kl x t ≤ Kl x m) ∧ (∀ t : Nat, i' ≤ t → t < m → Kl x m < Kl x t) ∧ slices_symMergeCmpFunc_impl_Route.l2 k x m i j = slices_symMergeCmpFunc_impl_Route.l3 k' x i' m := by
  intro N
  induction N with
  | zero =>
    intro k i j h1 h2 h3 h4 hk p q
    obtain ⟨k, rfl⟩ : ∃ m, k = m + 1 := ⟨k - 1, by omega⟩
    obtain rfl : i = j := by omega
    refine ⟨i, k, by omega, h2, h4, p, q, ?_⟩
    simp only [slices_symMergeCmpFunc_impl_Route.l2]
    rw [if_neg (by omega)]
  | succ N ih =>
    intro k i j h1 h2 h3 h4 hk p q
    obtain ⟨k, rfl⟩ : ∃ m, k = m + 1 := ⟨k - 1, by omega⟩
    have hl := hB.1
    by_cases c : i < j
    · obtain ⟨h, hh⟩ : ∃ h, h = (i + j) / 2 := ⟨_, rfl⟩
      have k1 := hB.2 m (by omega)
      have k2 := hB.2 h (by omega)
      have e1 := Aside0.mk (show wrap64 ((h : Int) + 1) = ((h + 1 : Nat) : Int) from by rw [w64 (by omega) (by omega)]; omega)
      simp only [slices_symMergeCmpFunc_impl_Route.l2]
      rw [if_pos (by omega), mid_ (by omega), ← hh, if_pos (by omega), if_pos (by omega), if_pos (by omega), if_pos (by omega), cmp_R (by unfold Kl at k1 k2; omega) (by unfold Kl at k1 k2; omega)]
      simp only [Option.bind_some]
      by_cases d : Kl x m < Kl x h
      · rw [if_pos (by unfold Kl at d; omega)]
        obtain ⟨i', k', r1, r2, r3, r4, r5, r6⟩ := ih k i h (by omega) h2 (by omega) (by omega) (by omega) p (fun t t1 t2 => by
          have := hS.le (show a ≤ h by omega) t1 t2
          omega)
        exact ⟨i', k', by omega, r2, r3, r4, r5, r6⟩
      · rw [if_neg (by unfold Kl at d; omega), e1.out]
        obtain ⟨i', k', r1, r2, r3, r4, r5, r6⟩ := ih k (h + 1) j (by omega) (by omega) (by omega) h4 (by omega) (fun t t1 t2 => by
          have := hS.le t1 (show t ≤ h by omega) (by omega)
          omega) q
        exact ⟨i', k', by omega, r2, r3, r4, r5, r6⟩
    · obtain rfl : i = j := by omega
      refine ⟨i, k, by omega, h2, h4, p, q, ?_⟩
      simp only [slices_symMergeCmpFunc_impl_Route.l2]
      rw [if_neg (by omega)]
theorem bub2 (i : Nat) : ∀ (d k c : Nat) (x : List S30), i + d = c → c < x.length → x.length ≤ 1000 → d < k →
    ∃ y, y.length = x.length ∧ (∀ t : Nat, rd_T30 y t = if i < t ∧ t ≤ c then rd_T30 x ((t - 1 : Nat) : Int) else if t = i then rd_T30 x (c : Nat) else rd_T30 x t) ∧ slices_symMergeCmpFunc_impl_Route.l3 k x i c = some y := by
  intro d
  induction d with
  | zero =>
    intro k c x hc hi hl hk
    obtain ⟨k, rfl⟩ : ∃ m, k = m + 1 := ⟨k - 1, by omega⟩
    refine ⟨x, rfl, fun t => ?_, ?_⟩
    · rw [if_neg (by omega)]
      by_cases e : t = i
      · rw [if_pos e, show t = c by omega]
      · rw [if_neg e]
    · simp only [slices_symMergeCmpFunc_impl_Route.l3]
      rw [if_neg (by omega)]
  | succ d ih =>
    intro k c x hc hi hl hk
    obtain ⟨k, rfl⟩ : ∃ m, k = m + 1 := ⟨k - 1, by omega⟩
    obtain ⟨c, rfl⟩ : ∃ m, c = m + 1 := ⟨c - 1, by omega⟩
    have e1 := Aside0.mk (show wrap64 (((c + 1 : Nat) : Int) - 1) = (c : Int) from by rw [w64 (by omega) (by omega)]; omega)
    have r := rd_sw (x := x) (i := c + 1) (j := c) (by omega) (by omega)
    obtain ⟨y, y1, y2, y3⟩ := ih k c (sw x (c + 1) c) (by omega) (by rw [sw_len]; omega) (by rw [sw_len]; exact hl) (by omega)
    refine ⟨y, y1.trans (sw_len ..), fun t => ?_, ?_⟩
    · rw [y2 t]
      by_cases d1 : i < t ∧ t ≤ c
      · rw [if_pos d1, if_pos (by omega), r, if_neg (by omega), if_neg (by omega)]
      · rw [if_neg d1]
        by_cases d2 : t = i
        · rw [if_pos d2, if_neg (by omega), if_pos d2, r, if_pos rfl]
        · rw [if_neg d2, r t, if_neg (by omega : ¬ c = t)]
          by_cases d3 : c + 1 = t
          · rw [if_pos d3, if_pos (by omega), show t - 1 = c by omega]
          · rw [if_neg d3, if_neg (by omega), if_neg d2]
    · simp only [slices_symMergeCmpFunc_impl_Route.l3]
      rw [if_pos (by omega), e1.out, if_pos (by omega), if_pos (by omega), if_pos (by omega), if_pos (by omega)]
      exact y3
theorem merge2 {x : List S30} {a m k : Nat} (ham : a < m) (hb : m + 1 ≤ x.length) (hB : Bd x) (hS : Srt x a m) (hk : 2 * (m - a) + 6 < k) :
    ∃ y, Mix x y a (m + 1) ∧ Srt y a (m + 1) ∧ slices_symMergeCmpFunc_impl_Route.l2 k x m a m = some y := by
  obtain ⟨i, k', r1, r2, r3, r4, r5, r6⟩ := bs2 a m (by omega) hB hS (m - a) k a m (by omega) (Nat.le_refl _) (by omega) (Nat.le_refl _) (by omega) (fun t t1 t2 => by omega) (fun t t1 t2 => by omega)
  obtain ⟨y, y1, y2, y3⟩ := bub2 i (m - i) k' m x (by omega) (by omega) hB.1 (by omega)
  refine ⟨y, ⟨y1, fun t ht => ?_, fun t t1 t2 => ?_, fun t t1 t2 => ?_⟩, fun p q h1 h2 h3 => ?_, by rw [r6, y3]⟩
  · rw [y2 t, if_neg (by omega), if_neg (by omega)]
  · rw [y2 t]
    by_cases c : i < t ∧ t ≤ m
    · rw [if_pos c]; exact ⟨t - 1, by omega, by omega, rfl⟩
    · rw [if_neg c]
      by_cases c2 : t = i
      · rw [if_pos c2]; exact ⟨m, by omega, by omega, rfl⟩
      · rw [if_neg c2]; exact ⟨t, by omega, by omega, rfl⟩
  · by_cases c : t = m
    · refine ⟨i, by omega, by omega, ?_⟩
      rw [y2, if_neg (by omega), if_pos rfl, c]
    · by_cases c2 : i ≤ t
      · refine ⟨t + 1, by omega, by omega, ?_⟩
        rw [y2, if_pos (by omega), show t + 1 - 1 = t by omega]
      · refine ⟨t, by omega, by omega, ?_⟩
        rw [y2, if_neg (by omega), if_neg (by omega)]
  · have kp : Kl y p = if i < p ∧ p ≤ m then Kl x (p - 1) else if p = i then Kl x m else Kl x p := by
      unfold Kl; rw [y2 p]; split; rfl; split <;> rfl
    have kq : Kl y q = if i < q ∧ q ≤ m then Kl x (q - 1) else if q = i then Kl x m else Kl x q := by
      unfold Kl; rw [y2 q]; split; rfl; split <;> rfl
    rw [kp, kq]
    by_cases c : i < p ∧ p ≤ m
    · rw [if_pos c, if_pos (by omega)]; exact hS.le (by omega) (by omega) (by omega)
    · rw [if_neg c]
      by_cases c2 : p = i
      · rw [if_pos c2, if_pos (by omega)]; have := r5 (q - 1) (by omega) (by omega); omega
      · rw [if_neg c2]
        by_cases d : i < q ∧ q ≤ m
        · rw [if_pos d]; exact hS.le (by omega) (by omega) (by omega)
        · rw [if_neg d]
          by_cases d2 : q = i
          · rw [if_pos d2]; exact r4 p (by omega) (by omega)
          · rw [if_neg d2]; exact hS.le (by omega) (by omega) (by omega)
/-- The search in two halves at once: the last row of what is asked of start. -/
theorem bs4 {x : List S30} (a m b md nn : Nat) (hm : a < m ∧ m < b) (hb : b ≤ x.length) (hB : Bd x) (hmd : md = (a + b) / 2) (hnn : nn = md + m) (hS1 : Srt x a m) (hS2 : Srt x m b) (s0 r0 : Nat)
    (h0 : (m > md ∧ s0 = nn - b ∧ r0 = md) ∨ (m ≤ md ∧ s0 = a ∧ r0 = m)) : ∀ (N k s r : Nat), r - s ≤ N → s0 ≤ s → s ≤ r → r ≤ r0 → N + 1 < k →
    (∀ t : Nat, s0 ≤ t → t < s → Kl x t ≤ Kl x (nn - 1 - t)) → (∀ t : Nat, r ≤ t → t < r0 → Kl x (nn - 1 - t) < Kl x t) →
    ∃ s' k', k ≤ k' + N + 1 ∧ s0 ≤ s' ∧ s' ≤ r0 ∧ (∀ t : Nat, s0 ≤ t → t < s' → Kl x t ≤ Kl x (nn - 1 - t)) ∧ (∀ t : Nat, s' ≤ t → t < r0 → Kl x (nn - 1 - t) < Kl x t) ∧
      slices_symMergeCmpFunc_impl_Route.l4 k x a m b md nn s r ((nn - 1 : Nat) : Int) = slices_symMergeCmpFunc_impl_Route.j6 k' x a m b md s' ((nn - s' : Nat) : Int) (decide (s' < m ∧ m < nn - s')) := by
  have hl := hB.1
  have hlow : a ≤ s0 ∧ r0 ≤ m ∧ r0 ≤ md ∧ m ≤ nn - r0 ∧ nn - s0 ≤ b ∧ s0 ≤ r0 := by rcases h0 with ⟨q1, q2, q3⟩ | ⟨q1, q2, q3⟩ <;> omega
  have fin : ∀ (k s : Nat), s0 ≤ s → s ≤ r0 → slices_symMergeCmpFunc_impl_Route.l4 (k + 1) x a m b md nn s s ((nn - 1 : Nat) : Int) = slices_symMergeCmpFunc_impl_Route.j6 k x a m b md s ((nn - s : Nat) : Int) (decide (s < m ∧ m < nn - s)) := by
    intro k s h1 h2
    have e1 := Aside0.mk (show wrap64 ((nn : Int) - (s : Int)) = ((nn - s : Nat) : Int) from by rw [w64 (by omega) (by omega)]; omega)
    simp only [slices_symMergeCmpFunc_impl_Route.l4]
    rw [if_neg (by omega), e1.out]
    by_cases c : s < m
    · rw [if_pos (by omega)]
      congr 1
      rw [decide_eq_decide]; omega
    · rw [if_neg (by omega), decide_eq_false (by omega)]
  intro N
  induction N with
  | zero =>
    intro k s r h1 h2 h3 h4 hk p q
    obtain ⟨k, rfl⟩ : ∃ m, k = m + 1 := ⟨k - 1, by omega⟩
    obtain rfl : s = r := by omega
    exact ⟨s, k, by omega, h2, h4, p, q, fin k s h2 h4⟩
  | succ N ih =>
    intro k s r h1 h2 h3 h4 hk p q
    obtain ⟨k, rfl⟩ : ∃ m, k = m + 1 := ⟨k - 1, by omega⟩
    by_cases c : s < r
    · obtain ⟨h, hh⟩ : ∃ h, h = (s + r) / 2 := ⟨_, rfl⟩
      have k1 := hB.2 (nn - 1 - h) (by omega)
      have k2 := hB.2 h (by omega)
      have e1 := Aside0.mk (show wrap64 ((h : Int) + 1) = ((h + 1 : Nat) : Int) from by rw [w64 (by omega) (by omega)]; omega)
      have e2 := Aside0.mk (show wrap64 (((nn - 1 : Nat) : Int) - (h : Int)) = ((nn - 1 - h : Nat) : Int) from by rw [w64 (by omega) (by omega)]; omega)
      simp only [slices_symMergeCmpFunc_impl_Route.l4]
      rw [if_pos (by omega), mid_ (by omega), ← hh, e2.out, if_pos (by omega), if_pos (by omega), if_pos (by omega), if_pos (by omega), cmp_R (by unfold Kl at k1 k2; omega) (by unfold Kl at k1 k2; omega)]
      simp only [Option.bind_some]
      by_cases d : Kl x (nn - 1 - h) < Kl x h
      · rw [if_pos (by unfold Kl at d; omega)]
        obtain ⟨s', k', r1, r2, r3, r4, r5, r6⟩ := ih k s h (by omega) h2 (by omega) (by omega) (by omega) p (fun t t1 t2 => by
          have g1 := hS1.le (show a ≤ h by omega) t1 (by omega)
          have g2 := hS2.le (show m ≤ nn - 1 - t by omega) (show nn - 1 - t ≤ nn - 1 - h by omega) (by omega)
          omega)
        exact ⟨s', k', by omega, r2, r3, r4, r5, r6⟩
      · rw [if_neg (by unfold Kl at d; omega), e1.out]
        obtain ⟨s', k', r1, r2, r3, r4, r5, r6⟩ := ih k (h + 1) r (by omega) (by omega) (by omega) h4 (by omega) (fun t t1 t2 => by
          have g1 := hS1.le (show a ≤ t by omega) (show t ≤ h by omega) (by omega)
          have g2 := hS2.le (show m ≤ nn - 1 - h by omega) (show nn - 1 - h ≤ nn - 1 - t by omega) (by omega)
          omega) q
        exact ⟨s', k', by omega, r2, r3, r4, r5, r6⟩
    · obtain rfl : s = r := by omega
      exact ⟨s, k, by omega, h2, h4, p, q, fin k s h2 h4⟩
theorem Rot.same {x : List S30} {s m e : Nat} (h : s = m ∨ m = e) (h1 : s ≤ m) (h2 : m ≤ e) : Rot x x s m e := by
  refine ⟨rfl, fun t => ?_⟩
  by_cases c : s ≤ t ∧ t < s + (e - m)
  · rw [if_pos c, show t + (m - s) = t by omega]
  · rw [if_neg c]
    by_cases c2 : s + (e - m) ≤ t ∧ t < e
    · rw [if_pos c2, show t - (e - m) = t by omega]
    · rw [if_neg c2]
theorem symM : ∀ (N k a m b : Nat) (x : List S30), b - a ≤ N → a < m → m < b → b ≤ x.length → Bd x → (N + 8) * (N + 8) < k → Srt x a m → Srt x m b →
    ∃ y, Mix x y a b ∧ Srt y a b ∧ slices_symMergeCmpFunc_impl_Route.f k x a m b = some y := by
  intro N
  induction N with
  | zero => intro k a m b x h1 h2 h3; omega
  | succ N ih =>
    intro k a m b x h1 h2 h3 hb hB hk hS1 hS2
    have hl := hB.1
    have hk1 : N * N + 18 * N + 81 < k := by
      have e : (N + 1 + 8) * (N + 1 + 8) = N * N + 18 * N + 81 := by simp only [Nat.add_mul, Nat.mul_add]; omega
      omega
    have hk0 : (N + 8) * (N + 8) = N * N + 16 * N + 64 := by simp only [Nat.add_mul, Nat.mul_add]; omega
    obtain ⟨k, rfl⟩ : ∃ m, k = m + 1 := ⟨k - 1, by omega⟩
    have e1 := Aside0.mk (show wrap64 ((m : Int) - (a : Int)) = ((m - a : Nat) : Int) from by rw [w64 (by omega) (by omega)]; omega)
    have e2 := Aside0.mk (show wrap64 ((b : Int) - (m : Int)) = ((b - m : Nat) : Int) from by rw [w64 (by omega) (by omega)]; omega)
    simp only [slices_symMergeCmpFunc_impl_Route.f]
    rw [e1.out, e2.out]
    by_cases c1 : m = a + 1
    · rw [if_pos (by omega)]
      subst c1
      obtain ⟨y, y1, y2, y3⟩ := merge1 (k := k) h3 hb hB hS2 (by omega)
      exact ⟨y, y1, y2, y3⟩
    · rw [if_neg (by omega)]
      by_cases c2 : b = m + 1
      · rw [if_pos (by omega)]
        subst c2
        obtain ⟨y, y1, y2, y3⟩ := merge2 (k := k) h2 hb hB hS1 (by omega)
        exact ⟨y, y1, y2, y3⟩
      · rw [if_neg (by omega), mid_ (by omega)]
        obtain ⟨md, hmd⟩ : ∃ md, md = (a + b) / 2 := ⟨_, rfl⟩
        obtain ⟨nn, hnn⟩ : ∃ nn, nn = md + m := ⟨_, rfl⟩
        have e3 := Aside0.mk (show wrap64 ((md : Int) + (m : Int)) = (nn : Int) from by rw [w64 (by omega) (by omega)]; omega)
        have e4 := Aside0.mk (show wrap64 ((nn : Int) - 1) = ((nn - 1 : Nat) : Int) from by rw [w64 (by omega) (by omega)]; omega)
        rw [← hmd, e3.out]
        -- the search
        obtain ⟨s0, r0, h0, hsr, hgo⟩ : ∃ s0 r0 : Nat, ((m > md ∧ s0 = nn - b ∧ r0 = md) ∨ (m ≤ md ∧ s0 = a ∧ r0 = m)) ∧ s0 ≤ r0 ∧ (if (m : Int) > (md : Int) then slices_symMergeCmpFunc_impl_Route.j4 k x a m b md nn (wrap64 ((nn : Int) - (b : Int))) md else slices_symMergeCmpFunc_impl_Route.j4 k x a m b md nn a m) = slices_symMergeCmpFunc_impl_Route.j4 k x a m b md nn s0 r0 := by
          by_cases c3 : m > md
          · refine ⟨nn - b, md, .inl ⟨c3, rfl, rfl⟩, by omega, ?_⟩
            rw [if_pos (by omega), show wrap64 ((nn : Int) - (b : Int)) = ((nn - b : Nat) : Int) by rw [w64 (by omega) (by omega)]; omega]
          · refine ⟨a, m, .inr ⟨by omega, rfl, rfl⟩, by omega, ?_⟩
            rw [if_neg (by omega)]
        rw [hgo]
        obtain ⟨k, rfl⟩ : ∃ m, k = m + 1 := ⟨k - 1, by omega⟩
        simp only [slices_symMergeCmpFunc_impl_Route.j4]
        rw [e4.out]
        obtain ⟨s, k', q1, q2, q3, q4, q5, q6⟩ := bs4 a m b md nn ⟨h2, h3⟩ hb hB hmd hnn hS1 hS2 s0 r0 h0 (N + 1) k s0 r0 (by rcases h0 with ⟨g1, g2, g3⟩ | ⟨g1, g2, g3⟩ <;> omega) (Nat.le_refl _) hsr (Nat.le_refl _) (by omega) (fun t t1 t2 => by omega) (fun t t1 t2 => by omega)
        rw [q6]
        obtain ⟨e, he⟩ : ∃ e, e = nn - s := ⟨_, rfl⟩
        have hr : a ≤ s ∧ s ≤ m ∧ s ≤ md ∧ m ≤ e ∧ md ≤ e ∧ e ≤ b ∧ e - m = md - s := by rcases h0 with ⟨g1, g2, g3⟩ | ⟨g1, g2, g3⟩ <;> omega
        rw [← he]
        obtain ⟨k', rfl⟩ : ∃ m, k' = m + 4 := ⟨k' - 4, by omega⟩
        -- the two parts changed over
        obtain ⟨y, hy, hgo2⟩ : ∃ y, Rot x y s m e ∧ slices_symMergeCmpFunc_impl_Route.j6 (k' + 4) x a m b md s e (decide (s < m ∧ m < e)) = slices_symMergeCmpFunc_impl_Route.j7 (k' + 3) y a b md s e := by
          simp only [slices_symMergeCmpFunc_impl_Route.j6, decide_eq_true_eq]
          by_cases c4 : s < m ∧ m < e
          · obtain ⟨y, y1, y2⟩ := rot (k := k' + 3) c4.1 c4.2 (show e ≤ x.length by omega) hl (by omega)
            refine ⟨y, y1, ?_⟩
            rw [if_pos c4, y2]
            rfl
          · exact ⟨x, Rot.same (by omega) hr.2.1 hr.2.2.2.1, by rw [if_neg c4]⟩
        rw [hgo2]
        have hm1 : Mix x y a b := (hy.mix hr.2.1 hr.2.2.2.1).widen hr.1 hr.2.2.2.2.2.1
        have hBy := hB.mix hm1 hb
        have hyl := hm1.len
        have ky : ∀ t : Nat, Kl y t = if s ≤ t ∧ t < md then Kl x (t + (m - s)) else if md ≤ t ∧ t < e then Kl x (t - (e - m)) else Kl x t := by
          intro t
          unfold Kl
          rw [hy.2 t]
          by_cases d1 : s ≤ t ∧ t < md
          · rw [if_pos (by omega), if_pos d1]
          · rw [if_neg (by omega), if_neg d1]
            by_cases d2 : md ≤ t ∧ t < e
            · rw [if_pos (by omega), if_pos d2]
            · rw [if_neg (by omega), if_neg d2]
        have s1 : Srt y a s := fun p q g1 g2 g3 => by rw [ky, ky, if_neg (by omega), if_neg (by omega), if_neg (by omega), if_neg (by omega)]; exact hS1.le g1 (by omega) (by omega)
        have s2 : Srt y s md := fun p q g1 g2 g3 => by rw [ky, ky, if_pos (by omega), if_pos (by omega)]; exact hS2.le (by omega) (by omega) (by omega)
        have s3 : Srt y md e := fun p q g1 g2 g3 => by rw [ky, ky, if_neg (by omega), if_pos (by omega), if_neg (by omega), if_pos (by omega)]; exact hS1.le (by omega) (by omega) (by omega)
        have s4 : Srt y e b := fun p q g1 g2 g3 => by rw [ky, ky, if_neg (by omega), if_neg (by omega), if_neg (by omega), if_neg (by omega)]; exact hS2.le (by omega) (by omega) (by omega)
        have hlh : ∀ u v : Nat, a ≤ u → u < md → md ≤ v → v < b → Kl y u ≤ Kl y v := by
          intro u v u1 u2 v1 v2
          rw [ky u, ky v, if_neg (by omega : ¬ (s ≤ v ∧ v < md))]
          by_cases d1 : s ≤ u ∧ u < md
          · rw [if_pos d1]
            by_cases d2 : md ≤ v ∧ v < e
            · rw [if_pos d2]
              have g := q5 s (Nat.le_refl _) (by rcases h0 with ⟨g1, g2, g3⟩ | ⟨g1, g2, g3⟩ <;> omega)
              have g1 := hS2.le (show m ≤ u + (m - s) by omega) (show u + (m - s) ≤ nn - 1 - s by omega) (by omega)
              have g2 := hS1.le (show a ≤ s by omega) (show s ≤ v - (e - m) by omega) (by omega)
              omega
            · rw [if_neg d2]
              exact hS2.le (by omega) (by omega) (by omega)
          · rw [if_neg d1, if_neg (by omega : ¬ (md ≤ u ∧ u < e))]
            by_cases d2 : md ≤ v ∧ v < e
            · rw [if_pos d2]
              exact hS1.le (by omega) (by omega) (by omega)
            · rw [if_neg d2]
              have g := q4 (s - 1) (by rcases h0 with ⟨g1, g2, g3⟩ | ⟨g1, g2, g3⟩ <;> omega) (by omega)
              have g1 := hS1.le (show a ≤ u by omega) (show u ≤ s - 1 by omega) (by omega)
              have g2 := hS2.le (show m ≤ nn - 1 - (s - 1) by omega) (show nn - 1 - (s - 1) ≤ v by omega) (by omega)
              omega
        -- the left part
        obtain ⟨z, z1, z2, hgo3⟩ : ∃ z, Mix y z a md ∧ Srt z a md ∧ slices_symMergeCmpFunc_impl_Route.j7 (k' + 3) y a b md s e = (if (md : Int) < (e : Int) then (if (e : Int) < (b : Int) then ((slices_symMergeCmpFunc_impl_Route.f (k' + 1) z md e b).bind fun t => some t) else some z) else some z) := by
          simp only [slices_symMergeCmpFunc_impl_Route.j7]
          by_cases d1 : a < s ∧ s < md
          · obtain ⟨z, z1, z2, z3⟩ := ih (k' + 1) a s md y (by omega) d1.1 d1.2 (by omega) hBy (by omega) s1 s2
            refine ⟨z, z1, z2, ?_⟩
            rw [if_pos (by omega)]
            simp only [slices_symMergeCmpFunc_impl_Route.j8]
            rw [if_pos (decide_eq_true (by omega)), z3]
            rfl
          · refine ⟨y, Mix.refl .., ?_, ?_⟩
            · by_cases d2 : s = a
              · rw [d2] at s2; exact s2
              · have : s = md := by omega
                rw [this] at s1; exact s1
            · by_cases d2 : (a : Int) < (s : Int)
              · rw [if_pos d2]
                simp only [slices_symMergeCmpFunc_impl_Route.j8]
                rw [if_neg (by simp only [decide_eq_true_eq]; omega)]
              · rw [if_neg d2]
                simp only [slices_symMergeCmpFunc_impl_Route.j8]
                rw [if_neg (by decide)]
        rw [hgo3]
        have hBz := hBy.mix z1 (by omega)
        have hzl := z1.len
        -- the right part
        obtain ⟨w, w1, w2, hgo4⟩ : ∃ w, Mix z w md b ∧ Srt w md b ∧ (if (md : Int) < (e : Int) then (if (e : Int) < (b : Int) then ((slices_symMergeCmpFunc_impl_Route.f (k' + 1) z md e b).bind fun t => some t) else some z) else some z) = some w := by
          have t3 : Srt z md e := s3.mix z1 (by omega)
          have t4 : Srt z e b := s4.mix z1 (by omega)
          by_cases d1 : md < e ∧ e < b
          · obtain ⟨w, w1, w2, w3⟩ := ih (k' + 1) md e b z (by omega) d1.1 d1.2 (by omega) hBz (by omega) t3 t4
            exact ⟨w, w1, w2, by rw [if_pos (by omega), if_pos (by omega), w3]; rfl⟩
          · refine ⟨z, Mix.refl .., ?_, ?_⟩
            · by_cases d2 : e = b
              · rw [d2] at t3; exact t3
              · have : e = md := by omega
                rw [this] at t4; exact t4
            · by_cases d2 : (md : Int) < (e : Int)
              · rw [if_pos d2, if_neg (by omega)]
              · rw [if_neg d2]
        refine ⟨w, (hm1.trans (z1.widen (Nat.le_refl _) (by omega))).trans (w1.widen (by omega) (Nat.le_refl _)), fun p q g1 g2 g3 => ?_, hgo4⟩
        by_cases d1 : q < md
        · have : Srt w a md := z2.mix w1 (by omega)
          exact this p q g1 g2 d1
        · by_cases d2 : md ≤ p
          · exact w2 p q d2 g2 g3
          · -- one on the left, one on the right
            obtain ⟨p', p1, p2, p3⟩ := z1.fro p g1 (by omega)
            obtain ⟨q', q1', q2', q3'⟩ := w1.fro q (by omega) g3
            have g := hlh p' q' p1 p2 q1' q2'
            unfold Kl at g ⊢
            rw [w1.out p (by omega), p3, q3', z1.out q' (by omega)]
            exact g
/-- The blocks of bs that begin below e are sorted. -/
def Blk (x : List S30) (bs e : Nat) : Prop := ∀ q : Nat, q * bs < e → Srt x (q * bs) (if (q + 1) * bs ≤ x.length then (q + 1) * bs else x.length)
theorem ins_none {a k : Nat} {x : List S30} (hl : x.length ≤ 1000) (ha : a ≤ 1000) (hk : 0 < k) : slices_insertionSortCmpFunc_impl_Route.f k x a a = some x := by
  obtain ⟨k, rfl⟩ : ∃ m, k = m + 1 := ⟨k - 1, by omega⟩
  unfold slices_insertionSortCmpFunc_impl_Route.f
  rw [w64 (by omega) (by omega)]
  simp only [slices_insertionSortCmpFunc_impl_Route.l0]
  rw [if_neg (by omega)]
theorem st_ins : ∀ (N k q : Nat) (x : List S30), x.length ≤ q * 20 + N → q * 20 ≤ x.length → Bd x → N + (x.length + 1) * (x.length + 3) + 1 < k → Blk x 20 (q * 20) →
    ∃ y k', k ≤ k' + N + 1 ∧ Mix x y 0 x.length ∧ Blk y 20 x.length ∧ slices_stableCmpFunc_impl_Route.l0 k x x.length 20 ((q * 20 : Nat) : Int) ((q * 20 + 20 : Nat) : Int) = slices_stableCmpFunc_impl_Route.l1 k' y x.length 20 := by
  intro N
  induction N using Nat.strongRecOn with
  | _ N ih =>
    intro k q x hN hq hB hk hS
    obtain ⟨k, rfl⟩ : ∃ m, k = m + 1 := ⟨k - 1, by omega⟩
    have hl := hB.1
    obtain ⟨F, hF⟩ : ∃ F, Aside0 ((x.length + 1) * (x.length + 3) = F) := ⟨_, ⟨rfl⟩⟩
    rw [hF.out] at hk
    simp only [slices_stableCmpFunc_impl_Route.l0]
    by_cases c : q * 20 + 20 ≤ x.length
    · rw [if_pos (by omega)]
      have hf : Aside0 ((q * 20 + 20 + 1) * (q * 20 + 20 + 3) < k) := ⟨Nat.lt_of_le_of_lt (Nat.le_trans (Nat.mul_le_mul (by omega) (by omega)) (Nat.le_of_eq hF.out)) (by omega)⟩
      obtain ⟨y, y1, y2, y3⟩ := ins_sort (a := q * 20) (b := q * 20 + 20) (k := k) (x := x) (by omega) c hB hf.out
      have yl := y1.len
      have hN2 : N - 20 < N := by omega
      obtain ⟨z, k', z1, z2, z3, z4⟩ := ih (N - 20) hN2 k (q + 1) y (by omega) (by omega) (hB.mix y1 c) (by rw [yl, hF.out]; omega) (fun p hp => by
        rw [yl]
        by_cases d : p = q
        · subst d
          rw [if_pos (by omega), show (p + 1) * 20 = p * 20 + 20 by omega]
          exact y2
        · have g := hS p (by omega)
          rw [if_pos (by omega)] at g ⊢
          exact g.mix y1 (.inl (by omega)))
      rw [yl] at z2 z3 z4
      refine ⟨z, k', by omega, (y1.widen (Nat.zero_le _) c).trans z2, z3, ?_⟩
      rw [y3]
      simp only [Option.bind_some]
      rw [show wrap64 (((q * 20 + 20 : Nat) : Int) + 20) = (((q + 1) * 20 + 20 : Nat) : Int) by rw [w64 (by omega) (by omega)]; omega, show ((q * 20 + 20 : Nat) : Int) = (((q + 1) * 20 : Nat) : Int) by omega]
      exact z4
    · rw [if_neg (by omega)]
      by_cases d : q * 20 = x.length
      · rw [d, ins_none hl (by omega) (by omega)]
        simp only [Option.bind_some]
        exact ⟨x, k, by omega, Mix.refl .., fun p hp => hS p (by omega), rfl⟩
      · obtain ⟨y, y1, y2, y3⟩ := ins_sort (a := q * 20) (b := x.length) (k := k) (x := x) (by omega) (Nat.le_refl _) hB (by rw [hF.out]; omega)
        have yl := y1.len
        rw [y3]
        simp only [Option.bind_some]
        refine ⟨y, k, by omega, y1.widen (Nat.zero_le _) (Nat.le_refl _), fun p hp => ?_, rfl⟩
        rw [yl]
        by_cases e : p = q
        · subst e
          rw [if_neg (by omega)]
          exact y2
        · have g := hS p (by omega)
          rw [if_pos (by omega)] at g ⊢
          exact g.mix y1 (.inl (by omega))
theorem st_mrg20 : ∀ (N k q : Nat) (x : List S30), x.length ≤ q * 40 + N → q * 40 ≤ x.length → Bd x → N + (40 + 8) * (40 + 8) + 1 < k → Blk x 40 (q * 40) →
    (∀ p : Nat, q * 40 ≤ p * 20 → p * 20 < x.length → Srt x (p * 20) (if (p + 1) * 20 ≤ x.length then (p + 1) * 20 else x.length)) →
    ∃ y k', k ≤ k' + N + 1 ∧ Mix x y 0 x.length ∧ Blk y 40 x.length ∧ slices_stableCmpFunc_impl_Route.l2 k x x.length 20 ((q * 40 : Nat) : Int) ((q * 40 + 40 : Nat) : Int) = slices_stableCmpFunc_impl_Route.l1 k' y x.length 40 := by
  intro N
  induction N using Nat.strongRecOn with
  | _ N ih =>
    intro k q x hN hq hB hk hS hT
    obtain ⟨k, rfl⟩ : ∃ m, k = m + 1 := ⟨k - 1, by omega⟩
    have hl := hB.1
    have e1 := Aside0.mk (show wrap64 (((q * 40 : Nat) : Int) + 20) = ((q * 40 + 20 : Nat) : Int) from by rw [w64 (by omega) (by omega)]; omega)
    have e2 := Aside0.mk (show wrap64 ((20 : Int) * 2) = 40 from by rw [w64 (by omega) (by omega)]; omega)
    have e3 := Aside0.mk (show wrap64 (2 * (20 : Int)) = 40 from by rw [w64 (by omega) (by omega)]; omega)
    simp only [slices_stableCmpFunc_impl_Route.l2]
    rw [e1.out]
    have h1 : q * 40 + 20 ≤ x.length → Srt x (q * 40) (q * 40 + 20) := fun h => by
      have g := hT (2 * q) (by omega) (by omega)
      rw [if_pos (by omega), show 2 * q * 20 = q * 40 by omega, show (2 * q + 1) * 20 = q * 40 + 20 by omega] at g
      exact g
    by_cases c : q * 40 + 40 ≤ x.length
    · rw [if_pos (by omega)]
      have h2 : Srt x (q * 40 + 20) (q * 40 + 40) := by
        have g := hT (2 * q + 1) (by omega) (by omega)
        rw [if_pos (by omega), show (2 * q + 1) * 20 = q * 40 + 20 by omega, show (2 * q + 1 + 1) * 20 = q * 40 + 40 by omega] at g
        exact g
      obtain ⟨y, y1, y2, y3⟩ := symM 40 k (q * 40) (q * 40 + 20) (q * 40 + 40) x (by omega) (by omega) (by omega) c hB (by omega) (h1 (by omega)) h2
      have yl := y1.len
      have hN2 : N - 40 < N := by omega
      obtain ⟨z, k', z1, z2, z3, z4⟩ := ih (N - 40) hN2 k (q + 1) y (by omega) (by omega) (hB.mix y1 c) (by omega) (fun p hp => by
        rw [yl]
        by_cases d : p = q
        · subst d
          rw [if_pos (by omega), show (p + 1) * 40 = p * 40 + 40 by omega]
          exact y2
        · have g := hS p (by omega)
          rw [if_pos (by omega)] at g ⊢
          exact g.mix y1 (.inl (by omega))) (fun p hp hp2 => by
        rw [yl] at hp2 ⊢
        exact (hT p (by omega) hp2).mix y1 (.inr (by omega)))
      rw [yl] at z2 z3 z4
      refine ⟨z, k', by omega, (y1.widen (Nat.zero_le _) c).trans z2, z3, ?_⟩
      rw [y3]
      simp only [Option.bind_some]
      rw [e3.out, show wrap64 (((q * 40 + 40 : Nat) : Int) + 40) = (((q + 1) * 40 + 40 : Nat) : Int) by rw [w64 (by omega) (by omega)]; omega, show ((q * 40 + 40 : Nat) : Int) = (((q + 1) * 40 : Nat) : Int) by omega]
      exact z4
    · rw [if_neg (by omega)]
      by_cases d : q * 40 + 20 < x.length
      · rw [if_pos (by omega)]
        have h2 : Srt x (q * 40 + 20) x.length := by
          have g := hT (2 * q + 1) (by omega) (by omega)
          rw [if_neg (by omega), show (2 * q + 1) * 20 = q * 40 + 20 by omega] at g
          exact g
        obtain ⟨y, y1, y2, y3⟩ := symM 40 k (q * 40) (q * 40 + 20) x.length x (by omega) (by omega) d (Nat.le_refl _) hB (by omega) (h1 (by omega)) h2
        have yl := y1.len
        rw [y3]
        simp only [Option.bind_some]
        rw [e2.out]
        refine ⟨y, k, by omega, y1.widen (Nat.zero_le _) (Nat.le_refl _), fun p hp => ?_, rfl⟩
        rw [yl]
        by_cases e : p = q
        · subst e
          rw [if_neg (by omega)]
          exact y2
        · have g := hS p (by omega)
          rw [if_pos (by omega)] at g ⊢
          exact g.mix y1 (.inl (by omega))
      · rw [if_neg (by omega), e2.out]
        refine ⟨x, k, by omega, Mix.refl .., fun p hp => ?_, rfl⟩
        by_cases e : p < q
        · exact hS p (by omega)
        · have g := hT (2 * q) (by omega) (by omega)
          rw [show 2 * q * 20 = q * 40 by omega, show (2 * q + 1) * 20 = q * 40 + 20 by omega] at g
          have e2' : p = q := by omega
          subst e2'
          rw [if_neg (by omega)]
          intro a b g1 g2 g3
          refine g a b g1 g2 ?_
          split <;> omega
theorem st_one20 {k : Nat} {x : List S30} (hB : Bd x) (hn : x.length ≤ 160) (hk : 200 + (40 + 8) * (40 + 8) < k) (hS : Blk x 20 x.length) :
    ∃ y k', k ≤ k' + 200 ∧ Mix x y 0 x.length ∧ (Srt y 0 x.length ∧ slices_stableCmpFunc_impl_Route.l1 k x x.length 20 = some y ∨ Blk y 40 x.length ∧ slices_stableCmpFunc_impl_Route.l1 k x x.length 20 = slices_stableCmpFunc_impl_Route.l1 k' y x.length 40) := by
  obtain ⟨k, rfl⟩ : ∃ m, k = m + 1 := ⟨k - 1, by omega⟩
  by_cases c : 20 < x.length
  · obtain ⟨y, k', y1, y2, y3, y4⟩ := st_mrg20 x.length k 0 x (by omega) (by omega) hB (by omega) (fun p hp => by omega) (fun p _ hp => hS p hp)
    refine ⟨y, k', by omega, y2, .inr ⟨y3, ?_⟩⟩
    simp only [slices_stableCmpFunc_impl_Route.l1]
    rw [if_pos (by omega), show wrap64 (2 * (20 : Int)) = 40 by rw [w64 (by omega) (by omega)]; omega]
    exact y4
  · refine ⟨x, k, by omega, Mix.refl .., .inl ⟨fun p q g1 g2 g3 => ?_, ?_⟩⟩
    · have g := hS 0 (by omega)
      exact g p q (by omega) g2 (by split <;> omega)
    · simp only [slices_stableCmpFunc_impl_Route.l1]
      rw [if_neg (by omega)]
theorem st_mrg40 : ∀ (N k q : Nat) (x : List S30), x.length ≤ q * 80 + N → q * 80 ≤ x.length → Bd x → N + (80 + 8) * (80 + 8) + 1 < k → Blk x 80 (q * 80) →
    (∀ p : Nat, q * 80 ≤ p * 40 → p * 40 < x.length → Srt x (p * 40) (if (p + 1) * 40 ≤ x.length then (p + 1) * 40 else x.length)) →
    ∃ y k', k ≤ k' + N + 1 ∧ Mix x y 0 x.length ∧ Blk y 80 x.length ∧ slices_stableCmpFunc_impl_Route.l2 k x x.length 40 ((q * 80 : Nat) : Int) ((q * 80 + 80 : Nat) : Int) = slices_stableCmpFunc_impl_Route.l1 k' y x.length 80 := by
  intro N
  induction N using Nat.strongRecOn with
  | _ N ih =>
    intro k q x hN hq hB hk hS hT
    obtain ⟨k, rfl⟩ : ∃ m, k = m + 1 := ⟨k - 1, by omega⟩
    have hl := hB.1
    have e1 := Aside0.mk (show wrap64 (((q * 80 : Nat) : Int) + 40) = ((q * 80 + 40 : Nat) : Int) from by rw [w64 (by omega) (by omega)]; omega)
    have e2 := Aside0.mk (show wrap64 ((40 : Int) * 2) = 80 from by rw [w64 (by omega) (by omega)]; omega)
    have e3 := Aside0.mk (show wrap64 (2 * (40 : Int)) = 80 from by rw [w64 (by omega) (by omega)]; omega)
    simp only [slices_stableCmpFunc_impl_Route.l2]
    rw [e1.out]
    have h1 : q * 80 + 40 ≤ x.length → Srt x (q * 80) (q * 80 + 40) := fun h => by
      have g := hT (2 * q) (by omega) (by omega)
      rw [if_pos (by omega), show 2 * q * 40 = q * 80 by omega, show (2 * q + 1) * 40 = q * 80 + 40 by omega] at g
      exact g
    by_cases c : q * 80 + 80 ≤ x.length
    · rw [if_pos (by omega)]
      have h2 : Srt x (q * 80 + 40) (q * 80 + 80) := by
        have g := hT (2 * q + 1) (by omega) (by omega)
        rw [if_pos (by omega), show (2 * q + 1) * 40 = q * 80 + 40 by omega, show (2 * q + 1 + 1) * 40 = q * 80 + 80 by omega] at g
        exact g
      obtain ⟨y, y1, y2, y3⟩ := symM 80 k (q * 80) (q * 80 + 40) (q * 80 + 80) x (by omega) (by omega) (by omega) c hB (by omega) (h1 (by omega)) h2
      have yl := y1.len
      have hN2 : N - 80 < N := by omega
      obtain ⟨z, k', z1, z2, z3, z4⟩ := ih (N - 80) hN2 k (q + 1) y (by omega) (by omega) (hB.mix y1 c) (by omega) (fun p hp => by
        rw [yl]
        by_cases d : p = q
        · subst d
          rw [if_pos (by omega), show (p + 1) * 80 = p * 80 + 80 by omega]
          exact y2
        · have g := hS p (by omega)
          rw [if_pos (by omega)] at g ⊢
          exact g.mix y1 (.inl (by omega))) (fun p hp hp2 => by
        rw [yl] at hp2 ⊢
        exact (hT p (by omega) hp2).mix y1 (.inr (by omega)))
      rw [yl] at z2 z3 z4
      refine ⟨z, k', by omega, (y1.widen (Nat.zero_le _) c).trans z2, z3, ?_⟩
      rw [y3]
      simp only [Option.bind_some]
      rw [e3.out, show wrap64 (((q * 80 + 80 : Nat) : Int) + 80) = (((q + 1) * 80 + 80 : Nat) : Int) by rw [w64 (by omega) (by omega)]; omega, show ((q * 80 + 80 : Nat) : Int) = (((q + 1) * 80 : Nat) : Int) by omega]
      exact z4
    · rw [if_neg (by omega)]
      by_cases d : q * 80 + 40 < x.length
      · rw [if_pos (by omega)]
        have h2 : Srt x (q * 80 + 40) x.length := by
          have g := hT (2 * q + 1) (by omega) (by omega)
          rw [if_neg (by omega), show (2 * q + 1) * 40 = q * 80 + 40 by omega] at g
          exact g
        obtain ⟨y, y1, y2, y3⟩ := symM 80 k (q * 80) (q * 80 + 40) x.length x (by omega) (by omega) d (Nat.le_refl _) hB (by omega) (h1 (by omega)) h2
        have yl := y1.len
        rw [y3]
        simp only [Option.bind_some]
        rw [e2.out]
        refine ⟨y, k, by omega, y1.widen (Nat.zero_le _) (Nat.le_refl _), fun p hp => ?_, rfl⟩
        rw [yl]
        by_cases e : p = q
        · subst e
          rw [if_neg (by omega)]
          exact y2
        · have g := hS p (by omega)
          rw [if_pos (by omega)] at g ⊢
          exact g.mix y1 (.inl (by omega))
      · rw [if_neg (by omega), e2.out]
        refine ⟨x, k, by omega, Mix.refl .., fun p hp => ?_, rfl⟩
        by_cases e : p < q
        · exact hS p (by omega)
        · have g := hT (2 * q) (by omega) (by omega)
          rw [show 2 * q * 40 = q * 80 by omega, show (2 * q + 1) * 40 = q * 80 + 40 by omega] at g
          have e2' : p = q := by omega
          subst e2'
          rw [if_neg (by omega)]
          intro a b g1 g2 g3
          refine g a b g1 g2 ?_
          split <;> omega
theorem st_one40 {k : Nat} {x : List S30} (hB : Bd x) (hn : x.length ≤ 160) (hk : 200 + (80 + 8) * (80 + 8) < k) (hS : Blk x 40 x.length) :
    ∃ y k', k ≤ k' + 200 ∧ Mix x y 0 x.length ∧ (Srt y 0 x.length ∧ slices_stableCmpFunc_impl_Route.l1 k x x.length 40 = some y ∨ Blk y 80 x.length ∧ slices_stableCmpFunc_impl_Route.l1 k x x.length 40 = slices_stableCmpFunc_impl_Route.l1 k' y x.length 80) := by
  obtain ⟨k, rfl⟩ : ∃ m, k = m + 1 := ⟨k - 1, by omega⟩
  by_cases c : 40 < x.length
  · obtain ⟨y, k', y1, y2, y3, y4⟩ := st_mrg40 x.length k 0 x (by omega) (by omega) hB (by omega) (fun p hp => by omega) (fun p _ hp => hS p hp)
    refine ⟨y, k', by omega, y2, .inr ⟨y3, ?_⟩⟩
    simp only [slices_stableCmpFunc_impl_Route.l1]
    rw [if_pos (by omega), show wrap64 (2 * (40 : Int)) = 80 by rw [w64 (by omega) (by omega)]; omega]
    exact y4
  · refine ⟨x, k, by omega, Mix.refl .., .inl ⟨fun p q g1 g2 g3 => ?_, ?_⟩⟩
    · have g := hS 0 (by omega)
      exact g p q (by omega) g2 (by split <;> omega)
    · simp only [slices_stableCmpFunc_impl_Route.l1]
      rw [if_neg (by omega)]
theorem st_mrg80 : ∀ (N k q : Nat) (x : List S30), x.length ≤ q * 160 + N → q * 160 ≤ x.length → Bd x → N + (160 + 8) * (160 + 8) + 1 < k → Blk x 160 (q * 160) →
    (∀ p : Nat, q * 160 ≤ p * 80 → p * 80 < x.length → Srt x (p * 80) (if (p + 1) * 80 ≤ x.length then (p + 1) * 80 else x.length)) →
    ∃ y k', k ≤ k' + N + 1 ∧ Mix x y 0 x.length ∧ Blk y 160 x.length ∧ slices_stableCmpFunc_impl_Route.l2 k x x.length 80 ((q * 160 : Nat) : Int) ((q * 160 + 160 : Nat) : Int) = slices_stableCmpFunc_impl_Route.l1 k' y x.length 160 := by
  intro N
  induction N using Nat.strongRecOn with
  | _ N ih =>
    intro k q x hN hq hB hk hS hT
    obtain ⟨k, rfl⟩ : ∃ m, k = m + 1 := ⟨k - 1, by omega⟩
    have hl := hB.1
    have e1 := Aside0.mk (show wrap64 (((q * 160 : Nat) : Int) + 80) = ((q * 160 + 80 : Nat) : Int) from by rw [w64 (by omega) (by omega)]; omega)
    have e2 := Aside0.mk (show wrap64 ((80 : Int) * 2) = 160 from by rw [w64 (by omega) (by omega)]; omega)
    have e3 := Aside0.mk (show wrap64 (2 * (80 : Int)) = 160 from by rw [w64 (by omega) (by omega)]; omega)
    simp only [slices_stableCmpFunc_impl_Route.l2]
    rw [e1.out]
    have h1 : q * 160 + 80 ≤ x.length → Srt x (q * 160) (q * 160 + 80) := fun h => by
      have g := hT (2 * q) (by omega) (by omega)
      rw [if_pos (by omega), show 2 * q * 80 = q * 160 by omega, show (2 * q + 1) * 80 = q * 160 + 80 by omega] at g
      exact g
    by_cases c : q * 160 + 160 ≤ x.length
    · rw [if_pos (by omega)]
      have h2 : Srt x (q * 160 + 80) (q * 160 + 160) := by
        have g := hT (2 * q + 1) (by omega) (by omega)
        rw [if_pos (by omega), show (2 * q + 1) * 80 = q * 160 + 80 by omega, show (2 * q + 1 + 1) * 80 = q * 160 + 160 by omega] at g
        exact g
      obtain ⟨y, y1, y2, y3⟩ := symM 160 k (q * 160) (q * 160 + 80) (q * 160 + 160) x (by omega) (by omega) (by omega) c hB (by omega) (h1 (by omega)) h2
      have yl := y1.len
      have hN2 : N - 160 < N := by omega
      obtain ⟨z, k', z1, z2, z3, z4⟩ := ih (N - 160) hN2 k (q + 1) y (by omega) (by omega) (hB.mix y1 c) (by omega) (fun p hp => by
        rw [yl]
        by_cases d : p = q
        · subst d
          rw [if_pos (by omega), show (p + 1) * 160 = p * 160 + 160 by omega]
          exact y2
        · have g := hS p (by omega)
          rw [if_pos (by omega)] at g ⊢
          exact g.mix y1 (.inl (by omega))) (fun p hp hp2 => by
        rw [yl] at hp2 ⊢
        exact (hT p (by omega) hp2).mix y1 (.inr (by omega)))
      rw [yl] at z2 z3 z4
      refine ⟨z, k', by omega, (y1.widen (Nat.zero_le _) c).trans z2, z3, ?_⟩
      rw [y3]
      simp only [Option.bind_some]
      rw [e3.out, show wrap64 (((q * 160 + 160 : Nat) : Int) + 160) = (((q + 1) * 160 + 160 : Nat) : Int) by rw [w64 (by omega) (by omega)]; omega, show ((q * 160 + 160 : Nat) : Int) = (((q + 1) * 160 : Nat) : Int) by omega]
      exact z4
    · rw [if_neg (by omega)]
      by_cases d : q * 160 + 80 < x.length
      · rw [if_pos (by omega)]
        have h2 : Srt x (q * 160 + 80) x.length := by
          have g := hT (2 * q + 1) (by omega) (by omega)
          rw [if_neg (by omega), show (2 * q + 1) * 80 = q * 160 + 80 by omega] at g
          exact g
        obtain ⟨y, y1, y2, y3⟩ := symM 160 k (q * 160) (q * 160 + 80) x.length x (by omega) (by omega) d (Nat.le_refl _) hB (by omega) (h1 (by omega)) h2
        have yl := y1.len
        rw [y3]
        simp only [Option.bind_some]
        rw [e2.out]
        refine ⟨y, k, by omega, y1.widen (Nat.zero_le _) (Nat.le_refl _), fun p hp => ?_, rfl⟩
        rw [yl]
        by_cases e : p = q
        · subst e
          rw [if_neg (by omega)]
          exact y2
        · have g := hS p (by omega)
          rw [if_pos (by omega)] at g ⊢
          exact g.mix y1 (.inl (by omega))
      · rw [if_neg (by omega), e2.out]
        refine ⟨x, k, by omega, Mix.refl .., fun p hp => ?_, rfl⟩
        by_cases e : p < q
        · exact hS p (by omega)
        · have g := hT (2 * q) (by omega) (by omega)
          rw [show 2 * q * 80 = q * 160 by omega, show (2 * q + 1) * 80 = q * 160 + 80 by omega] at g
          have e2' : p = q := by omega
          subst e2'
          rw [if_neg (by omega)]
          intro a b g1 g2 g3
          refine g a b g1 g2 ?_
          split <;> omega
theorem st_one80 {k : Nat} {x : List S30} (hB : Bd x) (hn : x.length ≤ 160) (hk : 200 + (160 + 8) * (160 + 8) < k) (hS : Blk x 80 x.length) :
    ∃ y k', k ≤ k' + 200 ∧ Mix x y 0 x.length ∧ (Srt y 0 x.length ∧ slices_stableCmpFunc_impl_Route.l1 k x x.length 80 = some y ∨ Blk y 160 x.length ∧ slices_stableCmpFunc_impl_Route.l1 k x x.length 80 = slices_stableCmpFunc_impl_Route.l1 k' y x.length 160) := by
  obtain ⟨k, rfl⟩ : ∃ m, k = m + 1 := ⟨k - 1, by omega⟩
  by_cases c : 80 < x.length
  · obtain ⟨y, k', y1, y2, y3, y4⟩ := st_mrg80 x.length k 0 x (by omega) (by omega) hB (by omega) (fun p hp => by omega) (fun p _ hp => hS p hp)
    refine ⟨y, k', by omega, y2, .inr ⟨y3, ?_⟩⟩
    simp only [slices_stableCmpFunc_impl_Route.l1]
    rw [if_pos (by omega), show wrap64 (2 * (80 : Int)) = 160 by rw [w64 (by omega) (by omega)]; omega]
    exact y4
  · refine ⟨x, k, by omega, Mix.refl .., .inl ⟨fun p q g1 g2 g3 => ?_, ?_⟩⟩
    · have g := hS 0 (by omega)
      exact g p q (by omega) g2 (by split <;> omega)
    · simp only [slices_stableCmpFunc_impl_Route.l1]
      rw [if_neg (by omega)]
theorem stable_sort {x : List S30} (hn : x.length ≤ 120) (hB : Bd x) {k : Nat} (hk : 60000 < k) : ∃ y, Mix x y 0 x.length ∧ Srt y 0 x.length ∧ slices_SortStableFunc_impl_Route_impl_Route.f k x = some y := by
  have hf : (x.length + 1) * (x.length + 3) ≤ 121 * 123 := Nat.mul_le_mul (by omega) (by omega)
  obtain ⟨y, k1, y1, y2, y3, y4⟩ := st_ins x.length k 0 x (by omega) (by omega) hB (by omega) (fun p hp => by omega)
  have hBy := hB.mix y2 (Nat.le_refl _)
  have yl := y2.len
  have go : ∀ r, slices_stableCmpFunc_impl_Route.l1 k1 y y.length 20 = some r → slices_SortStableFunc_impl_Route_impl_Route.f k x = some r := by
    intro r hr
    unfold slices_SortStableFunc_impl_Route_impl_Route.f slices_stableCmpFunc_impl_Route.f
    rw [yl] at hr
    have y4' : slices_stableCmpFunc_impl_Route.l0 k x x.length 20 0 20 = slices_stableCmpFunc_impl_Route.l1 k1 y x.length 20 := y4
    rw [y4', hr]
    rfl
  rw [← yl] at y3
  obtain ⟨z, k2, z1, z2, z3⟩ := st_one20 hBy (by omega) (k := k1) (by omega) y3
  have zl := z2.len
  have m2 : Mix x z 0 x.length := y2.trans (by rw [yl] at z2; exact z2)
  rcases z3 with ⟨z3, z4⟩ | ⟨z3, z4⟩
  · exact ⟨z, m2, by rw [yl] at z3; exact z3, go z z4⟩
  · have hBz := hBy.mix z2 (Nat.le_refl _)
    rw [← zl] at z3
    obtain ⟨w, k3, w1, w2, w3⟩ := st_one40 hBz (by omega) (k := k2) (by omega) z3
    have wl := w2.len
    have m3 : Mix x w 0 x.length := m2.trans (by rw [zl, yl] at w2; exact w2)
    rcases w3 with ⟨w3, w4⟩ | ⟨w3, w4⟩
    · exact ⟨w, m3, by rw [zl, yl] at w3; exact w3, go w (by rw [z4, ← zl]; exact w4)⟩
    · have hBw := hBz.mix w2 (Nat.le_refl _)
      rw [← wl] at w3
      obtain ⟨v, k4, v1, v2, v3⟩ := st_one80 hBw (by omega) (k := k3) (by omega) w3
      have m4 : Mix x v 0 x.length := m3.trans (by rw [wl, zl, yl] at v2; exact v2)
      rcases v3 with ⟨v3, v4⟩ | ⟨v3, v4⟩
      · exact ⟨v, m4, by rw [wl, zl, yl] at v3; exact v3, go v (by rw [z4, ← zl, w4, ← wl]; exact v4)⟩
      · have v5 : Srt v 0 x.length := by
          have g := v3 0
          intro p q g1 g2 g3
          have vl := v2.len
          exact g (by omega) p q (by omega) g2 (by split <;> omega)
        refine ⟨v, m4, v5, go v ?_⟩
        obtain ⟨k4, rfl⟩ : ∃ m, k4 = m + 1 := ⟨k4 - 1, by omega⟩
        rw [z4, ← zl, w4, ← wl, v4]
        simp only [slices_stableCmpFunc_impl_Route.l1]
        rw [if_neg (by omega)]
theorem rdI_set {o : List Int} {i j : Nat} (v : Int) (hi : i < o.length) : rd (o.set i v) j = if i = j then v else rd o j := by
  unfold rd
  rw [Int.toNat_natCast, List.getD_eq_getElem?_getD, List.getD_eq_getElem?_getD, List.getElem?_set]
  by_cases c : i = j
  · subst c; simp [hi]
  · simp [c]
/-- The route at a place contains an address. -/
def Cv (x : List S30) (j : Nat) (a : Nat) : Prop := (rd_T30 x j).f0.f0 ≤ (a : Int) ∧ (a : Int) < (rd_T30 x j).f0.f0 + psz (rd_T30 x j).f0.f1
/-- The hop of the longest route among those of S that contain an address; -1 for none. -/
def Is (x : List S30) (S : Nat → Prop) (a : Nat) (v : Int) : Prop :=
  (∃ j, S j ∧ Cv x j a ∧ v = (rd_T30 x j).f1 ∧ ∀ i, S i → Cv x i a → Kl x i ≤ Kl x j) ∨ (v = -1 ∧ ∀ i, S i → ¬ Cv x i a)
theorem Is.iff {x : List S30} {S T : Nat → Prop} {a : Nat} {v : Int} (h : Is x S a v) (e : ∀ j, S j ↔ T j) : Is x T a v := by
  rcases h with ⟨j, h1, h2, h3, h4⟩ | ⟨h1, h2⟩
  · exact .inl ⟨j, (e j).1 h1, h2, h3, fun i hi hc => h4 i ((e i).2 hi) hc⟩
  · exact .inr ⟨h1, fun i hi => h2 i ((e i).2 hi)⟩
/-- One more route, no shorter than those so far: it is painted over. -/
theorem Is.next {x : List S30} {S : Nat → Prop} {a j : Nat} {v : Int} (h : Is x S a v) (hj : ∀ i, S i → Kl x i ≤ Kl x j) (w : Int) (hw : (Cv x j a ∧ w = (rd_T30 x j).f1) ∨ (¬ Cv x j a ∧ w = v)) : Is x (fun i => S i ∨ i = j) a w := by
  rcases hw with ⟨c, rfl⟩ | ⟨c, rfl⟩
  · exact .inl ⟨j, .inr rfl, c, rfl, fun i hi _ => hi.elim (hj i) (fun e => by rw [e]; exact Int.le_refl _)⟩
  · rcases h with ⟨q, h1, h2, h3, h4⟩ | ⟨h1, h2⟩
    · exact .inl ⟨q, .inl h1, h2, h3, fun i hi hc => hi.elim (fun g => h4 i g hc) (fun e => absurd (e ▸ hc) c)⟩
    · exact .inr ⟨h1, fun i hi hc => hi.elim (fun g => h2 i g hc) (fun e => c (e ▸ hc))⟩
def Okr (x : List S30) : Prop := x.length ≤ 120 ∧ ∀ j : Nat, j < x.length → Pok (rd_T30 x j).f0.f0 (rd_T30 x j).f0.f1
theorem paint1 {y : List S30} (hy : Okr y) (i : Nat) (hi : i < y.length) : ∀ (d k c : Nat) (o : List Int), ((c + d : Nat) : Int) = (rd_T30 y i).f0.f0 + psz (rd_T30 y i).f0.f1 → o.length = 65536 → d < k →
    ∃ o' k', k ≤ k' + d + 1 ∧ o'.length = 65536 ∧ (∀ t : Nat, rd o' t = if c ≤ t ∧ t < c + d then (rd_T30 y i).f1 else rd o t) ∧
      impl_hopsOf.l1 k o c y y.length i (rd_T30 y i).f0.f0 (rd_T30 y i).f0.f1 (rd_T30 y i).f1 = impl_hopsOf.l0 k' o' y y.length ((i + 1 : Nat) : Int) := by
  have P := hy.2 i hi
  have hl := hy.1
  have top := P.top
  have pp := psz_pos (rd_T30 y i).f0.f1
  have P2 := P
  unfold Pok at P2
  intro d
  induction d with
  | zero =>
    intro k c o hc ho hk
    obtain ⟨k, rfl⟩ : ∃ m, k = m + 1 := ⟨k - 1, by omega⟩
    refine ⟨o, k, by omega, ho, fun t => by rw [if_neg (by omega)], ?_⟩
    simp only [impl_hopsOf.l1]
    rw [impl_Size _ P2.1 P2.2.1]
    simp only [Option.bind_some]
    rw [w64 (n := (rd_T30 y i).f0.f0 + psz (rd_T30 y i).f0.f1) (by omega) (by omega), if_neg (by omega), w64 (by omega) (by omega)]
    rfl
  | succ d ih =>
    intro k c o hc ho hk
    obtain ⟨k, rfl⟩ : ∃ m, k = m + 1 := ⟨k - 1, by omega⟩
    obtain ⟨o', k', h1, h2, h3, h4⟩ := ih k (c + 1) (o.set c (rd_T30 y i).f1) (by omega) (by rw [List.length_set]; exact ho) (by omega)
    refine ⟨o', k', by omega, h2, fun t => ?_, ?_⟩
    · rw [h3 t, rdI_set _ (by omega)]
      by_cases e : c + 1 ≤ t ∧ t < c + 1 + d
      · rw [if_pos e, if_pos (by omega)]
      · rw [if_neg e]
        by_cases e2 : c = t
        · rw [if_pos e2, if_pos (by omega)]
        · rw [if_neg e2, if_neg (by omega)]
    · simp only [impl_hopsOf.l1]
      rw [impl_Size _ P2.1 P2.2.1]
      simp only [Option.bind_some]
      rw [w64 (n := (rd_T30 y i).f0.f0 + psz (rd_T30 y i).f0.f1) (by omega) (by omega), if_pos (by omega), if_pos (by omega), if_pos (by omega), show wrap64 ((c : Int) + 1) = ((c + 1 : Nat) : Int) by rw [w64 (by omega) (by omega)]; omega, Int.toNat_natCast]
      exact h4
theorem paintI {y : List S30} (hy : Okr y) (hS : Srt y 0 y.length) (C : Nat) (hC : 65540 ≤ C) : ∀ (d k i : Nat) (o : List Int), i + d = y.length → o.length = 65536 → d * C < k → (∀ a : Nat, a < 65536 → Is y (fun j => j < i) a (rd o a)) →
    ∃ o', o'.length = 65536 ∧ (∀ a : Nat, a < 65536 → Is y (fun j => j < y.length) a (rd o' a)) ∧ impl_hopsOf.l0 k o y y.length i = some o' := by
  intro d
  induction d with
  | zero =>
    intro k i o hi ho hk h
    obtain ⟨k, rfl⟩ : ∃ m, k = m + 1 := ⟨k - 1, by omega⟩
    obtain rfl : i = y.length := by omega
    simp only [impl_hopsOf.l0]
    rw [if_neg (by omega)]
    exact ⟨o, ho, h, rfl⟩
  | succ d ih =>
    intro k i o hi ho hk h
    rw [Nat.succ_mul] at hk
    obtain ⟨k, rfl⟩ : ∃ m, k = m + 1 := ⟨k - 1, by omega⟩
    have hiy : i < y.length := by omega
    have P := hy.2 i hiy
    have top := P.top
    have pp := psz_pos (rd_T30 y i).f0.f1
    have P2 := P
    unfold Pok at P2
    obtain ⟨c, hc⟩ : ∃ c : Nat, (c : Int) = (rd_T30 y i).f0.f0 := ⟨(rd_T30 y i).f0.f0.toNat, by omega⟩
    obtain ⟨s, hs⟩ : ∃ s : Nat, (s : Int) = psz (rd_T30 y i).f0.f1 := ⟨(psz (rd_T30 y i).f0.f1).toNat, by omega⟩
    obtain ⟨o', k', h1, h2, h3, h4⟩ := paint1 hy i hiy s k c o (by omega) ho (by omega)
    obtain ⟨z, z1, z2, z3⟩ := ih k' (i + 1) o' (by omega) h2 (by omega) (fun a ha => by
      have g := (h a ha).next (j := i) (fun q hq => hS q i (Nat.zero_le _) hq hiy) (rd o' a) (by
        rw [h3 a]
        by_cases e : c ≤ a ∧ a < c + s
        · rw [if_pos e]; exact .inl ⟨⟨by omega, by omega⟩, rfl⟩
        · rw [if_neg e]; exact .inr ⟨fun g => e ⟨by have := g.1; omega, by have := g.2; omega⟩, rfl⟩)
      exact g.iff (fun j => by omega))
    refine ⟨z, z1, z2, ?_⟩
    simp only [impl_hopsOf.l0]
    rw [if_pos (by omega), if_pos (by omega), if_pos (by omega), ← hc]
    rw [← hc] at h4
    rw [h4]
    exact z3
theorem spInit {x : List S30} : ∀ (d k i : Nat) (o : List Int), i + d = 65536 → o.length = 65536 → d < k → (∀ t : Nat, t < i → rd o t = -1) →
    ∃ o' k', k ≤ k' + d + 1 ∧ o'.length = 65536 ∧ (∀ t : Nat, t < 65536 → rd o' t = -1) ∧ spec_l02Paint.l0 k o i x = spec_l02Paint.l1 k' o' 0 x := by
  intro d
  induction d with
  | zero =>
    intro k i o hi ho hk h
    obtain ⟨k, rfl⟩ : ∃ m, k = m + 1 := ⟨k - 1, by omega⟩
    refine ⟨o, k, by omega, ho, fun t ht => h t (by omega), ?_⟩
    simp only [spec_l02Paint.l0]
    rw [if_neg (by omega)]
  | succ d ih =>
    intro k i o hi ho hk h
    obtain ⟨k, rfl⟩ : ∃ m, k = m + 1 := ⟨k - 1, by omega⟩
    obtain ⟨o', k', h1, h2, h3, h4⟩ := ih k (i + 1) (o.set i (-1)) (by omega) (by rw [List.length_set]; exact ho) (by omega) (fun t ht => by
      rw [rdI_set _ (by omega)]
      by_cases c : i = t
      · rw [if_pos c]
      · rw [if_neg c]; exact h t (by omega))
    refine ⟨o', k', by omega, h2, h3, ?_⟩
    simp only [spec_l02Paint.l0]
    rw [if_pos (by omega), if_pos (by omega), if_pos (by omega), show wrap64 ((i : Int) + 1) = ((i + 1 : Nat) : Int) by rw [w64 (by omega) (by omega)]; omega, Int.toNat_natCast]
    exact h4
theorem paint3 {x : List S30} (hx : Okr x) (t i : Nat) (hi : i < x.length) (ht : Kl x i = t) : ∀ (d k c : Nat) (o : List Int), ((c + d : Nat) : Int) = psz t → o.length = 65536 → d < k →
    ∃ o' k', k ≤ k' + d + 1 ∧ o'.length = 65536 ∧ (∀ a : Nat, rd o' a = if (rd_T30 x i).f0.f0 + c ≤ a ∧ (a : Int) < (rd_T30 x i).f0.f0 + psz t then (rd_T30 x i).f1 else rd o a) ∧
      spec_l02Paint.l3 k o t i c x (rd_T30 x i).f0.f0 (rd_T30 x i).f0.f1 = spec_l02Paint.l2 k' o' t ((i + 1 : Nat) : Int) x := by
  have P := hx.2 i hi
  have hl := hx.1
  have top := P.top
  have P2 := P
  unfold Pok at P2
  have e0 : (rd_T30 x i).f0.f1 = (t : Int) := ht
  rw [e0] at top P2
  have pp := psz_pos (t : Int)
  intro d
  induction d with
  | zero =>
    intro k c o hc ho hk
    obtain ⟨k, rfl⟩ : ∃ m, k = m + 1 := ⟨k - 1, by omega⟩
    refine ⟨o, k, by omega, ho, fun a => by rw [if_neg (by omega)], ?_⟩
    simp only [spec_l02Paint.l3]
    rw [spec_Size P2.1 P2.2.1]
    simp only [Option.bind_some]
    rw [if_neg (by omega), w64 (by omega) (by omega)]
    rfl
  | succ d ih =>
    intro k c o hc ho hk
    obtain ⟨k, rfl⟩ : ∃ m, k = m + 1 := ⟨k - 1, by omega⟩
    obtain ⟨b, hb⟩ : ∃ b : Nat, (b : Int) = (rd_T30 x i).f0.f0 + c := ⟨((rd_T30 x i).f0.f0 + c).toNat, by omega⟩
    obtain ⟨o', k', h1, h2, h3, h4⟩ := ih k (c + 1) (o.set b (rd_T30 x i).f1) (by omega) (by rw [List.length_set]; exact ho) (by omega)
    refine ⟨o', k', by omega, h2, fun a => ?_, ?_⟩
    · rw [h3 a, rdI_set _ (by omega)]
      by_cases e : (rd_T30 x i).f0.f0 + ((c + 1 : Nat) : Int) ≤ a ∧ (a : Int) < (rd_T30 x i).f0.f0 + psz t
      · rw [if_pos e, if_pos (by omega)]
      · rw [if_neg e]
        by_cases e2 : b = a
        · rw [if_pos e2, if_pos (by omega)]
        · rw [if_neg e2, if_neg (by omega)]
    · simp only [spec_l02Paint.l3]
      rw [spec_Size P2.1 P2.2.1]
      simp only [Option.bind_some]
      rw [if_pos (by omega), if_pos (by omega), if_pos (by omega), show wrap64 ((rd_T30 x i).f0.f0 + (c : Int)) = (b : Int) by rw [w64 (by omega) (by omega)]; omega, if_pos (by omega), if_pos (by omega), show wrap64 ((c : Int) + 1) = ((c + 1 : Nat) : Int) by rw [w64 (by omega) (by omega)]; omega, Int.toNat_natCast]
      exact h4
/-- What has been painted before length t, place i. -/
def Pd (x : List S30) (t i : Nat) (j : Nat) : Prop := j < x.length ∧ (Kl x j < t ∨ Kl x j = t ∧ j < i)
theorem paintS {x : List S30} (hx : Okr x) (t : Nat) (ht : t ≤ 16) (C : Nat) (hC : 65540 ≤ C) : ∀ (d k i : Nat) (o : List Int), i + d = x.length → o.length = 65536 → d * C + 1 < k → (∀ a : Nat, a < 65536 → Is x (Pd x t i) a (rd o a)) →
    ∃ o' k', k ≤ k' + (d * C + 1) ∧ o'.length = 65536 ∧ (∀ a : Nat, a < 65536 → Is x (Pd x (t + 1) 0) a (rd o' a)) ∧ spec_l02Paint.l2 k o t i x = spec_l02Paint.l1 k' o' ((t + 1 : Nat) : Int) x := by
  have hl := hx.1
  intro d
  induction d with
  | zero =>
    intro k i o hi ho hk h
    obtain ⟨k, rfl⟩ : ∃ m, k = m + 1 := ⟨k - 1, by omega⟩
    refine ⟨o, k, by omega, ho, fun a ha => (h a ha).iff (fun j => by unfold Pd; omega), ?_⟩
    simp only [spec_l02Paint.l2]
    rw [if_neg (by omega), w64 (by omega) (by omega)]
    rfl
  | succ d ih =>
    intro k i o hi ho hk h
    rw [Nat.succ_mul] at hk
    obtain ⟨k, rfl⟩ : ∃ m, k = m + 1 := ⟨k - 1, by omega⟩
    have hix : i < x.length := by omega
    have P := hx.2 i hix
    have P2 := P
    unfold Pok at P2
    simp only [spec_l02Paint.l2]
    rw [if_pos (by omega), if_pos (by omega)]
    by_cases c : Kl x i = t
    · have c' : (rd_T30 x i).f0.f1 = (t : Int) := c
      rw [if_pos c']
      have pp := psz_pos (t : Int)
      have pl := psz_le (l := (t : Int)) (by omega) (by omega)
      obtain ⟨s, hs⟩ : ∃ s : Nat, (s : Int) = psz (t : Int) := ⟨(psz (t : Int)).toNat, by omega⟩
      obtain ⟨o', k', h1, h2, h3, h4⟩ := paint3 hx t i hix c s k 0 o (by omega) ho (by omega)
      obtain ⟨z, k2, z1, z2, z3, z4⟩ := ih k' (i + 1) o' (by omega) h2 (by omega) (fun a ha => by
        have g := (h a ha).next (j := i) (fun q hq => by rw [c]; unfold Pd at hq; omega) (rd o' a) (by
          rw [h3 a]
          by_cases e : (rd_T30 x i).f0.f0 + ((0 : Nat) : Int) ≤ a ∧ (a : Int) < (rd_T30 x i).f0.f0 + psz t
          · rw [if_pos e]; exact .inl ⟨⟨by omega, by rw [c']; omega⟩, rfl⟩
          · rw [if_neg e]; exact .inr ⟨fun g => e ⟨by have := g.1; omega, by have := g.2; rw [c'] at this; omega⟩, rfl⟩)
        exact g.iff (fun j => by
          unfold Pd
          constructor
          · rintro (q | rfl)
            · omega
            · omega
          · intro q
            by_cases e : j = i
            · exact .inr e
            · exact .inl (by omega)))
      exact ⟨z, k2, by rw [Nat.succ_mul]; omega, z2, z3, h4.trans z4⟩
    · have c' : ¬ (rd_T30 x i).f0.f1 = (t : Int) := c
      rw [if_neg c', show wrap64 ((i : Int) + 1) = ((i + 1 : Nat) : Int) by rw [w64 (by omega) (by omega)]; omega]
      obtain ⟨z, k2, z1, z2, z3, z4⟩ := ih k (i + 1) o (by omega) ho (by omega) (fun a ha => (h a ha).iff (fun j => by
        unfold Pd
        constructor
        · intro q; omega
        · intro q
          by_cases e : j = i
          · subst e; omega
          · omega))
      exact ⟨z, k2, by rw [Nat.succ_mul]; omega, z2, z3, z4⟩
theorem paintL {x : List S30} (hx : Okr x) (C D : Nat) (hC : 65540 ≤ C) (hD : 120 * C + 8 ≤ D) : ∀ (d k t : Nat) (o : List Int), t + d = 17 → o.length = 65536 → d * D + 1 < k → (∀ a : Nat, a < 65536 → Is x (Pd x t 0) a (rd o a)) →
    ∃ o', o'.length = 65536 ∧ (∀ a : Nat, a < 65536 → Is x (fun j => j < x.length) a (rd o' a)) ∧ spec_l02Paint.l1 k o t x = some o' := by
  have hl := hx.1
  intro d
  induction d with
  | zero =>
    intro k t o ht ho hk h
    obtain ⟨k, rfl⟩ : ∃ m, k = m + 1 := ⟨k - 1, by omega⟩
    refine ⟨o, ho, fun a ha => (h a ha).iff (fun j => ?_), ?_⟩
    · unfold Pd
      constructor
      · intro q; exact q.1
      · intro q
        have P := hx.2 j q
        unfold Pok at P
        refine ⟨q, .inl ?_⟩
        unfold Kl
        omega
    · simp only [spec_l02Paint.l1]
      rw [if_neg (by omega)]
  | succ d ih =>
    intro k t o ht ho hk h
    rw [Nat.succ_mul] at hk
    have hx2 : x.length * C ≤ 120 * C := Nat.mul_le_mul_right C hl
    obtain ⟨k, rfl⟩ : ∃ m, k = m + 1 := ⟨k - 1, by omega⟩
    obtain ⟨z, k2, z1, z2, z3, z4⟩ := paintS hx t (by omega) C hC x.length k 0 o (by omega) ho (by omega) h
    obtain ⟨w, w1, w2, w3⟩ := ih k2 (t + 1) z (by omega) z2 (by omega) z3
    refine ⟨w, w1, w2, ?_⟩
    simp only [spec_l02Paint.l1]
    rw [if_pos (by omega)]
    rw [← w3, ← z4]
    rfl
theorem rd_ext {a b : List Int} : (a.length = b.length ∧ ∀ j : Nat, j < a.length → rd a j = rd b j) ↔ a = b := by
  constructor
  · rintro ⟨h1, h2⟩
    refine List.ext_getElem h1 (fun j h3 h4 => ?_)
    have z := h2 j h3
    unfold rd at z
    rw [Int.toNat_natCast, List.getD_eq_getElem?_getD, List.getD_eq_getElem?_getD, List.getElem?_eq_getElem h3, List.getElem?_eq_getElem h4] at z
    exact z
  · rintro rfl
    exact ⟨rfl, fun _ _ => rfl⟩
theorem Tok.okr {t : List S30} (h : Tok t) : Okr t := ⟨h.2, fun j hj => (h.1 j hj).1⟩
theorem Tok.bd {t : List S30} (h : Tok t) : Bd t := ⟨by have := h.2; omega, fun j hj => by
  have P := (h.1 j hj).1
  unfold Pok at P
  unfold Kl
  omega⟩
theorem Tok.ahead {t : List S30} (h : Tok t) : ∀ (d i : Nat), i + d + 1 < t.length → Ahead (rd_T30 t i).f0.f0 (rd_T30 t i).f0.f1 (rd_T30 t ((i + d + 1 : Nat) : Int)).f0.f0 (rd_T30 t ((i + d + 1 : Nat) : Int)).f0.f1 := by
  intro d
  induction d with
  | zero =>
    intro i hi
    have g := (h.1 (i + 0 + 1) hi).2.2 (by omega)
    rw [show ((i + 0 + 1 : Nat) : Int) - 1 = (i : Int) by omega] at g
    exact g
  | succ d ih =>
    intro i hi
    have a := ih i (by omega)
    have g := (h.1 (i + (d + 1) + 1) hi).2.2 (by omega)
    rw [show ((i + (d + 1) + 1 : Nat) : Int) - 1 = ((i + d + 1 : Nat) : Int) by omega] at g
    unfold Ahead at a g ⊢
    omega
theorem aligned {n m p a : Int} (hp : 0 < p) (h1 : n % p = 0) (h2 : m % p = 0) (a1 : n ≤ a) (a2 : a < n + p) (b1 : m ≤ a) (b2 : a < m + p) : n = m := by
  obtain ⟨u, hu⟩ := Int.dvd_of_emod_eq_zero h1
  obtain ⟨v, hv⟩ := Int.dvd_of_emod_eq_zero h2
  subst hu; subst hv
  have e1 : u ≤ v := by
    rcases Int.lt_or_le v u with c | c
    · have := Int.mul_le_mul_of_nonneg_left (show v + 1 ≤ u by omega) (Int.le_of_lt hp)
      rw [Int.mul_add, Int.mul_one] at this
      omega
    · exact c
  have e2 : v ≤ u := by
    rcases Int.lt_or_le u v with c | c
    · have := Int.mul_le_mul_of_nonneg_left (show u + 1 ≤ v by omega) (Int.le_of_lt hp)
      rw [Int.mul_add, Int.mul_one] at this
      omega
    · exact c
  rw [show u = v by omega]
theorem Tok.uni {t : List S30} (h : Tok t) {i j a : Nat} (hi : i < t.length) (hj : j < t.length) (ci : Cv t i a) (cj : Cv t j a) (e : Kl t i = Kl t j) : i = j := by
  have Pi := (h.1 i hi).1
  have Pj := (h.1 j hj).1
  unfold Pok at Pi Pj
  unfold Kl at e
  unfold Cv at ci cj
  rw [e] at Pi ci
  have en := aligned (psz_pos _) Pi.2.2.2.2 Pj.2.2.2.2 ci.1 ci.2 cj.1 cj.2
  rcases Nat.lt_trichotomy i j with c | c | c
  · have g := h.ahead (j - i - 1) i (by omega)
    rw [show i + (j - i - 1) + 1 = j by omega] at g
    unfold Ahead at g
    omega
  · exact c
  · have g := h.ahead (i - j - 1) j (by omega)
    rw [show j + (i - j - 1) + 1 = i by omega] at g
    unfold Ahead at g
    omega
theorem Is.uniq {t : List S30} (h : Tok t) {a : Nat} {v w : Int} (hv : Is t (fun j => j < t.length) a v) (hw : Is t (fun j => j < t.length) a w) : v = w := by
  rcases hv with ⟨i, i1, i2, i3, i4⟩ | ⟨i1, i2⟩
  · rcases hw with ⟨j, j1, j2, j3, j4⟩ | ⟨j1, j2⟩
    · have e := h.uni i1 j1 i2 j2 (Int.le_antisymm (j4 i i1 i2) (i4 j j1 j2))
      rw [i3, j3, e]
    · exact absurd i2 (j2 i i1)
  · rcases hw with ⟨j, j1, j2, j3, j4⟩ | ⟨j1, j2⟩
    · exact absurd j2 (i2 j j1)
    · rw [i1, j1]
theorem Is.mix {x y : List S30} (m : Mix x y 0 x.length) {a : Nat} {v : Int} (h : Is y (fun j => j < y.length) a v) : Is x (fun j => j < x.length) a v := by
  have ml := m.len
  rcases h with ⟨j, j1, j2, j3, j4⟩ | ⟨j1, j2⟩
  · obtain ⟨p, p1, p2, p3⟩ := m.fro j (Nat.zero_le _) (by omega)
    refine .inl ⟨p, p2, by unfold Cv at j2 ⊢; rw [← p3]; exact j2, by rw [j3, p3], fun i hi hc => ?_⟩
    obtain ⟨q, q1, q2, q3⟩ := m.back i (Nat.zero_le _) hi
    have g := j4 q (by omega) (by unfold Cv at hc ⊢; rw [← q3]; exact hc)
    unfold Kl at g ⊢
    rw [q3, ← p3]; exact g
  · refine .inr ⟨j1, fun i hi hc => ?_⟩
    obtain ⟨q, q1, q2, q3⟩ := m.back i (Nat.zero_le _) hi
    exact j2 q (by omega) (by unfold Cv at hc ⊢; rw [← q3]; exact hc)
theorem rd_rep (n : Nat) (v : Int) {a : Nat} (h : a < n) : rd (List.replicate n v) a = v := by
  unfold rd
  rw [Int.toNat_natCast, List.getD_eq_getElem?_getD, List.getElem?_replicate, if_pos h]
  rfl
/-- Both paint the same. -/
theorem both_paint {t : List S30} (h : Tok t) : ∃ o : List Int, o.length = 65536 ∧ (∀ a : Nat, a < 65536 → Is t (fun j => j < t.length) a (rd o a)) ∧ ∀ k, 200000000 < k → spec_l02Paint.f k t = some o ∧ impl_hopsOf.f k t = some o := by
  have hl := h.2
  have none_ : ∀ (o : List Int), (∀ a : Nat, a < 65536 → rd o a = -1) → ∀ (x : List S30) (S : Nat → Prop), (∀ j, ¬ S j) → ∀ a : Nat, a < 65536 → Is x S a (rd o a) := fun o ho x S hS a ha => .inr ⟨ho a ha, fun i hi => absurd hi (hS i)⟩
  have si : ∀ k, 200000000 < k → ∃ o, o.length = 65536 ∧ (∀ a : Nat, a < 65536 → Is t (fun j => j < t.length) a (rd o a)) ∧ spec_l02Paint.f k t = some o := by
    intro k hk
    obtain ⟨o, k', h1, h2, h3, h4⟩ := spInit (x := t) 65536 k 0 (List.replicate 65536 0) (by omega) (List.length_replicate ..) (by omega) (fun a ha => by omega)
    obtain ⟨w, w1, w2, w3⟩ := paintL h.okr 65540 8000000 (by omega) (by omega) 17 k' 0 o (by omega) h2 (by omega) (none_ o h3 t _ (fun j => by unfold Pd; intro q; have := (h.bd.2 j q.1).1; omega))
    refine ⟨w, w1, w2, ?_⟩
    unfold spec_l02Paint.f
    rw [if_pos (by omega)]
    have h4' : spec_l02Paint.l0 k (List.replicate 65536 0) 0 t = spec_l02Paint.l1 k' o 0 t := h4
    rw [h4']
    exact w3
  have ii : ∀ k, 200000000 < k → ∃ o, o.length = 65536 ∧ (∀ a : Nat, a < 65536 → Is t (fun j => j < t.length) a (rd o a)) ∧ impl_hopsOf.f k t = some o := by
    intro k hk
    obtain ⟨y, y1, y2, y3⟩ := stable_sort hl h.bd (k := k) (by omega)
    have yl := y1.len
    have hy : Okr y := ⟨by omega, fun j hj => by
      obtain ⟨p, _, p2, p3⟩ := y1.fro j (Nat.zero_le _) (by omega)
      rw [p3]; exact h.okr.2 p p2⟩
    obtain ⟨w, w1, w2, w3⟩ := paintI hy (by rw [yl]; exact y2) 65540 (by omega) y.length k 0 (List.replicate 65536 (-1)) (by omega) (List.length_replicate ..) (Nat.lt_of_le_of_lt (Nat.mul_le_mul_right 65540 hy.1) (by omega)) (none_ _ (fun a ha => rd_rep _ _ ha) y _ (fun j => by omega))
    refine ⟨w, w1, fun a ha => (w2 a ha).mix y1, ?_⟩
    unfold impl_hopsOf.f slices_Repeat_int_int.f slices_Clone_impl_Route_impl_Route.f
    have q0 : (65536 : Int) ≤ 65536 := by omega
    have q1 : ([-1] : List Int).length = 1 := rfl
    have q2 : (0 : Int) ≤ 65536 := by omega
    have q3 : t.length ≤ 1048576 := by omega
    simp only [q1, q2, q3, q0, if_true]
    simp only [Option.bind_some]
    rw [y3]
    simp only [Option.bind_some]
    have e : (65536 : Int).toNat = 65536 := rfl
    rw [e, ← yl]
    exact w3
  have same : ∀ {o o' : List Int}, o.length = 65536 → o'.length = 65536 → (∀ a : Nat, a < 65536 → Is t (fun j => j < t.length) a (rd o a)) → (∀ a : Nat, a < 65536 → Is t (fun j => j < t.length) a (rd o' a)) → o = o' := by
    intro o o' l1 l2 g1 g2
    exact rd_ext.1 ⟨by omega, fun j hj => (g1 j (by omega)).uniq h (g2 j (by omega))⟩
  obtain ⟨o, o1, o2, _⟩ := si 200000001 (by omega)
  refine ⟨o, o1, o2, fun k hk => ?_⟩
  obtain ⟨p, p1, p2, p3⟩ := si k hk
  obtain ⟨q, q1, q2, q3⟩ := ii k hk
  rw [p3, q3, same p1 o1 p2 o2, same q1 o1 q2 o2]
  exact ⟨rfl, rfl⟩
theorem impl_same {a b : List Int} (h : a.length ≤ 1048576) {k : Nat} (hk : a.length < k) : slices_Equal_int_int.f k a b = some (decide (a = b)) := by
  unfold slices_Equal_int_int.f
  by_cases e : a.length = b.length
  · rw [if_pos (by omega)]
    obtain ⟨x, h1, h2⟩ := all_loop (F := fun k i => slices_Equal_int_int.l0 k a b (a.length : Int) i) (n := a.length) (P := fun j => rd a j = rd b j) (e := true) (fun k i hi _ => by
      show (rd a i = rd b i ∧ slices_Equal_int_int.l0 (k + 1) a b (a.length : Int) i = slices_Equal_int_int.l0 k a b (a.length : Int) ((i : Int) + 1)) ∨ (¬ rd a i = rd b i ∧ slices_Equal_int_int.l0 (k + 1) a b (a.length : Int) i = some false)
      simp only [slices_Equal_int_int.l0]
      rw [if_pos (by omega), if_pos (by omega), if_pos (by omega), if_pos (by omega)]
      by_cases c : rd a i = rd b i
      · rw [if_pos c, w64 (by omega) (by omega)]
        exact .inl ⟨c, rfl⟩
      · rw [if_neg c]
        exact .inr ⟨c, rfl⟩) (fun k _ => by
      show slices_Equal_int_int.l0 (k + 1) a b (a.length : Int) (a.length : Int) = some true
      simp only [slices_Equal_int_int.l0]
      rw [if_neg (by omega)]) a.length k 0 (by omega) hk (fun j hj => by omega)
    have h1' : slices_Equal_int_int.l0 k a b (a.length : Int) 0 = some x := h1
    rw [h1']
    congr 1
    rw [Bool.eq_iff_iff, h2, decide_eq_true_eq, ← rd_ext]
    exact ⟨fun z => ⟨e, z.1⟩, fun z => ⟨z.2, rfl⟩⟩
  · rw [if_neg (by omega), decide_eq_false (fun z => e (by rw [z]))]
theorem rd_getR {x : List S30} {j : Nat} : rd_T30 x j = x.getD j z30 := by
  unfold rd_T30
  rw [Int.toNat_natCast]
theorem cmp_val {x y z a b : Int} (h1 : Pok x y) (h2 : Pok a b) : ∃ v, impl_findRoute_1.f x y z a b = some v ∧ (v < 0 ↔ Ahead x y a b) ∧ ((v == 0) = decide (x = a ∧ y = b)) := by
  obtain ⟨a0, a1, a2, a3, _⟩ := h1
  obtain ⟨b0, b1, b2, b3, _⟩ := h2
  unfold impl_findRoute_1.f impl_comparePrefixes.f Ahead
  by_cases h : x = a
  · rw [if_pos h, w64 (by omega) (by omega)]
    refine ⟨_, rfl, by omega, ?_⟩
    rw [Bool.eq_iff_iff, beq_iff_eq, decide_eq_true_iff]
    omega
  · rw [if_neg h, w64 (by omega) (by omega)]
    refine ⟨_, rfl, by omega, ?_⟩
    rw [Bool.eq_iff_iff, beq_iff_eq, decide_eq_true_iff]
    omega
/-- The search ends at the place c, ahead of which all routes are ahead, behind which none is. -/
theorem bs_at {t : List S30} (h4 : t.length ≤ 1000) (ht : ∀ j, j < t.length → Rat t j) {a b : Int} (hp : Pok a b) {c : Nat} (hc : c ≤ t.length) (h1 : ∀ q : Nat, q < c → Ahead (rd_T30 t (q : Int)).f0.f0 (rd_T30 t (q : Int)).f0.f1 a b) (h2 : ∀ q : Nat, c ≤ q → q < t.length → ¬ Ahead (rd_T30 t (q : Int)).f0.f0 (rd_T30 t (q : Int)).f0.f1 a b) : ∀ (d lo hi k : Nat), hi ≤ lo + d → lo ≤ c → c ≤ hi → hi ≤ t.length → d < k → slices_BinarySearchFunc_impl_Route_impl_Route_impl_Prefix.l0 k t t.length lo hi a b = some ((c : Int), decide (c < t.length ∧ isR a b (rd_T30 t (c : Int)) = true)) := by
  intro d
  induction d with
  | zero =>
    intro lo hi k g1 g2 g3 g5 hk
    obtain ⟨k, rfl⟩ : ∃ m, k = m + 1 := ⟨k - 1, by omega⟩
    obtain rfl : lo = c := by omega
    simp only [slices_BinarySearchFunc_impl_Route_impl_Route_impl_Prefix.l0]
    rw [if_neg (by omega)]
    by_cases cl : lo < t.length
    · obtain ⟨v, hv, _, hv2⟩ := cmp_val (z := (rd_T30 t (lo : Int)).f1) (ht lo cl).1 hp
      rw [if_pos (by omega), if_pos (by omega), if_pos (by omega), hv]
      simp only [Option.bind_some]
      rw [hv2]
      have e : decide (lo < t.length ∧ isR a b (rd_T30 t (lo : Int)) = true) = decide ((rd_T30 t (lo : Int)).f0.f0 = a ∧ (rd_T30 t (lo : Int)).f0.f1 = b) := by
        rw [decide_eq_decide]
        unfold isR
        rw [decide_eq_true_iff]
        exact ⟨fun x => x.2, fun x => ⟨cl, x⟩⟩
      rw [e]
    · rw [if_neg (by omega)]
      have e : decide (lo < t.length ∧ isR a b (rd_T30 t (lo : Int)) = true) = false := decide_eq_false (fun x => cl x.1)
      rw [e]
  | succ d ih =>
    intro lo hi k g1 g2 g3 g5 hk
    by_cases c0 : lo < hi
    · obtain ⟨k, rfl⟩ : ∃ m, k = m + 1 := ⟨k - 1, by omega⟩
      have hm : (lo + hi) / 2 < t.length := by omega
      obtain ⟨v, hv, hv2, _⟩ := cmp_val (z := (rd_T30 t (((lo + hi) / 2 : Nat) : Int)).f1) (ht _ hm).1 hp
      simp only [slices_BinarySearchFunc_impl_Route_impl_Route_impl_Prefix.l0]
      rw [if_pos (by omega), mid_ (by omega), if_pos (by omega), if_pos (by omega), hv]
      simp only [Option.bind_some]
      by_cases cj : (lo + hi) / 2 < c
      · rw [if_pos (hv2.2 (h1 _ cj)), wr1 (by omega)]
        exact ih ((lo + hi) / 2 + 1) hi k (by omega) (by omega) g3 g5 (by omega)
      · rw [if_neg (fun z => h2 _ (by omega) hm (hv2.1 z))]
        exact ih lo ((lo + hi) / 2) k (by omega) g2 (by omega) (by omega) (by omega)
    · exact ih lo hi k (by omega) g2 g3 g5 (by omega)
theorem place {t : List S30} (ht : ∀ j, j < t.length → Rat t j) (a b : Int) : ∃ c : Nat, c ≤ t.length ∧ (∀ q : Nat, q < c → Ahead (rd_T30 t (q : Int)).f0.f0 (rd_T30 t (q : Int)).f0.f1 a b) ∧ (∀ q : Nat, c ≤ q → q < t.length → ¬ Ahead (rd_T30 t (q : Int)).f0.f0 (rd_T30 t (q : Int)).f0.f1 a b) := by
  have key : ∀ n : Nat, n ≤ t.length → ∃ c : Nat, c ≤ n ∧ (∀ q : Nat, q < c → Ahead (rd_T30 t (q : Int)).f0.f0 (rd_T30 t (q : Int)).f0.f1 a b) ∧ (∀ q : Nat, c ≤ q → q < n → ¬ Ahead (rd_T30 t (q : Int)).f0.f0 (rd_T30 t (q : Int)).f0.f1 a b) := by
    intro n
    induction n with
    | zero => exact fun _ => ⟨0, Nat.le_refl _, fun q h => by omega, fun q _ h => by omega⟩
    | succ n ih =>
      intro hn
      obtain ⟨c, h0, h1, h2⟩ := ih (by omega)
      by_cases g : Ahead (rd_T30 t (n : Int)).f0.f0 (rd_T30 t (n : Int)).f0.f1 a b
      · refine ⟨n + 1, Nat.le_refl _, fun q hq => ?_, fun q _ h => by omega⟩
        by_cases e : q = n
        · rw [e]; exact g
        · have x := tok_asc ht n q (by omega) (by omega)
          unfold Ahead at x g ⊢
          omega
      · refine ⟨c, by omega, h1, fun q hq hqn => ?_⟩
        by_cases e : q = n
        · rw [e]; exact g
        · exact h2 q hq (by omega)
  exact key t.length (Nat.le_refl _)
/-- r put ahead of the first route that it is ahead of. -/
def insP (r : S30) : List S30 → List S30
  | [] => [r]
  | x :: l => if (spec_l02Ahead.f r.f0.f0 r.f0.f1 x.f0.f0 x.f0.f1 == some true) = true then r :: x :: l else x :: insP r l
theorem insP_len (r : S30) : ∀ l, (insP r l).length = l.length + 1
  | [] => rfl
  | x :: l => by
    unfold insP
    split
    · simp
    · rw [List.length_cons, insP_len r l, List.length_cons]
theorem ahs {n l m k : Int} : (spec_l02Ahead.f n l m k == some true) = true ↔ Ahead n l m k := by
  obtain ⟨b, h1, h2⟩ := spec_Ahead n l m k
  rw [h1, ← h2]
  simp
theorem insP_at (r : S30) : ∀ (A B : List S30), (∀ x ∈ A, ¬ Ahead r.f0.f0 r.f0.f1 x.f0.f0 x.f0.f1) → (∀ x ∈ B, Ahead r.f0.f0 r.f0.f1 x.f0.f0 x.f0.f1) → insP r (A ++ B) = A ++ r :: B
  | [], [], _, _ => rfl
  | [], y :: B, _, hB => by
    rw [List.nil_append, insP, if_pos (ahs.2 (hB y (by simp)))]
    rfl
  | x :: A, B, hA, hB => by
    rw [List.cons_append, insP, if_neg (fun h => hA x (by simp) (ahs.1 h)), insP_at r A B (fun z hz => hA z (by simp [hz])) hB]
    rfl
theorem sput_loop {t o : List S30} (r : S30) (ho : o.length ≤ 1048576) {R : List S30 × Bool} {M : Nat} (hM : 1 ≤ M) (hR : ∀ k, M ≤ k → spec_PutRoute.j1 k t (insP r o) = some R) :
    ∀ (d i k : Nat) (A B acc : List S30), o = A ++ B → i = A.length → B.length = d → d + M < k → acc.length ≤ i + 1 →
      (acc = A → insP r o = A ++ insP r B → spec_PutRoute.l0 k false i t r.f0.f0 r.f0.f1 r.f1 o acc = some R) ∧ (insP r o = acc ++ B → spec_PutRoute.l0 k true i t r.f0.f0 r.f0.f1 r.f1 o acc = some R) := by
  intro d
  induction d with
  | zero =>
    intro i k A B acc hAB hi hd hk hacc
    obtain ⟨k, rfl⟩ : ∃ m, k = m + 1 := ⟨k - 1, by omega⟩
    obtain rfl : B = [] := List.eq_nil_of_length_eq_zero hd
    have hil : i = o.length := by rw [hAB, List.append_nil]; exact hi
    refine ⟨fun e1 e2 => ?_, fun e1 => ?_⟩
    · simp only [spec_PutRoute.l0]
      rw [if_neg (by omega), if_neg (by decide), if_pos (by omega)]
      have z := hR k (by omega)
      rw [e2] at z
      rw [e1]
      exact z
    · simp only [spec_PutRoute.l0]
      rw [if_neg (by omega), if_pos trivial]
      have z := hR k (by omega)
      rw [e1, List.append_nil] at z
      exact z
  | succ d ih =>
    intro i k A B acc hAB hi hd hk hacc
    obtain ⟨k, rfl⟩ : ∃ m, k = m + 1 := ⟨k - 1, by omega⟩
    obtain ⟨y, B, rfl⟩ : ∃ y B', B = y :: B' := by
      cases B with
      | nil => simp at hd
      | cons y B => exact ⟨y, B, rfl⟩
    have hol : o.length = A.length + (B.length + 1) := by rw [hAB, List.length_append, List.length_cons]
    have hdB : B.length = d := by rw [List.length_cons] at hd; omega
    have hil : i < o.length := by omega
    have er : rd_T30 o (i : Int) = y := by
      rw [rd_natR hil]
      simp [hAB, hi]
    have hA' : o = (A ++ [y]) ++ B := by rw [hAB, List.append_assoc]; rfl
    have hl' : i + 1 = (A ++ [y]).length := by rw [List.length_append, List.length_singleton, hi]
    refine ⟨fun e1 e2 => ?_, fun e1 => ?_⟩
    · subst e1
      simp only [spec_PutRoute.l0]
      rw [if_pos (by omega), if_neg (by decide), if_pos (by omega), er]
      obtain ⟨b, hb, hb2⟩ := spec_Ahead r.f0.f0 r.f0.f1 y.f0.f0 y.f0.f1
      rw [hb]
      simp only [Option.bind_some]
      by_cases cb : b = true
      · have z := (ih (i + 1) k (acc ++ [y]) B ((acc ++ [r]) ++ [y]) hA' hl' hdB (by omega) (by simp only [List.length_append, List.length_singleton]; omega)).2 (by
          rw [e2, insP, if_pos (by rw [hb, cb]; rfl)]
          simp [List.append_assoc])
        rw [if_pos cb, if_pos (by omega), if_pos (by rw [List.length_append, List.length_singleton]; omega), wr1 (by omega)]
        exact z
      · have z := (ih (i + 1) k (acc ++ [y]) B (acc ++ [y]) hA' hl' hdB (by omega) (by simp only [List.length_append, List.length_singleton]; omega)).1 rfl (by
          rw [e2, insP, if_neg (fun h => cb (hb2.2 (ahs.1 h))), List.append_assoc]
          rfl)
        rw [if_neg cb, if_pos (by omega), wr1 (by omega)]
        exact z
    · simp only [spec_PutRoute.l0]
      have z := (ih (i + 1) k (A ++ [y]) B (acc ++ [y]) hA' hl' hdB (by omega) (by simp only [List.length_append, List.length_singleton]; omega)).2 (by rw [e1, List.append_assoc]; rfl)
      rw [if_pos (by omega), if_pos trivial, if_pos (by omega), if_pos (by omega), er, wr1 (by omega)]
      exact z
theorem sput {t : List S30} (r : S30) (o : List S30) (ho : o.length ≤ 1048576) {R : List S30 × Bool} {M : Nat} (hM : 1 ≤ M) (hR : ∀ k, M ≤ k → spec_PutRoute.j1 k t (insP r o) = some R) {k : Nat} (hk : o.length + M < k) : spec_PutRoute.l0 k false 0 t r.f0.f0 r.f0.f1 r.f1 o [] = some R := by
  have z := (sput_loop r ho hM hR o.length 0 k [] o [] rfl rfl rfl hk (by simp)).1 rfl rfl
  exact z
theorem rd_ins {t : List S30} {c : Nat} (hc : c ≤ t.length) (r : S30) (q : Nat) (hq : q < t.length + 1) : rd_T30 (t.take c ++ r :: t.drop c) (q : Int) = if q < c then rd_T30 t (q : Int) else if q = c then r else rd_T30 t ((q - 1 : Nat) : Int) := by
  have hl : (t.take c).length = c := by rw [List.length_take]; omega
  rw [rd_getR, rd_getR, rd_getR, List.getD_eq_getElem?_getD, List.getD_eq_getElem?_getD, List.getD_eq_getElem?_getD, List.getElem?_append, hl]
  by_cases h1 : q < c
  · rw [if_pos h1, if_pos h1, List.getElem?_take, if_pos h1]
  · rw [if_neg h1, if_neg h1]
    by_cases h2 : q = c
    · rw [if_pos h2, h2, Nat.sub_self]; rfl
    · rw [if_neg h2]
      obtain ⟨m, hm⟩ : ∃ m, q - c = m + 1 := ⟨q - c - 1, by omega⟩
      rw [hm, List.getElem?_cons_succ, List.getElem?_drop]
      congr 2
      omega
def VR (r : S30) : Prop := Pok r.f0.f0 r.f0.f1 ∧ 0 ≤ r.f1 ∧ r.f1 ≤ 999
def AR (r s : S30) : Prop := Ahead r.f0.f0 r.f0.f1 s.f0.f0 s.f0.f1
def Has (r : S30) (a : Int) : Prop := Phas r.f0.f0 r.f0.f1 a
instance (r : S30) (a : Int) : Decidable (Has r a) := by unfold Has; infer_instance
theorem Tok_iff {t : List S30} : Tok t ↔ (∀ r ∈ t, VR r) ∧ t.Pairwise AR ∧ t.length ≤ 120 := by
  constructor
  · intro h
    refine ⟨fun r hr => ?_, ?_, h.2⟩
    · obtain ⟨i, hi, rfl⟩ := List.mem_iff_getElem.1 hr
      have z := h.1 i hi
      unfold Rat at z
      rw [rd_natR hi] at z
      exact ⟨z.1, z.2.1.1, z.2.1.2⟩
    · rw [List.pairwise_iff_getElem]
      intro i j hi hj hij
      have z := tok_asc h.1 j i hij hj
      rw [rd_natR hi, rd_natR hj] at z
      exact z
  · rintro ⟨h1, h2, h3⟩
    refine ⟨fun j hj => ?_, h3⟩
    have v := h1 _ (List.getElem_mem hj)
    unfold Rat
    rw [rd_natR hj]
    refine ⟨v.1, ⟨v.2.1, v.2.2⟩, fun h0 => ?_⟩
    have e : (j : Int) - 1 = ((j - 1 : Nat) : Int) := by omega
    rw [e, rd_natR (show j - 1 < t.length by omega)]
    exact List.pairwise_iff_getElem.1 h2 (j - 1) j (by omega) hj (by omega)
theorem Tok.sub {t u : List S30} (h : Tok t) (hs : u.Sublist t) : Tok u := by
  have z := Tok_iff.1 h
  exact Tok_iff.2 ⟨fun r hr => z.1 r (hs.subset hr), z.2.1.sublist hs, Nat.le_trans hs.length_le z.2.2⟩
/-- One prefix, one route. -/
def One (t : List S30) : Prop := (∀ r ∈ t, VR r) ∧ ∀ r ∈ t, ∀ s ∈ t, r.f0.f0 = s.f0.f0 → r.f0.f1 = s.f0.f1 → r = s
theorem Tok.one {t : List S30} (h : Tok t) : One t := by
  have z := Tok_iff.1 h
  refine ⟨z.1, fun r hr s hs e1 e2 => ?_⟩
  obtain ⟨i, hi, rfl⟩ := List.mem_iff_getElem.1 hr
  obtain ⟨j, hj, rfl⟩ := List.mem_iff_getElem.1 hs
  rcases Nat.lt_trichotomy i j with c | c | c
  · have := List.pairwise_iff_getElem.1 z.2.1 i j hi hj c
    unfold AR Ahead at this
    omega
  · subst c; rfl
  · have := List.pairwise_iff_getElem.1 z.2.1 j i hj hi c
    unfold AR Ahead at this
    omega
theorem One.sub {t u : List S30} (h : One t) (hs : ∀ r ∈ u, r ∈ t) : One u := ⟨fun r hr => h.1 r (hs r hr), fun r hr s hs' => h.2 r (hs r hr) s (hs s hs')⟩
/-- Two blocks with an address in common: the shorter prefix holds the other one. -/
theorem nest {n l m k a : Int} (p : Pok n l) (q : Pok m k) (hl : l ≤ k) (h1 : Phas n l a) (h2 : Phas m k a) : n ≤ m ∧ m + psz k ≤ n + psz l := by
  obtain ⟨b0, b1, b2, b3, b4⟩ := p
  obtain ⟨c0, c1, c2, c3, c4⟩ := q
  unfold Phas at h1 h2
  have z := psz_pos k
  have n4 := psz_mod b0 hl c1 b4
  have zl : psz l % psz k = 0 := psz_mod b0 hl c1 (Int.emod_self)
  have e1 : (m + psz k) % psz k = 0 := by rw [Int.add_emod_right]; exact c4
  have e2 : (n + psz l) % psz k = 0 := by rw [Int.add_emod, n4, zl]; rfl
  exact ⟨mult_le z n4 c4 (by omega), mult_le z e1 e2 (by omega)⟩
theorem same_len {n l m a : Int} (p : Pok n l) (q : Pok m l) (h1 : Phas n l a) (h2 : Phas m l a) : n = m := by
  have x := nest p q (Int.le_refl _) h1 h2
  have y := nest q p (Int.le_refl _) h2 h1
  omega
/-- What the best route is. -/
theorem best_is {a : Int} : ∀ (t u : List S30) (s : Bool × Int × Int × Int), ((s.1 = false ∧ ∀ r ∈ u, ¬ Has r a) ∨ ∃ r ∈ u, Has r a ∧ s = (true, r.f0.f0, r.f0.f1, r.f1) ∧ ∀ q ∈ u, Has q a → q.f0.f1 ≤ r.f0.f1) →
    (((t.foldl (bstep a) s).1 = false ∧ ∀ r ∈ u ++ t, ¬ Has r a) ∨ ∃ r ∈ u ++ t, Has r a ∧ t.foldl (bstep a) s = (true, r.f0.f0, r.f0.f1, r.f1) ∧ ∀ q ∈ u ++ t, Has q a → q.f0.f1 ≤ r.f0.f1) := by
  intro t
  induction t with
  | nil =>
    intro u s h
    rw [List.append_nil]
    exact h
  | cons x t ih =>
    intro u s h
    have z := ih (u ++ [x]) (bstep a s x) ?_
    · rw [List.append_assoc] at z
      exact z
    · unfold bstep
      by_cases c : Phas x.f0.f0 x.f0.f1 a
      · rw [if_pos c]
        rcases h with ⟨h1, h2⟩ | ⟨r, hr, h1, h2, h3⟩
        · rw [h1, if_neg (by decide)]
          refine .inr ⟨x, by simp, c, rfl, fun q hq hqa => ?_⟩
          rcases List.mem_append.1 hq with hq | hq
          · exact absurd hqa (h2 q hq)
          · rw [List.mem_singleton.1 hq]; exact Int.le_refl _
        · subst h2
          rw [if_pos rfl]
          by_cases c2 : x.f0.f1 > r.f0.f1
          · rw [if_pos c2]
            refine .inr ⟨x, by simp, c, rfl, fun q hq hqa => ?_⟩
            rcases List.mem_append.1 hq with hq | hq
            · have := h3 q hq hqa; omega
            · rw [List.mem_singleton.1 hq]; exact Int.le_refl _
          · rw [if_neg c2]
            refine .inr ⟨r, List.mem_append_left _ hr, h1, rfl, fun q hq hqa => ?_⟩
            rcases List.mem_append.1 hq with hq | hq
            · exact h3 q hq hqa
            · rw [List.mem_singleton.1 hq]; omega
      · rw [if_neg c]
        rcases h with ⟨h1, h2⟩ | ⟨r, hr, h1, h2, h3⟩
        · refine .inl ⟨h1, fun q hq hqa => ?_⟩
          rcases List.mem_append.1 hq with hq | hq
          · exact h2 q hq hqa
          · rw [List.mem_singleton.1 hq] at hqa; exact c hqa
        · refine .inr ⟨r, List.mem_append_left _ hr, h1, h2, fun q hq hqa => ?_⟩
          rcases List.mem_append.1 hq with hq | hq
          · exact h3 q hq hqa
          · rw [List.mem_singleton.1 hq] at hqa; exact absurd hqa c
theorem best_cases (a : Int) (t : List S30) : ((bestOf a t).1 = false ∧ ∀ r ∈ t, ¬ Has r a) ∨ ∃ r ∈ t, Has r a ∧ bestOf a t = (true, r.f0.f0, r.f0.f1, r.f1) ∧ ∀ q ∈ t, Has q a → q.f0.f1 ≤ r.f0.f1 := by
  have z := best_is (a := a) t [] (false, 0, 0, 0) (.inl ⟨rfl, fun r hr => by cases hr⟩)
  exact z
/-- The hop of an address, -1 for none. -/
def FH (t : List S30) (a : Int) : Int := if (bestOf a t).1 = true then (bestOf a t).2.2.2 else -1
theorem FH_none {a : Int} {t : List S30} (h : ∀ r ∈ t, ¬ Has r a) : FH t a = -1 := by
  unfold FH
  rcases best_cases a t with ⟨h1, _⟩ | ⟨r, hr, h1, _⟩
  · rw [h1, if_neg (by decide)]
  · exact absurd h1 (h r hr)
theorem FH_some {a : Int} {t : List S30} (ho : One t) {r : S30} (hr : r ∈ t) (ha : Has r a) (hm : ∀ q ∈ t, Has q a → q.f0.f1 ≤ r.f0.f1) : FH t a = r.f1 ∧ (bestOf a t).1 = true ∧ (bestOf a t).2.2.2 = r.f1 := by
  unfold FH
  rcases best_cases a t with ⟨_, h2⟩ | ⟨q, hq, h1, h2, h3⟩
  · exact absurd ha (h2 r hr)
  · have x := hm q hq h1
    have y := h3 r hr ha
    have e : q.f0.f1 = r.f0.f1 := by omega
    have vq := (ho.1 q hq).1
    rw [e] at vq
    have hqa : Phas q.f0.f0 r.f0.f1 a := by rw [← e]; exact h1
    have e2 := same_len vq (ho.1 r hr).1 hqa ha
    have e3 := ho.2 q hq r hr e2 e
    subst e3
    rw [h2]
    exact ⟨rfl, rfl, rfl⟩
/-- A route is idle: without it no address of it is led elsewhere. -/
def Idle (t : List S30) (r : S30) : Prop := ∀ a, Has r a → FH t a = FH (t.filter fun q => !isR r.f0.f0 r.f0.f1 q) a
/-- Longer routes within another one. -/
def Inn (t : List S30) (r q : S30) : Prop := q ∈ t ∧ q ≠ r ∧ r.f0.f1 ≤ q.f0.f1 ∧ Has r q.f0.f0
def Used (t : List S30) (r : S30) : Prop := ∃ a, Has r a ∧ ∀ q, Inn t r q → ¬ Has q a
def others (t : List S30) (r : S30) : List S30 := t.filter fun q => !(if q.f0.f1 ≤ r.f0.f1 ∧ Has q r.f0.f0 then (q.f0.f0 == r.f0.f0 && q.f0.f1 == r.f0.f1) && q.f1 == r.f1 else true)
theorem mem_others {t : List S30} {r q : S30} : q ∈ others t r ↔ q ∈ t ∧ q.f0.f1 ≤ r.f0.f1 ∧ Has q r.f0.f0 ∧ q ≠ r := by
  unfold others
  rw [List.mem_filter]
  by_cases c : q.f0.f1 ≤ r.f0.f1 ∧ Has q r.f0.f0
  · rw [if_pos c]
    constructor
    · rintro ⟨h1, h2⟩
      refine ⟨h1, c.1, c.2, fun e => ?_⟩
      subst e
      simp at h2
    · rintro ⟨h1, _, _, h2⟩
      refine ⟨h1, ?_⟩
      have : ¬ ((q.f0.f0 = r.f0.f0 ∧ q.f0.f1 = r.f0.f1) ∧ q.f1 = r.f1) := fun e => h2 (by
        obtain ⟨⟨q0, q1⟩, q2⟩ := q
        obtain ⟨⟨r0, r1⟩, r2⟩ := r
        simp at e
        obtain ⟨⟨rfl, rfl⟩, rfl⟩ := e
        rfl)
      cases hb : ((q.f0.f0 == r.f0.f0 && q.f0.f1 == r.f0.f1) && q.f1 == r.f1) with
      | false => rfl
      | true =>
        simp only [Bool.and_eq_true, beq_iff_eq] at hb
        exact absurd hb this
  · rw [if_neg c]
    constructor
    · rintro ⟨_, h2⟩
      simp at h2
    · rintro ⟨_, h2, h3, _⟩
      exact absurd ⟨h2, h3⟩ c
theorem mem_rest {t : List S30} (ho : One t) {r q : S30} (hr : r ∈ t) : (q ∈ t.filter fun q => !isR r.f0.f0 r.f0.f1 q) ↔ q ∈ t ∧ q ≠ r := by
  rw [List.mem_filter]
  unfold isR
  constructor
  · rintro ⟨h1, h2⟩
    refine ⟨h1, fun e => ?_⟩
    subst e
    simp at h2
  · rintro ⟨h1, h2⟩
    refine ⟨h1, ?_⟩
    have : ¬ (q.f0.f0 = r.f0.f0 ∧ q.f0.f1 = r.f0.f1) := fun e => h2 (ho.2 q h1 r hr e.1 e.2)
    rw [decide_eq_false this]
    rfl
/-- The program's test says whether a route is idle. -/
theorem idle_iff {t : List S30} (ho : One t) {r : S30} (hr : r ∈ t) : Idle t r ↔ (¬ Used t r ∨ ((bestOf r.f0.f0 (others t r)).1 = true ∧ (bestOf r.f0.f0 (others t r)).2.2.2 = r.f1)) := by
  have vr := ho.1 r hr
  have rest1 : One (t.filter fun q => !isR r.f0.f0 r.f0.f1 q) := ho.sub (fun q hq => ((mem_rest ho hr).1 hq).1)
  have oth1 : One (others t r) := ho.sub (fun q hq => (mem_others.1 hq).1)
  -- an address that a longer route within holds
  have inn : ∀ a, Has r a → (∃ q, Inn t r q ∧ Has q a) → FH t a = FH (t.filter fun q => !isR r.f0.f0 r.f0.f1 q) a := by
    rintro a ha ⟨q, ⟨q1, q2, q3, q4⟩, q5⟩
    have lt : r.f0.f1 < q.f0.f1 := by
      by_cases e : r.f0.f1 = q.f0.f1
      · have vq := (ho.1 q q1).1
        rw [← e] at vq
        have hqa : Phas q.f0.f0 r.f0.f1 a := by rw [e]; exact q5
        exact absurd (ho.2 q q1 r hr (same_len vq vr.1 hqa ha) e.symm) q2
      · omega
    rcases best_cases a t with ⟨_, h2⟩ | ⟨s, hs, s1, s2, s3⟩
    · exact absurd ha (h2 r hr)
    · have sr : s ≠ r := fun e => by
        have := s3 q q1 q5
        rw [e] at this
        omega
      have hs' := (mem_rest ho hr).2 ⟨hs, sr⟩
      rw [(FH_some ho hs s1 s3).1, (FH_some rest1 hs' s1 (fun x hx hxa => s3 x ((mem_rest ho hr).1 hx).1 hxa)).1]
  -- an address that none holds
  have free : ∀ a, Has r a → (∀ q, Inn t r q → ¬ Has q a) → (FH t a = FH (t.filter fun q => !isR r.f0.f0 r.f0.f1 q) a ↔ ((bestOf r.f0.f0 (others t r)).1 = true ∧ (bestOf r.f0.f0 (others t r)).2.2.2 = r.f1)) := by
    intro a ha hn
    have short : ∀ q ∈ t, q ≠ r → Has q a → q.f0.f1 ≤ r.f0.f1 ∧ Has q r.f0.f0 := fun q hq hqr hqa => by
      have vq := ho.1 q hq
      by_cases c : q.f0.f1 ≤ r.f0.f1
      · have z := nest vq.1 vr.1 c hqa ha
        have p := psz_pos r.f0.f1
        refine ⟨c, ?_⟩
        unfold Has Phas
        omega
      · have z := nest vr.1 vq.1 (show r.f0.f1 ≤ q.f0.f1 by omega) ha hqa
        have p := psz_pos q.f0.f1
        refine absurd hqa (hn q ⟨hq, hqr, by omega, ?_⟩)
        unfold Has Phas
        omega
    have long : ∀ q ∈ others t r, Has q a := fun q hq => by
      obtain ⟨q1, q2, q3, q4⟩ := mem_others.1 hq
      have p := psz_pos r.f0.f1
      have z := nest (ho.1 q q1).1 vr.1 q2 (a := r.f0.f0) q3 (by unfold Phas; omega)
      unfold Has Phas at ha ⊢
      omega
    have ft : FH t a = r.f1 := (FH_some ho hr ha (fun q hq hqa => by
      by_cases e : q = r
      · rw [e]; exact Int.le_refl _
      · exact (short q hq e hqa).1)).1
    rw [ft]
    rcases best_cases r.f0.f0 (others t r) with ⟨h1, h2⟩ | ⟨s, hs, s1, s2, s3⟩
    · rw [FH_none (fun q hq hqa => by
        obtain ⟨q1, q2⟩ := (mem_rest ho hr).1 hq
        obtain ⟨q3, q4⟩ := short q q1 q2 hqa
        exact h2 q (mem_others.2 ⟨q1, q3, q4, q2⟩) q4), h1]
      constructor
      · intro h
        have := vr.2.1
        omega
      · intro h
        cases h.1
    · obtain ⟨m1, m2, m3, m4⟩ := mem_others.1 hs
      rw [(FH_some rest1 ((mem_rest ho hr).2 ⟨m1, m4⟩) (long s hs) (fun q hq hqa => by
        obtain ⟨q1, q2⟩ := (mem_rest ho hr).1 hq
        obtain ⟨q3, q4⟩ := short q q1 q2 hqa
        exact s3 q (mem_others.2 ⟨q1, q3, q4, q2⟩) q4)).1, s2]
      exact ⟨fun h => ⟨rfl, h.symm⟩, fun h => h.2.symm⟩
  constructor
  · intro h
    by_cases u : Used t r
    · obtain ⟨a, a1, a2⟩ := u
      exact .inr ((free a a1 a2).1 (h a a1))
    · exact .inl u
  · intro h a ha
    by_cases c : ∃ q, Inn t r q ∧ Has q a
    · exact inn a ha c
    · have c' : ∀ q, Inn t r q → ¬ Has q a := fun q hq hqa => c ⟨q, hq, hqa⟩
      rcases h with h | h
      · exact absurd ⟨a, ha, c'⟩ h
      · exact (free a ha c').2 h
/-- What the scan for a used address knows behind the routes u. -/
def Sc (u : List S30) (r : S30) (ins en : Int) : Prop := ∃ E, ((E = r.f0.f0 - 1 ∧ en = -1 ∧ ∀ q, ¬ Inn u r q) ∨ (E = en ∧ ∃ q, Inn u r q ∧ q.f0.f0 + psz q.f0.f1 - 1 = en)) ∧
  (∀ q, Inn u r q → q.f0.f0 + psz q.f0.f1 - 1 ≤ en) ∧ 0 ≤ ins ∧ ins ≤ E + 1 - r.f0.f0 ∧ (ins = E + 1 - r.f0.f0 ↔ ∀ a, r.f0.f0 ≤ a → a ≤ E → ∃ q, Inn u r q ∧ Has q a)
theorem Inn.snoc {u : List S30} {r x q : S30} : Inn (u ++ [x]) r q ↔ Inn u r q ∨ (q = x ∧ x ≠ r ∧ r.f0.f1 ≤ x.f0.f1 ∧ Has r x.f0.f0) := by
  unfold Inn
  rw [List.mem_append, List.mem_singleton]
  constructor
  · rintro ⟨h1 | h1, h2, h3, h4⟩
    · exact .inl ⟨h1, h2, h3, h4⟩
    · subst h1; exact .inr ⟨rfl, h2, h3, h4⟩
  · rintro (⟨h1, h2, h3, h4⟩ | ⟨rfl, h2, h3, h4⟩)
    · exact ⟨.inl h1, h2, h3, h4⟩
    · exact ⟨.inr rfl, h2, h3, h4⟩
theorem Sc.out {u : List S30} {r x : S30} {ins en : Int} (h : Sc u r ins en) (hx : ¬ (x ≠ r ∧ r.f0.f1 ≤ x.f0.f1 ∧ Has r x.f0.f0)) : Sc (u ++ [x]) r ins en := by
  have e : ∀ q, Inn (u ++ [x]) r q ↔ Inn u r q := fun q => by
    rw [Inn.snoc]
    exact ⟨fun h => h.elim id (fun z => absurd z.2 hx), .inl⟩
  unfold Sc at h ⊢
  simp only [e]
  exact h
theorem Sc.new {u : List S30} {r x : S30} {ins en : Int} (h : Sc u r ins en) (hx : x ≠ r ∧ r.f0.f1 ≤ x.f0.f1 ∧ Has r x.f0.f0) (hn : x.f0.f0 > en) : Sc (u ++ [x]) r (ins + psz x.f0.f1) (x.f0.f0 + psz x.f0.f1 - 1) := by
  have p := psz_pos x.f0.f1
  obtain ⟨E, h1, h2, h3, h4, h5⟩ := h
  have hxr : r.f0.f0 ≤ x.f0.f0 := hx.2.2.1
  have hE : E ≤ x.f0.f0 - 1 := by
    rcases h1 with ⟨e, _, _⟩ | ⟨e, _⟩
    · omega
    · omega
  have hEn : ∀ q, Inn u r q → q.f0.f0 + psz q.f0.f1 - 1 ≤ E := fun q hq => by
    rcases h1 with ⟨_, _, e⟩ | ⟨e, _⟩
    · exact absurd hq (e q)
    · have := h2 q hq; omega
  refine ⟨x.f0.f0 + psz x.f0.f1 - 1, .inr ⟨rfl, x, Inn.snoc.2 (.inr ⟨rfl, hx⟩), rfl⟩, fun q hq => ?_, by omega, by omega, ?_⟩
  · rcases Inn.snoc.1 hq with hq | ⟨rfl, _⟩
    · have := h2 q hq; omega
    · omega
  · constructor
    · intro e a a1 a2
      have e1 : ins = E + 1 - r.f0.f0 := by omega
      by_cases c : a ≤ E
      · obtain ⟨q, q1, q2⟩ := h5.1 e1 a a1 c
        exact ⟨q, Inn.snoc.2 (.inl q1), q2⟩
      · refine ⟨x, Inn.snoc.2 (.inr ⟨rfl, hx⟩), ?_⟩
        unfold Has Phas
        omega
    · intro hc
      have e1 : ins = E + 1 - r.f0.f0 := h5.2 (fun a a1 a2 => by
        obtain ⟨q, q1, q2⟩ := hc a a1 (by omega)
        rcases Inn.snoc.1 q1 with q1 | ⟨rfl, _⟩
        · exact ⟨q, q1, q2⟩
        · unfold Has Phas at q2
          omega)
      have e2 : E = x.f0.f0 - 1 := by
        by_cases c : E = x.f0.f0 - 1
        · exact c
        · have hr1 : r.f0.f0 ≤ E + 1 := by omega
          obtain ⟨q, q1, q2⟩ := hc (E + 1) hr1 (by omega)
          rcases Inn.snoc.1 q1 with q1 | ⟨rfl, _⟩
          · have := hEn q q1
            unfold Has Phas at q2
            omega
          · unfold Has Phas at q2
            omega
      omega
theorem Sc.old {u : List S30} {r x : S30} {ins en : Int} (h : Sc u r ins en) (hu : ∀ q ∈ u, VR q ∧ AR q x) (vx : VR x) (hx : x ≠ r ∧ r.f0.f1 ≤ x.f0.f1 ∧ Has r x.f0.f0) (hn : ¬ x.f0.f0 > en) : Sc (u ++ [x]) r ins en := by
  have p := psz_pos x.f0.f1
  obtain ⟨E, h1, h2, h3, h4, h5⟩ := h
  have x0 := vx.1.2.2.1
  rcases h1 with ⟨_, e, _⟩ | ⟨e, q0, q1, q2⟩
  · omega
  · obtain ⟨v0, a0⟩ := hu q0 q1.1
    have p0 := psz_pos q0.f0.f1
    have le : q0.f0.f0 ≤ x.f0.f0 := by unfold AR Ahead at a0; omega
    have ha : Phas q0.f0.f0 q0.f0.f1 x.f0.f0 := by unfold Phas; omega
    have hb : Phas x.f0.f0 x.f0.f1 x.f0.f0 := by unfold Phas; omega
    have within : q0.f0.f0 ≤ x.f0.f0 ∧ x.f0.f0 + psz x.f0.f1 ≤ q0.f0.f0 + psz q0.f0.f1 := by
      by_cases c : q0.f0.f1 ≤ x.f0.f1
      · exact nest v0.1 vx.1 c ha hb
      · have z := nest vx.1 v0.1 (show x.f0.f1 ≤ q0.f0.f1 by omega) hb ha
        unfold AR Ahead at a0
        omega
    refine ⟨E, .inr ⟨e, q0, Inn.snoc.2 (.inl q1), q2⟩, fun q hq => ?_, h3, h4, h5.trans ?_⟩
    · rcases Inn.snoc.1 hq with hq | ⟨rfl, _⟩
      · exact h2 q hq
      · omega
    · constructor
      · intro hc a a1 a2
        obtain ⟨q, z1, z2⟩ := hc a a1 a2
        exact ⟨q, Inn.snoc.2 (.inl z1), z2⟩
      · intro hc a a1 a2
        obtain ⟨q, z1, z2⟩ := hc a a1 a2
        rcases Inn.snoc.1 z1 with z1 | ⟨rfl, _⟩
        · exact ⟨q, z1, z2⟩
        · refine ⟨q0, q1, ?_⟩
          unfold Has Phas at z2 ⊢
          omega
theorem Sc.done {t : List S30} {r : S30} {ins en : Int} (h : Sc t r ins en) (hv : ∀ q ∈ t, VR q) (vr : VR r) : ins < psz r.f0.f1 ↔ Used t r := by
  have p := psz_pos r.f0.f1
  obtain ⟨E, h1, h2, h3, h4, h5⟩ := h
  have hin : ∀ q, Inn t r q → q.f0.f0 + psz q.f0.f1 ≤ r.f0.f0 + psz r.f0.f1 := fun q hq => by
    have pq := psz_pos q.f0.f1
    exact (nest vr.1 (hv q hq.1).1 hq.2.2.1 hq.2.2.2 (by unfold Phas; omega)).2
  have hE : E ≤ r.f0.f0 + psz r.f0.f1 - 1 := by
    rcases h1 with ⟨e, _, _⟩ | ⟨e, q, q1, q2⟩
    · omega
    · have := hin q q1; omega
  constructor
  · intro hl
    by_cases c : Used t r
    · exact c
    · have all : ∀ a, Has r a → ∃ q, Inn t r q ∧ Has q a := fun a ha => by
        by_cases d : ∃ q, Inn t r q ∧ Has q a
        · exact d
        · exact absurd ⟨a, ha, fun q hq hqa => d ⟨q, hq, hqa⟩⟩ c
      obtain ⟨q, q1, q2⟩ := all (r.f0.f0 + psz r.f0.f1 - 1) (by unfold Has Phas; omega)
      have l := h2 q q1
      have eE : E = r.f0.f0 + psz r.f0.f1 - 1 := by
        rcases h1 with ⟨_, _, e⟩ | ⟨e, _⟩
        · exact absurd q1 (e q)
        · unfold Has Phas at q2; omega
      have := h5.2 (fun a a1 a2 => all a (by unfold Has Phas; omega))
      omega
  · rintro ⟨a, a1, a2⟩
    by_cases c : ins < psz r.f0.f1
    · exact c
    · have e1 : ins = E + 1 - r.f0.f0 := by omega
      have e2 : E = r.f0.f0 + psz r.f0.f1 - 1 := by omega
      unfold Has Phas at a1
      obtain ⟨q, q1, q2⟩ := h5.1 e1 a a1.1 (by omega)
      exact absurd q2 (a2 q q1)
theorem impl_cov {n l m k : Int} (p : Pok n l) : impl_Prefix_covers.f n l m k = some (decide (l ≤ k ∧ Phas n l m)) := by
  unfold impl_Prefix_covers.f
  by_cases c : l ≤ k
  · rw [if_pos c, impl_has p]
    simp [c]
  · rw [if_neg c]
    simp [c]
theorem used_ok {t : List S30} (g : Tok t) {r : S30} (hr : r ∈ t) {k : Nat} (hk : t.length * 2 + 1 < k) : ∃ b, impl_isUsed.f k t r.f0.f0 r.f0.f1 r.f1 = some b ∧ (b = true ↔ Used t r) := by
  have z := Tok_iff.1 g
  have vr := z.1 r hr
  have h120 := g.2
  have pr := psz_le vr.1.1 vr.1.2.1
  have key : ∀ (d i k : Nat) (ins en : Int), i + d = t.length → d * 2 < k → Sc (t.take i) r ins en → ins ≤ 65536 → ∃ b, impl_isUsed.l0 k ins en t t.length i r.f0.f0 r.f0.f1 r.f1 = some b ∧ (b = true ↔ Used t r) := by
    intro d
    induction d with
    | zero =>
      intro i k ins en hi hk hS hl
      obtain ⟨k, rfl⟩ : ∃ m, k = m + 1 := ⟨k - 1, by omega⟩
      have e : i = t.length := by omega
      rw [e, List.take_length] at hS
      simp only [impl_isUsed.l0]
      rw [if_neg (by omega), impl_Size r.f0.f0 vr.1.1 vr.1.2.1]
      simp only [Option.bind_some]
      exact ⟨_, rfl, by rw [decide_eq_true_eq]; exact hS.done z.1 vr⟩
    | succ d ih =>
      intro i k ins en hi hk hS hl
      obtain ⟨k, rfl⟩ : ∃ m, k = m + 2 := ⟨k - 2, by omega⟩
      have hil : i < t.length := by omega
      have er : rd_T30 t (i : Int) = t[i] := rd_natR hil
      have et : t.take i ++ [t[i]] = t.take (i + 1) := by
        rw [List.take_add_one, List.getElem?_eq_getElem hil]
        rfl
      have vx := z.1 _ (List.getElem_mem hil)
      have e1 : wrap64 ((i : Int) + 1) = ((i + 1 : Nat) : Int) := by rw [w64 (by omega) (by omega)]; rfl
      have skip : ∀ a b c, Sc (t.take (i + 1)) r ins en → ∃ bb, impl_isUsed.j1 (k + 1) ins en t t.length i false r.f0.f0 r.f0.f1 r.f1 a b c = some bb ∧ (bb = true ↔ Used t r) := fun a b c hs => by
        simp only [impl_isUsed.j1]
        rw [if_neg (by decide), w64 (by omega) (by omega), show (i : Int) + 1 = ((i + 1 : Nat) : Int) by omega]
        exact ih (i + 1) k ins en (by omega) (by omega) hs hl
      clear e1
      simp only [impl_isUsed.l0]
      rw [if_pos (by omega), if_pos (by omega), if_pos (by omega), er]
      by_cases c : t[i] = r
      · have eb : ((!(t[i].f0.f0 == r.f0.f0) || (!(t[i].f0.f1 == r.f0.f1))) || (!(t[i].f1 == r.f1))) = false := by rw [c]; simp
        rw [eb, if_neg (by decide)]
        refine skip _ _ _ ?_
        rw [← et]
        exact hS.out (fun h => h.1 c)
      · have eb : ((!(t[i].f0.f0 == r.f0.f0) || (!(t[i].f0.f1 == r.f0.f1))) || (!(t[i].f1 == r.f1))) = true := by
          by_cases c1 : t[i].f0.f0 = r.f0.f0
          · by_cases c2 : t[i].f0.f1 = r.f0.f1
            · exact absurd (g.one.2 _ (List.getElem_mem hil) r hr c1 c2) c
            · simp [c2]
          · simp [c1]
        rw [eb, if_pos rfl, impl_cov vr.1]
        simp only [Option.bind_some]
        by_cases c2 : r.f0.f1 ≤ t[i].f0.f1 ∧ Phas r.f0.f0 r.f0.f1 t[i].f0.f0
        · rw [decide_eq_true c2, if_pos rfl]
          by_cases c3 : t[i].f0.f0 > en
          · rw [decide_eq_true c3]
            have hs := hS.new (x := t[i]) ⟨c, c2.1, c2.2⟩ c3
            rw [et] at hs
            have px := psz_le vx.1.1 vx.1.2.1
            have pp := psz_pos t[i].f0.f1
            have x3 := vx.1.2.2.1
            have x4 := vx.1.2.2.2.1
            have lim : ins + psz t[i].f0.f1 ≤ 65536 := by
              obtain ⟨E, h1, _, _, h4, _⟩ := hs
              rcases h1 with ⟨_, e, _⟩ | ⟨e, _⟩
              · omega
              · have tp := Pok.top vx.1
                have r3 := vr.1.2.2.1
                omega
            simp only [impl_isUsed.j1]
            rw [if_pos trivial, impl_Size t[i].f0.f0 vx.1.1 vx.1.2.1]
            simp only [Option.bind_some]
            have h0 := hS
            obtain ⟨_, _, _, i0, _, _⟩ := h0
            rw [w64 (n := ins + psz t[i].f0.f1) (by omega) (by omega), w64 (n := t[i].f0.f0 + psz t[i].f0.f1) (by omega) (by omega), w64 (n := t[i].f0.f0 + psz t[i].f0.f1 - 1) (by omega) (by omega), w64 (n := (i : Int) + 1) (by omega) (by omega), show (i : Int) + 1 = ((i + 1 : Nat) : Int) by omega]
            exact ih (i + 1) k _ _ (by omega) (by omega) hs lim
          · rw [decide_eq_false c3]
            refine skip _ _ _ ?_
            rw [← et]
            refine hS.old (fun q hq => ?_) vx ⟨c, c2.1, c2.2⟩ c3
            obtain ⟨j, hj, ej⟩ := List.mem_take_iff_getElem.1 hq
            have ar := List.pairwise_iff_getElem.1 z.2.1 j i (by omega) hil (by omega)
            rw [ej] at ar
            exact ⟨z.1 q (List.mem_of_mem_take hq), ar⟩
        · rw [decide_eq_false c2, if_neg (by decide)]
          refine skip _ _ _ ?_
          rw [← et]
          exact hS.out (fun h => c2 ⟨h.2.1, h.2.2⟩)
  unfold impl_isUsed.f
  have e0 : ((0 : Nat) : Int) = 0 := rfl
  have start : Sc (t.take 0) r 0 (-1) := by
    have no : ∀ q, ¬ Inn (t.take 0) r q := fun q hq => by
      have := hq.1
      rw [List.take_zero] at this
      cases this
    refine ⟨r.f0.f0 - 1, .inl ⟨rfl, rfl, no⟩, fun q hq => absurd hq (no q), Int.le_refl _, by omega, ?_⟩
    exact ⟨fun _ a a1 a2 => by omega, fun _ => by omega⟩
  have q := key t.length 0 k 0 (-1) (by omega) (by omega) start (by omega)
  rw [e0] at q
  exact q
def notOver (r q : S30) : Bool := if q.f0.f1 ≤ r.f0.f1 ∧ Has q r.f0.f0 then (q.f0.f0 == r.f0.f0 && q.f0.f1 == r.f0.f1) && q.f1 == r.f1 else true
theorem others_eq (t : List S30) (r : S30) : others t r = t.filter fun q => !notOver r q := rfl
theorem clo_ok {q : S30} (vq : VR q) (r : S30) : impl_isRedundant_1.f q.f0.f0 q.f0.f1 q.f1 [r] = some (notOver r q) := by
  have e : rd_T30 [r] 0 = r := rfl
  unfold impl_isRedundant_1.f notOver
  rw [if_pos (by simp), e, impl_cov vq.1]
  simp only [Option.bind_some]
  by_cases c : q.f0.f1 ≤ r.f0.f1 ∧ Phas q.f0.f0 q.f0.f1 r.f0.f0
  · rw [decide_eq_true c, if_pos rfl, if_pos (show q.f0.f1 ≤ r.f0.f1 ∧ Has q r.f0.f0 from c)]
  · rw [decide_eq_false c, if_neg (by decide), if_neg (show ¬ (q.f0.f1 ≤ r.f0.f1 ∧ Has q r.f0.f0) from c)]
theorem getD_R {x : List S30} {i : Nat} (h : i < x.length) : rd_T30 x (i : Int) = x.getD i z30 := by
  rw [rd_natR h, List.getD_eq_getElem?_getD, List.getElem?_eq_getElem h]
  rfl
theorem del_ok {t : List S30} (h : t.length ≤ 1048576) (hv : ∀ q ∈ t, VR q) (r : S30) {k : Nat} (hk : t.length < k) : slices_DeleteFunc_impl_Route_impl_Route.f k t [r] = some (others t r) := by
  have hvr : ∀ (x : List S30) (i : Nat), (∀ q ∈ x, VR q) → i < x.length → VR (rd_T30 x (i : Int)) := fun x i hx hi => by
    rw [rd_natR hi]; exact hx _ (List.getElem_mem hi)
  have hi := index_loop (F := fun k i => slices_IndexFunc_impl_Route_impl_Route.l0 k t (t.length : Int) i [r]) (p := notOver r) z30 t (fun k i hi => by
    show slices_IndexFunc_impl_Route_impl_Route.l0 (k + 1) t (t.length : Int) i [r] = _
    simp only [slices_IndexFunc_impl_Route_impl_Route.l0]
    rw [if_pos (by omega), if_pos (by omega), if_pos (by omega), clo_ok (hvr t i hv hi), getD_R hi, w64 (by omega) (by omega)]
    simp only [Option.bind_some]) (fun k => by
    show slices_IndexFunc_impl_Route_impl_Route.l0 (k + 1) t (t.length : Int) (t.length : Int) [r] = _
    simp only [slices_IndexFunc_impl_Route_impl_Route.l0]
    rw [if_neg (by omega)]) t.length k 0 (by omega) hk
  unfold slices_DeleteFunc_impl_Route_impl_Route.f slices_IndexFunc_impl_Route_impl_Route.f
  rw [others_eq]
  rcases hi with ⟨h1, h2⟩ | ⟨j, h1, h2, h3, h4, h5⟩
  · have h1' : slices_IndexFunc_impl_Route_impl_Route.l0 k t (t.length : Int) 0 [r] = some (-1) := h1
    rw [h1', filter_none z30 t (fun q hq => h2 q (Nat.zero_le _) hq)]
    simp only [Option.bind_some, if_true]
  · have h1' : slices_IndexFunc_impl_Route_impl_Route.l0 k t (t.length : Int) 0 [r] = some (j : Int) := h1
    rw [h1']
    simp only [Option.bind_some]
    rw [if_neg (by omega), w64 (by omega) (by omega), ← filter_at z30 t h3 h4 (fun q hq => h5 q (Nat.zero_le _) hq)]
    have e1 : (j : Int) + 1 = ((j + 1 : Nat) : Int) := by omega
    rw [e1]
    have gen : ∀ (d k : Nat) (x : List S30) (i j : Nat), (∀ q ∈ x, VR q) → j + d = t.length → i < j → x.length = t.length → d < k → slices_DeleteFunc_impl_Route_impl_Route.l0 k x i j [r] = some (x.take i ++ (x.drop j).filter (fun y => !notOver r y)) := by
      intro d
      induction d with
      | zero =>
        intro k x i j hx hj hi hl hk
        obtain ⟨k, rfl⟩ : ∃ m, k = m + 1 := ⟨k - 1, by omega⟩
        simp only [slices_DeleteFunc_impl_Route_impl_Route.l0]
        rw [if_neg (by omega), if_pos (by omega), if_pos (by omega), Int.toNat_natCast, List.take_left' (by rw [List.length_take]; omega), List.drop_eq_nil_of_le (by omega)]
        simp
      | succ d ih =>
        intro k x i j hx hj hi hl hk
        obtain ⟨k, rfl⟩ : ∃ m, k = m + 1 := ⟨k - 1, by omega⟩
        have hjx : j < x.length := by omega
        have vj := hvr x j hx hjx
        have ej : rd_T30 x (j : Int) = x.getD j z30 := getD_R hjx
        simp only [slices_DeleteFunc_impl_Route_impl_Route.l0]
        rw [if_pos (by omega), if_pos (by omega), clo_ok vj, ej, w64 (n := (j : Int) + 1) (by omega) (by omega), w64 (n := (i : Int) + 1) (by omega) (by omega), drop_cons' x z30 hjx, List.filter_cons]
        simp only [Option.bind_some]
        rw [show (j : Int) + 1 = ((j + 1 : Nat) : Int) by omega, show (i : Int) + 1 = ((i + 1 : Nat) : Int) by omega]
        by_cases c : notOver r (x.getD j z30) = true
        · rw [if_pos c, ih k x i (j + 1) hx (by omega) (by omega) hl (by omega), c]
          rfl
        · have c' : notOver r (x.getD j z30) = false := by simpa using c
          have vx : VR (x.getD j z30) := by rw [← ej]; exact vj
          rw [if_neg c, if_pos (by omega), if_pos (by omega), Int.toNat_natCast]
          have hset : i < (x.set i (x.getD j z30)).length := by rw [List.length_set]; omega
          have q := ih k (x.set i (x.getD j z30)) (i + 1) (j + 1) (fun w hw => by
            rcases List.mem_or_eq_of_mem_set hw with hw | hw
            · exact hx w hw
            · rw [hw]; exact vx) (by omega) (by omega) (by rw [List.length_set]; exact hl) (by omega)
          rw [c']
          refine q.trans ?_
          rw [take_snoc' _ z30 hset, List.drop_set_of_lt (by omega), List.take_set_of_le (Nat.le_refl _), List.getD_eq_getElem?_getD (l := x.set i _), List.getElem?_set, if_pos rfl, if_pos (by omega)]
          simp
    exact gen (t.length - (j + 1)) k t j (j + 1) hv (by omega) (by omega) rfl (by omega)
theorem red_ok {t : List S30} (g : Tok t) {r : S30} (hr : r ∈ t) {k : Nat} (hk : t.length * 2 + 1 < k) : ∃ b, impl_isRedundant.f k t r.f0.f0 r.f0.f1 r.f1 = some b ∧ (b = true ↔ Idle t r) := by
  have z := Tok_iff.1 g
  have h120 := g.2
  obtain ⟨b, h1, h2⟩ := used_ok g hr hk
  have ii := idle_iff g.one hr
  have er : (⟨⟨r.f0.f0, r.f0.f1⟩, r.f1⟩ : S30) = r := rfl
  have ol : (others t r).length ≤ t.length := by unfold others; exact List.length_filter_le ..
  have og : Tok (others t r) := g.sub (by unfold others; exact List.filter_sublist)
  unfold impl_isRedundant.f
  rw [h1]
  simp only [Option.bind_some]
  by_cases u : b = true
  · have hu := h2.1 u
    have cl : slices_Clone_impl_Route_impl_Route.f t = some t := by
      unfold slices_Clone_impl_Route_impl_Route.f
      rw [if_pos (by omega)]
    rw [if_pos u, cl]
    simp only [Option.bind_some]
    rw [er, del_ok (by omega) z.1 r (by omega)]
    simp only [Option.bind_some]
    rw [impl_bestl (by omega) og.1 r.f0.f0 (by omega)]
    simp only [Option.bind_some, bout]
    by_cases c : (bestOf r.f0.f0 (others t r)).1 = true
    · rw [if_pos c]
      refine ⟨_, rfl, ?_⟩
      rw [beq_iff_eq, ii]
      exact ⟨fun h => .inr ⟨c, h⟩, fun h => h.elim (fun h => absurd hu h) (fun h => h.2)⟩
    · rw [if_neg c]
      refine ⟨_, rfl, ?_⟩
      rw [ii]
      exact ⟨(fun h => by cases h), fun h => h.elim (fun h => absurd hu h) (fun h => absurd h.1 c)⟩
  · rw [if_neg u]
    exact ⟨true, rfl, ⟨fun _ => ii.2 (.inl (fun h => u (h2.2 h))), fun _ => rfl⟩⟩
theorem impl_DropH {u : List S30} (g : Tok u) {a b : Int} (hp : Pok a b) (hit : ∃ j : Nat, j < u.length ∧ isR a b (rd_T30 u (j : Int)) = true) {k : Nat} (hk : u.length + 1000 < k) : impl_DropRoute.f k u a b = some (u.filter (fun q => !isR a b q), true) := by
  have g2 := g.2
  have own : impl_ownTable.f u = some u := by
    unfold impl_ownTable.f slices_Clone_impl_Route_impl_Route.f
    rw [if_pos (by omega)]
    rfl
  obtain ⟨p, p0, p1, p2⟩ := place g.1 a b
  have hh : p < u.length ∧ isR a b (rd_T30 u (p : Int)) = true := by
    obtain ⟨q, hq, e⟩ := hit
    have e' := of_decide_eq_true e
    rcases Nat.lt_trichotomy q p with hh | hh | hh
    · have z := p1 q hh
      unfold Ahead at z
      omega
    · subst hh
      exact ⟨hq, e⟩
    · have z := tok_asc g.1 q p hh hq
      have z2 := p2 p (Nat.le_refl _) (by omega)
      rw [e'.1, e'.2] at z
      exact absurd z z2
  have e := drop_one g.1 hh.1 hh.2
  obtain ⟨b2, i1, i2⟩ := impl_tab (show u.length ≤ 1048576 by omega) (k := k) (by omega)
  have z := bs_at (by omega) g.1 hp p0 p1 p2 u.length 0 u.length k (by omega) (by omega) (by omega) (Nat.le_refl _) (by omega)
  have e0 : ((0 : Nat) : Int) = 0 := rfl
  rw [e0, decide_eq_true hh] at z
  have hl := hh.1
  unfold impl_DropRoute.f impl_findRoute.f slices_BinarySearchFunc_impl_Route_impl_Route_impl_Prefix.f
  rw [own, i1]
  simp only [Option.bind_some]
  rw [if_pos (i2.2 g), z]
  simp only [Option.bind_some, if_true]
  unfold slices_Delete_impl_Route_impl_Route.f
  rw [if_pos (by omega), if_pos (by omega), w64 (by omega) (by omega), if_pos rfl, e]
  rfl
theorem rd_mem {o : List Int} {i : Int} (h0 : 0 ≤ i) (h : i < o.length) : rd o i ∈ o := by
  unfold rd
  rw [List.getD_eq_getElem?_getD, List.getElem?_eq_getElem (by omega)]
  exact List.getElem_mem _
theorem and255 (x : Int) : 0 ≤ Go.bits .and .i64 x 255 ∧ Go.bits .and .i64 x 255 ≤ 255 := by
  have e : Go.bits .and .i64 x 255 = IntKind.i64.wrap (((BitVec.ofInt 64 x).toNat &&& (BitVec.ofInt 64 255).toNat : Nat) : Int) := by
    simp only [Go.bits]
    rw [← BitVec.toNat_and]
    rfl
  have h : (BitVec.ofInt 64 x).toNat &&& (BitVec.ofInt 64 255).toNat ≤ 255 := Nat.and_le_right
  generalize (BitVec.ofInt 64 x).toNat &&& (BitVec.ofInt 64 255).toNat = m at e h
  rw [e, IntKind.wrap_i64]
  omega
theorem byte_ok (b : List Int) {i : Int} (h : Int) (hi : 0 ≤ i) (hb : b.length ≤ 1048576) : ∃ r i' h', spec_l01Byte.f b i h = some (r, i', h') ∧ (0 ≤ r ∧ r ≤ 255) ∧ 0 ≤ i' := by
  unfold spec_l01Byte.f
  by_cases c : i < (b.length : Int)
  · rw [if_pos c, if_pos hi]
    exact ⟨_, _, _, rfl, and255 _, by rw [w64 (by omega) (by omega)]; omega⟩
  · rw [if_neg c]
    exact ⟨_, _, _, rfl, and255 _, hi⟩
theorem tmod_ok {a n : Int} (h0 : 0 ≤ a) (h1 : 0 < n) : 0 ≤ Int.tmod a n ∧ Int.tmod a n < n := by
  rw [Int.tmod_eq_emod_of_nonneg h0]
  exact ⟨Int.emod_nonneg _ (by omega), Int.emod_lt_of_pos _ h1⟩
theorem below_ok (b : List Int) {i : Int} (h : Int) (hi : 0 ≤ i) (hb : b.length ≤ 1048576) (n : Int) : ∃ r i' h', spec_l01Below.f b i h n = some (r, i', h') ∧ 0 ≤ i' ∧ 0 ≤ r ∧ (0 < n → r < n) ∧ (n ≤ 0 → r = 0) := by
  unfold spec_l01Below.f
  by_cases c : n ≤ 0
  · rw [if_pos c]
    exact ⟨_, _, _, rfl, hi, Int.le_refl _, fun h => by omega, fun _ => rfl⟩
  · rw [if_neg c]
    obtain ⟨r1, i1, h1, e1, p1, q1⟩ := byte_ok b h hi hb
    rw [e1]
    simp only [Option.bind_some]
    by_cases c2 : n ≤ 256
    · rw [if_pos c2, if_neg (by omega)]
      have z := tmod_ok p1.1 (show 0 < n by omega)
      exact ⟨_, _, _, rfl, q1, z.1, fun _ => z.2, fun h => by omega⟩
    · rw [if_neg c2]
      obtain ⟨r2, i2, h2, e2, p2, q2⟩ := byte_ok b h1 q1 hb
      rw [e2]
      simp only [Option.bind_some]
      obtain ⟨r3, i3, h3, e3, p3, q3⟩ := byte_ok b h2 q2 hb
      rw [e3]
      simp only [Option.bind_some]
      have z := tmod_ok (a := r1 * 65536 + r2 * 256 + r3) (by omega) (show 0 < n by omega)
      rw [if_neg (by omega), w64 (n := r1 * 65536) (by omega) (by omega), w64 (n := r2 * 256) (by omega) (by omega), w64 (n := r1 * 65536 + r2 * 256) (by omega) (by omega), w64 (n := r1 * 65536 + r2 * 256 + r3) (by omega) (by omega)]
      exact ⟨_, _, _, rfl, q3, z.1, fun _ => z.2, fun h => by omega⟩
theorem pick_ok (b : List Int) {i : Int} (h : Int) (hi : 0 ≤ i) (hb : b.length ≤ 1048576) {l : List Int} (hl : 0 < l.length) : ∃ r i' h', spec_l01PickInt.f b i h l = some (r, i', h') ∧ 0 ≤ i' ∧ r ∈ l := by
  unfold spec_l01PickInt.f
  obtain ⟨r, i', h', e, p, q0, q, -⟩ := below_ok b h hi hb (l.length : Int)
  rw [e]
  simp only [Option.bind_some]
  have q1 := q (by omega)
  rw [if_pos q0, if_pos q1]
  exact ⟨_, _, _, rfl, p, rd_mem q0 q1⟩
theorem once_ok (b : List Int) {i : Int} (h : Int) (hi : 0 ≤ i) (hb : b.length ≤ 1048576) (n : Int) : ∃ r i' h', spec_l01Once.f b i h n = some (r, i', h') ∧ 0 ≤ i' := by
  unfold spec_l01Once.f
  obtain ⟨r, i', h', e, p, -⟩ := below_ok b h hi hb n
  rw [e]
  simp only [Option.bind_some]
  exact ⟨_, _, _, rfl, p⟩
theorem new_ok {l : List Int} (hl : l.length ≤ 1048576) {k : Nat} (hk : 4001 < k) : ∃ h, spec_l01New.f k l = some (l, 0, h) := by
  have key : ∀ (d i k : Nat) (x : Int), i + d = 4000 → d < k → ∃ h, spec_l01New.l0 k l x i = some (l, 0, h) := by
    intro d
    induction d with
    | zero =>
      intro i k x hi hk
      obtain ⟨k, rfl⟩ : ∃ m, k = m + 1 := ⟨k - 1, by omega⟩
      simp only [spec_l01New.l0]
      rw [if_neg (c := (i : Int) < 4000) (by omega)]
      by_cases c : (i : Int) < (l.length : Int)
      · rw [if_pos c]; exact ⟨_, rfl⟩
      · rw [if_neg c]; exact ⟨_, rfl⟩
    | succ d ih =>
      intro i k x hi hk
      obtain ⟨k, rfl⟩ : ∃ m, k = m + 1 := ⟨k - 1, by omega⟩
      simp only [spec_l01New.l0]
      rw [if_pos (c := (i : Int) < 4000) (by omega)]
      by_cases c : (i : Int) < (l.length : Int)
      · rw [if_pos c, if_pos (by omega), wr1 (by omega)]
        exact ih (i + 1) k _ (by omega) (by omega)
      · rw [if_neg c]; exact ⟨_, rfl⟩
  exact key 4000 0 k _ (by omega) (by omega)
theorem ex_bind {α β : Type} {o : Option α} {f : α → Option β} {Q : β → Prop} (a : α) (h : o = some a) (h2 : ∃ b, f a = some b ∧ Q b) : ∃ b, o.bind f = some b ∧ Q b := by
  obtain ⟨b, h3, h4⟩ := h2
  exact ⟨b, by rw [h]; exact h3, h4⟩
theorem ex_pos {β : Type} {p : Prop} [Decidable p] {x y : Option β} {Q : β → Prop} (h : p) (h2 : ∃ b, x = some b ∧ Q b) : ∃ b, (if p then x else y) = some b ∧ Q b := by
  rw [if_pos h]; exact h2
theorem ex_neg {β : Type} {p : Prop} [Decidable p] {x y : Option β} {Q : β → Prop} (h : ¬ p) (h2 : ∃ b, y = some b ∧ Q b) : ∃ b, (if p then x else y) = some b ∧ Q b := by
  rw [if_neg h]; exact h2
theorem draw_prefix {b : List Int} (hb : b.length ≤ 1048576) {i : Int} (h : Int) (hi : 0 ≤ i) : ∃ n l i' h', spec_l01DrawPrefix.f b i h = some (n, l, i', h') ∧ 0 ≤ i' := by
  unfold spec_l01DrawPrefix.f
  obtain ⟨r1, i1, h1, e1, p1, a1, b1, -⟩ := below_ok b h hi hb 17
  have b1 := b1 (by omega)
  rw [e1, Option.bind_some]
  obtain ⟨r2, i2, h2, e2, p2, a2, b2, -⟩ := below_ok b h1 p1 hb 9
  have b2 := b2 (by omega)
  rw [e2, Option.bind_some]
  obtain ⟨r3, i3, h3, e3, p3, a3, b3, -⟩ := below_ok b h2 p2 hb 9
  have b3 := b3 (by omega)
  rw [e3, Option.bind_some]
  rw [w64 (n := 8 + r2) (by omega) (by omega), w64 (n := 8 + r3) (by omega) (by omega)]
  obtain ⟨r4, i4, h4, e4, p4, m4⟩ := pick_ok b h3 p3 hb (l := [0, 1, 4, 8, 12, 15, 16, r1, 8 + r2, 8 + r3]) (by simp)
  have m4' : 0 ≤ r4 ∧ r4 ≤ 16 := by
    simp only [List.mem_cons, List.not_mem_nil, or_false] at m4
    omega
  rw [e4, Option.bind_some]
  obtain ⟨r5, i5, h5, e5, p5, -⟩ := below_ok b h4 p4 hb 65536
  rw [e5, Option.bind_some]
  obtain ⟨r6, i6, h6, e6, p6, -⟩ := below_ok b h5 p5 hb 2048
  rw [e6, Option.bind_some]
  obtain ⟨r7, i7, h7, e7, p7, -⟩ := pick_ok b h6 p6 hb (l := [0, 2560, r5, r6]) (by simp)
  have z := psz_pos r4
  rw [e7, Option.bind_some, spec_Size m4'.1 m4'.2, Option.bind_some, if_neg (by omega)]
  obtain ⟨r8, i8, h8, e8, p8⟩ := once_ok b h7 p7 hb 30
  rw [e8, Option.bind_some]
  by_cases c : r8 = true
  · rw [if_pos c]
    obtain ⟨r9, i9, h9, e9, p9, -⟩ := below_ok b h8 p8 hb 3
    rw [e9, Option.bind_some]
    by_cases c0 : r9 = 0
    · rw [if_pos c0]
      obtain ⟨r10, i10, h10, e10, p10, -⟩ := pick_ok b h9 p9 hb (l := [-1, 17, 3]) (by simp)
      rw [e10, Option.bind_some]
      exact ⟨_, _, _, _, rfl, p10⟩
    · rw [if_neg c0]
      by_cases c1 : r9 = 1
      · rw [if_pos c1]
        obtain ⟨r10, i10, h10, e10, p10, -⟩ := pick_ok b h9 p9 hb (l := [-1, 65536, 1, 65535]) (by simp)
        rw [e10, Option.bind_some]
        exact ⟨_, _, _, _, rfl, p10⟩
      · rw [if_neg c1]
        by_cases c2 : r9 = 2
        · rw [if_pos c2]
          exact ⟨_, _, _, _, rfl, p9⟩
        · rw [if_neg c2]
          exact ⟨_, _, _, _, rfl, p9⟩
  · rw [if_neg c]
    exact ⟨_, _, _, _, rfl, p8⟩
theorem spec_samep {a b : List Int} (ha : a.length = 65536) (hb : b.length = 65536) {k : Nat} (hk : 65537 < k) : spec_l02SamePaint.f k a b = some (decide (a = b)) := by
  unfold spec_l02SamePaint.f
  obtain ⟨x, h1, h2⟩ := all_loop (F := fun k i => spec_l02SamePaint.l0 k a b i) (n := 65536) (P := fun j => rd a j = rd b j) (e := true) (fun k i hi _ => by
    show (rd a i = rd b i ∧ spec_l02SamePaint.l0 (k + 1) a b i = spec_l02SamePaint.l0 k a b ((i : Int) + 1)) ∨ (¬ rd a i = rd b i ∧ spec_l02SamePaint.l0 (k + 1) a b i = some false)
    simp only [spec_l02SamePaint.l0]
    rw [if_pos (by omega), if_pos (by omega), if_pos (by omega), if_pos (by omega)]
    by_cases c : rd a i = rd b i
    · rw [if_pos c, w64 (by omega) (by omega)]
      exact .inl ⟨c, rfl⟩
    · rw [if_neg c]
      exact .inr ⟨c, rfl⟩) (fun k _ => by
    show spec_l02SamePaint.l0 (k + 1) a b ((65536 : Nat) : Int) = some true
    simp only [spec_l02SamePaint.l0]
    rw [if_neg (by omega)]) 65536 k 0 (by omega) (by omega) (fun j hj => by omega)
  have h1' : spec_l02SamePaint.l0 k a b 0 = some x := h1
  rw [h1']
  congr 1
  rw [Bool.eq_iff_iff, h2, decide_eq_true_eq, ← rd_ext]
  exact ⟨fun z => ⟨by omega, fun j hj => z.1 j (by omega)⟩, fun z => ⟨fun j hj => z.2 j (by omega), rfl⟩⟩
theorem Is.fh {t : List S30} (g : Tok t) {a : Nat} {v : Int} (h : Is t (fun j => j < t.length) a v) : v = FH t a := by
  have cv : ∀ i : Nat, i < t.length → (Cv t i a ↔ Has (rd_T30 t (i : Int)) a) := fun i _ => by
    unfold Cv Has Phas
    omega
  rcases h with ⟨j, hj, h1, rfl, h3⟩ | ⟨rfl, h2⟩
  · have hm : rd_T30 t (j : Int) ∈ t := by rw [rd_natR hj]; exact List.getElem_mem hj
    refine (FH_some g.one hm ((cv j hj).1 h1) (fun q hq hqa => ?_)).1.symm
    obtain ⟨i, hi, rfl⟩ := List.mem_iff_getElem.1 hq
    rw [← rd_natR hi] at hqa ⊢
    exact h3 i hi ((cv i hi).2 hqa)
  · refine (FH_none (fun q hq hqa => ?_)).symm
    obtain ⟨i, hi, rfl⟩ := List.mem_iff_getElem.1 hq
    rw [← rd_natR hi] at hqa
    exact h2 i hi ((cv i hi).2 hqa)
/-- What a table paints is what it answers. -/
theorem paint_FH {t u : List S30} (g : Tok t) (gu : Tok u) {o p : List Int} (lo : o.length = 65536) (lp : p.length = 65536) (ho : ∀ a : Nat, a < 65536 → Is t (fun j => j < t.length) a (rd o a)) (hp : ∀ a : Nat, a < 65536 → Is u (fun j => j < u.length) a (rd p a)) :
    o = p ↔ ∀ a : Nat, a < 65536 → FH t a = FH u a := by
  constructor
  · intro e a ha
    rw [← (ho a ha).fh g, ← (hp a ha).fh gu, e]
  · intro e
    refine rd_ext.1 ⟨by omega, fun j hj => ?_⟩
    rw [(ho j (by omega)).fh g, (hp j (by omega)).fh gu]
    exact e j (by omega)
theorem same_tab {t u : List S30} (g : Tok t) (gu : Tok u) : ∃ b : Bool, (b = true ↔ ∀ a : Nat, a < 65536 → FH t a = FH u a) ∧ ∀ k, 200000000 < k → spec_SameTable.f k t u = some b ∧ impl_SameTable.f k t u = some b := by
  have h1 := g.2
  have h2 := gu.2
  obtain ⟨o, o1, o2, o3⟩ := both_paint g
  obtain ⟨p, p1, p2, p3⟩ := both_paint gu
  refine ⟨decide (o = p), by rw [decide_eq_true_eq]; exact paint_FH g gu o1 p1 o2 p2, fun k hk => ?_⟩
  obtain ⟨b1, s1, s2⟩ := spec_Tok (t := t) (by omega) (k := k) (by omega)
  obtain ⟨c1, i1, i2⟩ := impl_tab (t := t) (by omega) (k := k) (by omega)
  obtain ⟨b2, s3, s4⟩ := spec_Tok (t := u) (by omega) (k := k) (by omega)
  obtain ⟨c2, i3, i4⟩ := impl_tab (t := u) (by omega) (k := k) (by omega)
  unfold spec_SameTable.f impl_SameTable.f
  rw [s1, s3, i1, i3, s2.2 g, s4.2 gu, i2.2 g, i4.2 gu]
  simp only [Option.bind_some, if_true]
  rw [(o3 k hk).1, (o3 k hk).2, (p3 k hk).1, (p3 k hk).2]
  simp only [Option.bind_some]
  rw [spec_samep o1 p1 (by omega), impl_same (by omega) (by omega)]
  exact ⟨rfl, rfl⟩
theorem spansi {o : List Int} (ho : o.length = 65536) : ∀ (d i : Nat) (acc : List Int), i + d = 65536 → 1 ≤ i → acc.length ≤ i → ∃ r, r.length ≤ 65536 ∧ ∀ k, d < k → impl_TableSpans.l0 k o acc i = some r := by
  intro d
  induction d with
  | zero =>
    intro i acc hi h1 ha
    refine ⟨acc, by omega, fun k hk => ?_⟩
    obtain ⟨k, rfl⟩ : ∃ m, k = m + 1 := ⟨k - 1, by omega⟩
    simp only [impl_TableSpans.l0]; rw [if_neg (by omega)]
  | succ d ih =>
    intro i acc hi h1 ha
    have e : ((i + 1 : Nat) : Int) = (i : Int) + 1 := by omega
    by_cases c : rd o i = rd o ((i : Int) - 1)
    · obtain ⟨r, r1, r2⟩ := ih (i + 1) acc (by omega) (by omega) (by omega)
      refine ⟨r, r1, fun k hk => ?_⟩
      obtain ⟨k, rfl⟩ : ∃ m, k = m + 1 := ⟨k - 1, by omega⟩
      have a := r2 k (by omega)
      rw [e] at a
      simp only [impl_TableSpans.l0]
      rw [w64 (n := (i : Int) - 1) (by omega) (by omega), w64 (n := (i : Int) + 1) (by omega) (by omega), if_pos (by omega), if_pos (by omega), if_pos (by omega), if_pos (by omega), if_pos c]
      exact a
    · obtain ⟨r, r1, r2⟩ := ih (i + 1) (acc ++ [(i : Int)]) (by omega) (by omega) (by rw [List.length_append]; simp only [List.length_cons, List.length_nil]; omega)
      refine ⟨r, r1, fun k hk => ?_⟩
      obtain ⟨k, rfl⟩ : ∃ m, k = m + 1 := ⟨k - 1, by omega⟩
      have a := r2 k (by omega)
      rw [e] at a
      simp only [impl_TableSpans.l0]
      rw [w64 (n := (i : Int) - 1) (by omega) (by omega), w64 (n := (i : Int) + 1) (by omega) (by omega), if_pos (by omega), if_pos (by omega), if_pos (by omega), if_pos (by omega), if_neg c, if_pos (by omega)]
      exact a
theorem span_tab {t u : List S30} (g : Tok t) (gu : Tok u) (e : ∀ a : Nat, a < 65536 → FH t a = FH u a) : ∃ r : List Int, r.length ≤ 65536 ∧ ∀ k, 200000000 < k → impl_TableSpans.f k t = some r ∧ impl_TableSpans.f k u = some r := by
  have h1 := g.2
  have h2 := gu.2
  obtain ⟨o, o1, o2, o3⟩ := both_paint g
  obtain ⟨p, p1, p2, p3⟩ := both_paint gu
  have eo := (paint_FH g gu o1 p1 o2 p2).2 e
  subst eo
  obtain ⟨r, r1, r2⟩ := spansi o1 65535 1 [0] (by omega) (by omega) (by simp)
  refine ⟨r, r1, fun k hk => ?_⟩
  obtain ⟨c1, i1, i2⟩ := impl_tab (t := t) (by omega) (k := k) (by omega)
  obtain ⟨c2, i3, i4⟩ := impl_tab (t := u) (by omega) (k := k) (by omega)
  unfold impl_TableSpans.f
  rw [i1, i3, i2.2 g, i4.2 gu]
  simp only [Option.bind_some, if_true]
  rw [(o3 k hk).2, (p3 k hk).2]
  simp only [Option.bind_some]
  exact ⟨r2 k (by omega), r2 k (by omega)⟩
/-- A route that does not hold an address can go. -/
theorem FH_rest {t : List S30} (g : Tok t) {r : S30} (hr : r ∈ t) {a : Int} (h : ¬ Has r a) : FH (t.filter fun q => !isR r.f0.f0 r.f0.f1 q) a = FH t a := by
  have mem := fun q => mem_rest (q := q) g.one hr
  have os : One (t.filter fun q => !isR r.f0.f0 r.f0.f1 q) := g.one.sub (fun q hq => ((mem q).1 hq).1)
  rcases best_cases a t with ⟨h1, h2⟩ | ⟨q, hq, h1, h2, h3⟩
  · rw [FH_none h2, FH_none (fun q hq => h2 q ((mem q).1 hq).1)]
  · have hn : q ≠ r := fun e => h (by rw [← e]; exact h1)
    rw [(FH_some g.one hq h1 h3).1, (FH_some os ((mem q).2 ⟨hq, hn⟩) h1 (fun x hx hxa => h3 x ((mem x).1 hx).1 hxa)).1]
theorem FH_idle {t : List S30} (g : Tok t) {r : S30} (hr : r ∈ t) (h : Idle t r) (a : Int) : FH (t.filter fun q => !isR r.f0.f0 r.f0.f1 q) a = FH t a := by
  by_cases c : Has r a
  · exact (h a c).symm
  · exact FH_rest g hr c
def Pick (t : List S30) (i : Nat) (f : Int) : Prop := (f = -1 ∧ ∀ q : Nat, q < i → ¬ Idle t (rd_T30 t (q : Int))) ∨ ∃ j : Nat, f = (j : Int) ∧ j < i ∧ Idle t (rd_T30 t (j : Int))
def E2 (t : List S30) (k : Nat) (f : Int) : Option (List S30 × Bool) := if f < 0 then some (t, true) else (slices_Delete_impl_Route_impl_Route.f t f (wrap64 (f + 1))).bind fun u => impl_Squeeze.l0 k u
theorem sel_i {t : List S30} (g : Tok t) : ∀ (d i : Nat) (f : Int), i + d = t.length → Pick t i f → ∃ f', Pick t t.length f' ∧ ∀ k, 1000 < k → impl_Squeeze.l1 (k + d + 1) f t t.length i t = E2 t k f' := by
  have h120 := g.2
  intro d
  induction d with
  | zero =>
    intro i f hi hf
    refine ⟨f, by rw [← hi]; exact hf, fun k hk => ?_⟩
    simp only [impl_Squeeze.l1]
    rw [if_neg (by omega)]
    rfl
  | succ d ih =>
    intro i f hi hf
    have hil : i < t.length := by omega
    have er : rd_T30 t (i : Int) = t[i] := rd_natR hil
    have e1 : (i : Int) + 1 = ((i + 1 : Nat) : Int) := by omega
    have hm : rd_T30 t (i : Int) ∈ t := by rw [er]; exact List.getElem_mem hil
    have fl : f = -1 ∨ (0 ≤ f ∧ f < i) := by
      rcases hf with ⟨h, _⟩ | ⟨j, h, h2, _⟩
      · exact .inl h
      · exact .inr (by omega)
    by_cases c : Idle t (rd_T30 t (i : Int))
    · have new : Pick t (i + 1) (i : Int) := .inr ⟨i, rfl, by omega, c⟩
      have old : 0 ≤ f → Pick t (i + 1) f := fun h0 => by
        rcases hf with ⟨h, _⟩ | ⟨j, h, h2, h3⟩
        · omega
        · exact .inr ⟨j, h, by omega, h3⟩
      by_cases c2 : f < 0 ∨ (rd_T30 t (i : Int)).f0.f1 > (rd_T30 t f).f0.f1
      · obtain ⟨f', p1, p2⟩ := ih (i + 1) i (by omega) new
        refine ⟨f', p1, fun k hk => ?_⟩
        have q2 := p2 k hk
        obtain ⟨b2, r1, r2⟩ := red_ok g hm (k := k + d + 1) (by omega)
        have ek : k + (d + 1) + 1 = (k + d + 1) + 1 := by omega
        rw [ek]
        generalize k + d + 1 = K at q2 r1 ⊢
        simp only [impl_Squeeze.l1]
        rw [if_pos (by omega), if_pos (by omega), if_pos (by omega), w64 (n := (i : Int) + 1) (by omega) (by omega), e1, r1]
        simp only [Option.bind_some]
        rw [if_pos (r2.2 c)]
        by_cases c3 : f < 0
        · rw [if_pos c3]; exact q2
        · rw [if_neg c3, if_pos (by omega), if_pos (by omega), if_pos (c2.resolve_left c3)]
          exact q2
      · obtain ⟨f', p1, p2⟩ := ih (i + 1) f (by omega) (old (by omega))
        refine ⟨f', p1, fun k hk => ?_⟩
        have q2 := p2 k hk
        obtain ⟨b2, r1, r2⟩ := red_ok g hm (k := k + d + 1) (by omega)
        have ek : k + (d + 1) + 1 = (k + d + 1) + 1 := by omega
        rw [ek]
        generalize k + d + 1 = K at q2 r1 ⊢
        simp only [impl_Squeeze.l1]
        rw [if_pos (by omega), if_pos (by omega), if_pos (by omega), w64 (n := (i : Int) + 1) (by omega) (by omega), e1, r1]
        simp only [Option.bind_some]
        rw [if_pos (r2.2 c), if_neg (fun z => c2 (.inl z)), if_pos (by omega), if_pos (by omega), if_neg (fun z => c2 (.inr z))]
        exact q2
    · have old : Pick t (i + 1) f := by
        rcases hf with ⟨h, h2⟩ | ⟨j, h, h2, h3⟩
        · refine .inl ⟨h, fun q hq => ?_⟩
          by_cases e : q = i
          · rw [e]; exact c
          · exact h2 q (by omega)
        · exact .inr ⟨j, h, by omega, h3⟩
      obtain ⟨f', p1, p2⟩ := ih (i + 1) f (by omega) old
      refine ⟨f', p1, fun k hk => ?_⟩
      have q2 := p2 k hk
      obtain ⟨b2, r1, r2⟩ := red_ok g hm (k := k + d + 1) (by omega)
      have ek : k + (d + 1) + 1 = (k + d + 1) + 1 := by omega
      rw [ek]
      generalize k + d + 1 = K at q2 r1 ⊢
      simp only [impl_Squeeze.l1]
      rw [if_pos (by omega), if_pos (by omega), if_pos (by omega), w64 (n := (i : Int) + 1) (by omega) (by omega), e1, r1]
      simp only [Option.bind_some]
      rw [if_neg (fun z => c (r2.1 z))]
      exact q2
theorem sqi_rounds : ∀ (m : Nat) (t : List S30), t.length ≤ m → Tok t → ∃ r : List S30, Tok r ∧ (∀ a, FH r a = FH t a) ∧ (∀ q ∈ r, ¬ Idle r q) ∧ ∀ k, 2000 + m * 200 < k → impl_Squeeze.l0 k t = some (r, true) := by
  intro m
  induction m with
  | zero =>
    intro t hm g
    have e : t = [] := List.eq_nil_of_length_eq_zero (by omega)
    obtain ⟨f', p1, p2⟩ := sel_i g t.length 0 (-1) (by omega) (.inl ⟨rfl, fun q hq => by omega⟩)
    rcases p1 with ⟨p1, _⟩ | ⟨j, _, hj, _⟩
    · refine ⟨t, g, fun _ => rfl, (fun q hq => by rw [e] at hq; cases hq), fun k hk => ?_⟩
      obtain ⟨k, rfl⟩ : ∃ j, k = (j + t.length + 1) + 1 := ⟨k - t.length - 2, by omega⟩
      have q2 := p2 k (by omega)
      have e0 : ((0 : Nat) : Int) = 0 := rfl
      rw [e0, p1] at q2
      simp only [impl_Squeeze.l0]
      rw [q2]
      rfl
    · omega
  | succ m ih =>
    intro t hm g
    have h120 := g.2
    obtain ⟨f', p1, p2⟩ := sel_i g t.length 0 (-1) (by omega) (.inl ⟨rfl, fun q hq => by omega⟩)
    have e0 : ((0 : Nat) : Int) = 0 := rfl
    rcases p1 with ⟨p1, pn⟩ | ⟨j, p1, hj, idl⟩
    · subst p1
      refine ⟨t, g, fun _ => rfl, fun q hq => ?_, fun k hk => ?_⟩
      · obtain ⟨i, hi, rfl⟩ := List.mem_iff_getElem.1 hq
        rw [← rd_natR hi]
        exact pn i hi
      · obtain ⟨k, rfl⟩ : ∃ j, k = (j + t.length + 1) + 1 := ⟨k - t.length - 2, by omega⟩
        have q2 := p2 k (by omega)
        rw [e0] at q2
        simp only [impl_Squeeze.l0]
        rw [q2]
        rfl
    · subst p1
      have el : (t.eraseIdx j).length = t.length - 1 := List.length_eraseIdx_of_lt hj
      have hmem : rd_T30 t (j : Int) ∈ t := by rw [rd_natR hj]; exact List.getElem_mem hj
      have dr := drop_one g.1 hj (a := (rd_T30 t (j : Int)).f0.f0) (b := (rd_T30 t (j : Int)).f0.f1) (decide_eq_true ⟨rfl, rfl⟩)
      obtain ⟨r, r1, r2, r3, r4⟩ := ih (t.eraseIdx j) (by omega) (g.sub (List.eraseIdx_sublist t j))
      refine ⟨r, r1, fun a => ?_, r3, fun k hk => ?_⟩
      · rw [r2 a, ← dr]
        exact FH_idle g hmem idl a
      · obtain ⟨k, rfl⟩ : ∃ j, k = (j + t.length + 1) + 1 := ⟨k - t.length - 2, by omega⟩
        have q2 := p2 k (by omega)
        have z2 := r4 k (by omega)
        rw [e0] at q2
        simp only [impl_Squeeze.l0]
        rw [q2]
        unfold E2
        rw [if_neg (by omega)]
        unfold slices_Delete_impl_Route_impl_Route.f
        rw [if_pos (by omega), if_pos (by omega), w64 (by omega) (by omega), if_pos rfl]
        simp only [Option.bind_some, Int.toNat_natCast]
        exact z2
theorem impl_Sq {t : List S30} (g : Tok t) : ∃ r : List S30, Tok r ∧ (∀ a, FH r a = FH t a) ∧ (∀ q ∈ r, ¬ Idle r q) ∧ ∀ k, 100000 < k → impl_Squeeze.f k t = some (r, true) := by
  have h120 := g.2
  obtain ⟨r, r1, r2, r3, r4⟩ := sqi_rounds t.length t (Nat.le_refl _) g
  refine ⟨r, r1, r2, r3, fun k hk => ?_⟩
  have own : impl_ownTable.f t = some t := by
    unfold impl_ownTable.f slices_Clone_impl_Route_impl_Route.f
    rw [if_pos (by omega)]
    rfl
  obtain ⟨c1, i1, i2⟩ := impl_tab (t := t) (by omega) (k := k) (by omega)
  unfold impl_Squeeze.f
  rw [own, i1]
  simp only [Option.bind_some]
  rw [if_pos (i2.2 g)]
  exact r4 k (by omega)
theorem halves_ok (n l : Int) : ∃ a b c d e, spec_Halves.f n l = some (a, b, c, d, e) := by
  unfold spec_Halves.f
  rw [spec_Pok]
  simp only [Option.bind_some, decide_eq_true_eq]
  by_cases h : Pok n l
  · rw [if_pos h]
    by_cases c : l = 16
    · rw [if_pos c]
      exact ⟨_, _, _, _, _, rfl⟩
    · obtain ⟨h1, h2, _⟩ := h
      rw [if_neg c, w64 (n := l + 1) (by omega) (by omega), spec_Size (by omega) (by omega)]
      simp only [Option.bind_some]
      exact ⟨_, _, _, _, _, rfl⟩
  · rw [if_neg h]
    exact ⟨_, _, _, _, _, rfl⟩
set_option maxRecDepth 8000 in
theorem putD {t : List S30} (h : t.length ≤ 1048000) (a b c : Int) {k : Nat} (hk : 2 * t.length + 3000 < k) : ∃ r ok, spec_PutRoute.f k t a b c = some (r, ok) ∧ r.length ≤ t.length + 1 := by
  obtain ⟨R, hRd⟩ : ∃ R : S30, R = ⟨⟨a, b⟩, c⟩ := ⟨_, rfl⟩
  obtain ⟨b1, s1, s2⟩ := spec_Tok (t := t) (by omega) (k := k) (by omega)
  unfold spec_PutRoute.f
  rw [s1]
  simp only [Option.bind_some]
  by_cases g : b1 = true
  · obtain ⟨o, ho⟩ : ∃ o, o = t.filter (fun r => !isR a b r) := ⟨_, rfl⟩
    have hol : o.length ≤ t.length := by rw [ho]; exact List.length_filter_le _ _
    have il := insP_len R o
    rw [if_pos g, spec_less (by omega) a b (by omega), ← ho]
    simp only [Option.bind_some]
    by_cases tk : Tok (insP R o)
    · have hj : ∀ k', t.length + 1000 ≤ k' → spec_PutRoute.j1 k' t (insP R o) = some (insP R o, true) := fun k' hk' => by
        obtain ⟨k', rfl⟩ : ∃ m, k' = m + 1 := ⟨k' - 1, by omega⟩
        obtain ⟨b2, u1, u2⟩ := spec_Tok (t := insP R o) (by omega) (k := k') (by omega)
        simp only [spec_PutRoute.j1]
        rw [u1]
        simp only [Option.bind_some]
        rw [if_pos (u2.2 tk)]
      have z := sput (t := t) R o (by omega) (M := t.length + 1000) (by omega) hj (k := k) (by omega)
      rw [hRd] at z il
      exact ⟨_, _, z, by omega⟩
    · have hj : ∀ k', t.length + 1000 ≤ k' → spec_PutRoute.j1 k' t (insP R o) = some (t, false) := fun k' hk' => by
        obtain ⟨k', rfl⟩ : ∃ m, k' = m + 1 := ⟨k' - 1, by omega⟩
        obtain ⟨b2, u1, u2⟩ := spec_Tok (t := insP R o) (by omega) (k := k') (by omega)
        simp only [spec_PutRoute.j1]
        rw [u1]
        simp only [Option.bind_some]
        rw [if_neg (fun x => tk (u2.1 x)), spec_copy (by omega) (by omega)]
        rfl
      have z := sput (t := t) R o (by omega) (M := t.length + 1000) (by omega) hj (k := k) (by omega)
      rw [hRd] at z
      exact ⟨_, _, z, by omega⟩
  · rw [if_neg g, spec_copy (by omega) (by omega)]
    exact ⟨_, _, rfl, by omega⟩
theorem table_end {b : List Int} (hb : b.length ≤ 1048576) {k : Nat} (q : Bool) {s1 : Int} (hs : 0 ≤ s1) (s2 : Int) {t : List S30} (ht : t.length ≤ 1000) (hq : q = true → 0 < t.length) : ∃ out s1' s2', spec_l02DrawTable.j2 (k + 1) q b s1 s2 t = some (out, s1', s2') ∧ out.length ≤ t.length + 1 ∧ 0 ≤ s1' := by
  simp only [spec_l02DrawTable.j2]
  by_cases c : q = true
  · have h0 := hq c
    rw [if_pos c]
    obtain ⟨r1, i1, h1, e1, p1, u1, v1, -⟩ := below_ok b s2 hs hb (t.length : Int)
    have v1 := v1 (by omega)
    rw [e1, Option.bind_some]
    obtain ⟨r2, i2, h2, e2, p2, -⟩ := below_ok b h1 p1 hb 3
    rw [e2, Option.bind_some]
    by_cases c1 : r2 = 0
    · rw [if_pos c1]
      obtain ⟨r3, i3, h3, e3, p3, -⟩ := pick_ok b h2 p2 hb (l := [(-1), 999, 1000]) (by simp)
      rw [e3, Option.bind_some]
      dsimp only
      rw [if_pos u1, if_pos v1]
      exact ⟨_, _, _, rfl, by rw [List.length_set]; omega, p3⟩
    · rw [if_neg c1]
      by_cases c2 : r2 = 1
      · rw [if_pos c2]
        obtain ⟨n, l, i3, h3, e3, p3⟩ := draw_prefix hb h2 p2
        rw [e3, Option.bind_some]
        dsimp only
        rw [if_pos u1, if_pos v1]
        exact ⟨_, _, _, rfl, by rw [List.length_set]; omega, p3⟩
      · rw [if_neg c2]
        by_cases c3 : r2 = 2
        · rw [if_pos c3, if_pos (by omega), if_pos (by omega)]
          exact ⟨_, _, _, rfl, by rw [List.length_append, List.length_singleton]; omega, p2⟩
        · rw [if_neg c3]
          exact ⟨_, _, _, rfl, by omega, p2⟩
  · rw [if_neg c]
    exact ⟨_, _, _, rfl, by omega, hs⟩
theorem table_ok {b : List Int} (hb : b.length ≤ 1048576) {n : Int} (hn : n ≤ 200) : ∀ (d i k : Nat) (s1 s2 : Int) (t : List S30), n ≤ (i : Int) + d → i + d ≤ 201 → 0 ≤ s1 → t.length ≤ i → d * 2 + 4000 < k →
    ∃ out s1' s2', spec_l02DrawTable.l0 k n i b s1 s2 t = some (out, s1', s2') ∧ out.length ≤ 1000 ∧ 0 ≤ s1' := by
  intro d
  induction d with
  | zero =>
    intro i k s1 s2 t hi h2 hs ht hk
    obtain ⟨k, rfl⟩ : ∃ m, k = m + 2 := ⟨k - 2, by omega⟩
    simp only [spec_l02DrawTable.l0]
    rw [if_neg (by omega)]
    obtain ⟨r1, i1, h1, e1, p1⟩ := once_ok b s2 hs hb 25
    rw [e1, Option.bind_some]
    dsimp only
    by_cases c : r1 = true
    · rw [if_pos c]
      obtain ⟨out, a1, a2, q1, q2, q3⟩ := table_end hb (k := k) (decide ((t.length : Int) > 0)) p1 h1 (t := t) (by omega) (fun q => by have := of_decide_eq_true q; omega)
      exact ⟨out, a1, a2, q1, by omega, q3⟩
    · rw [if_neg c]
      obtain ⟨out, a1, a2, q1, q2, q3⟩ := table_end hb (k := k) false p1 h1 (t := t) (by omega) (fun q => by cases q)
      exact ⟨out, a1, a2, q1, by omega, q3⟩
  | succ d ih =>
    intro i k s1 s2 t hi h2 hs ht hk
    by_cases ci : (i : Int) < n
    · obtain ⟨k, rfl⟩ : ∃ m, k = m + 2 := ⟨k - 2, by omega⟩
      have nx : ∀ (s1 s2 a c e : Int), 0 ≤ s1 → ∃ out s1' s2', (spec_PutRoute.f k t a c e).bind (fun bt => spec_l02DrawTable.l0 k n (wrap64 ((i : Int) + 1)) b s1 s2 bt.1) = some (out, s1', s2') ∧ out.length ≤ 1000 ∧ 0 ≤ s1' := fun s1 s2 a c e hs => by
        obtain ⟨r, ok, e1, e2⟩ := putD (t := t) (by omega) a c e (k := k) (by omega)
        rw [e1, Option.bind_some, wr1 (by omega)]
        exact ih (i + 1) k s1 s2 r (by omega) (by omega) hs (by omega) (by omega)
      have j1 : ∀ (q : Bool) (s1 s2 a c : Int), 0 ≤ s1 → (q = true → 0 < t.length) → ∃ out s1' s2', spec_l02DrawTable.j1 (k + 1) n i q b s1 s2 t a c = some (out, s1', s2') ∧ out.length ≤ 1000 ∧ 0 ≤ s1' := by
        intro q s1 s2 a c hs hq
        simp only [spec_l02DrawTable.j1]
        by_cases cq : q = true
        · have h0 := hq cq
          rw [if_pos cq]
          obtain ⟨r1, i1, h1, e1, p1, u1, v1, -⟩ := below_ok b s2 hs hb (t.length : Int)
          have v1 := v1 (by omega)
          rw [e1, Option.bind_some]
          dsimp only
          rw [if_pos u1, if_pos v1]
          obtain ⟨x1, x2, x3, x4, x5, hx⟩ := halves_ok (rd_T30 t r1).f0.f0 (rd_T30 t r1).f0.f1
          rw [hx, Option.bind_some]
          dsimp only
          by_cases c5 : x5 = true
          · rw [if_pos c5]
            obtain ⟨r2, i2, h2, e2, p2⟩ := once_ok b h1 p1 hb 2
            rw [e2, Option.bind_some]
            dsimp only
            by_cases c6 : r2 = true
            · rw [if_pos c6]
              obtain ⟨r3, i3, h3, e3, p3, -⟩ := below_ok b h2 p2 hb 4
              rw [e3, Option.bind_some]
              exact nx _ _ _ _ _ p3
            · rw [if_neg c6]
              obtain ⟨r3, i3, h3, e3, p3, -⟩ := below_ok b h2 p2 hb 4
              rw [e3, Option.bind_some]
              exact nx _ _ _ _ _ p3
          · rw [if_neg c5]
            obtain ⟨r3, i3, h3, e3, p3, -⟩ := below_ok b h1 p1 hb 4
            rw [e3, Option.bind_some]
            exact nx _ _ _ _ _ p3
        · rw [if_neg cq]
          obtain ⟨r3, i3, h3, e3, p3, -⟩ := below_ok b s2 hs hb 4
          rw [e3, Option.bind_some]
          exact nx _ _ _ _ _ p3
      simp only [spec_l02DrawTable.l0]
      rw [if_pos ci]
      obtain ⟨a, c, i1, h1, e1, p1⟩ := draw_prefix hb s2 hs
      rw [e1, Option.bind_some]
      dsimp only
      by_cases c1 : (t.length : Int) > 0
      · rw [if_pos c1]
        obtain ⟨r2, i2, h2, e2, p2⟩ := once_ok b h1 p1 hb 2
        rw [e2, Option.bind_some]
        exact j1 _ _ _ _ _ p2 (fun _ => by omega)
      · rw [if_neg c1]
        exact j1 _ _ _ _ _ p1 (fun q => by cases q)
    · exact ih i k s1 s2 t (by omega) (by omega) hs ht (by omega)
theorem same_ok {l : List Int} (hl : l.length ≤ 1048576) {k : Nat} (hk : l.length < k) : laws_same.f k l l = some true := by
  have key : ∀ (d i k : Nat), i + d = l.length → d < k → laws_same.l0 k l l i = some true := by
    intro d
    induction d with
    | zero =>
      intro i k hi hk
      obtain ⟨k, rfl⟩ : ∃ m, k = m + 1 := ⟨k - 1, by omega⟩
      simp only [laws_same.l0]
      rw [if_neg (by omega)]
    | succ d ih =>
      intro i k hi hk
      obtain ⟨k, rfl⟩ : ∃ m, k = m + 1 := ⟨k - 1, by omega⟩
      simp only [laws_same.l0]
      rw [if_pos (by omega), if_pos (by omega), if_pos (by omega), if_pos trivial, wr1 (by omega)]
      exact ih (i + 1) k (by omega) (by omega)
  unfold laws_same.f
  rw [if_pos rfl]
  exact key l.length 0 k (by omega) (by omega)
theorem size10_ok {l : List Int} (hl : l.length ≤ 1048576) : ∃ s, spec_l01Size.f l 10 = some s ∧ 0 < s ∧ s ≤ 10 := by
  unfold spec_l01Size.f
  rw [w64 (n := (l.length : Int) / 16) (by omega) (by omega), w64 (n := 2 + (l.length : Int) / 16) (by omega) (by omega)]
  by_cases c : 2 + (l.length : Int) / 16 > 10
  · rw [if_pos c]; exact ⟨_, rfl, by omega, by omega⟩
  · rw [if_neg c]; exact ⟨_, rfl, by omega, by omega⟩
theorem dsq_ok {l : List Int} (hl : l.length ≤ 1048576) {k : Nat} (hk : 10000 < k) : ∃ t : List S30, spec_DrawSqueeze.f k l = some t ∧ t.length ≤ 1000 := by
  obtain ⟨h0, e0⟩ := new_ok hl (k := k) (by omega)
  obtain ⟨s, e1, s1, s2⟩ := size10_ok hl
  obtain ⟨r1, i1, h1, q1, w1, u1, v1, -⟩ := below_ok l h0 (Int.le_refl 0) hl s
  have v1 := v1 s1
  unfold spec_DrawSqueeze.f
  rw [e0, Option.bind_some, e1, Option.bind_some]
  dsimp only
  rw [q1, Option.bind_some]
  dsimp only
  unfold spec_l02DrawTable.f
  obtain ⟨out, a1, a2, x1, x2, x3⟩ := table_ok hl (n := r1) (by omega) 200 0 k i1 h1 [] (by omega) (by omega) w1 (Nat.le_refl _) (by omega)
  have x1' : spec_l02DrawTable.l0 k r1 0 l i1 h1 [] = some (out, a1, a2) := x1
  rw [x1', Option.bind_some]
  exact ⟨_, rfl, x2⟩
theorem sq_l0 {t u : List S30} (g : Tok t) (gu : Tok u) (he : ∀ a, FH u a = FH t a) (hn : ∀ q ∈ u, ¬ Idle u q) : ∀ (d i K : Nat), i + d = u.length → d + 200070000 < K → laws_FnSqueezed.l0 K i t u = some true := by
  have h1 := g.2
  have h2 := gu.2
  intro d
  induction d with
  | zero =>
    intro i K hi hK
    obtain ⟨K, rfl⟩ : ∃ m, K = m + 1 := ⟨K - 1, by omega⟩
    obtain ⟨r, r1, r2⟩ := span_tab g gu (fun a _ => (he a).symm)
    obtain ⟨q1, q2⟩ := r2 K (by omega)
    simp only [laws_FnSqueezed.l0]
    rw [if_neg (by omega), q2, Option.bind_some, q1, Option.bind_some, same_ok (by omega) (by omega)]
    rfl
  | succ d ih =>
    intro i K hi hK
    obtain ⟨K, rfl⟩ : ∃ m, K = m + 1 := ⟨K - 1, by omega⟩
    have hil : i < u.length := by omega
    have hm : rd_T30 u (i : Int) ∈ u := by rw [rd_natR hil]; exact List.getElem_mem hil
    obtain ⟨r, hr⟩ : ∃ r, r = rd_T30 u (i : Int) := ⟨_, rfl⟩
    rw [← hr] at hm
    have vr := (Tok_iff.1 gu).1 r hm
    have gl : Tok (u.filter fun q => !isR r.f0.f0 r.f0.f1 q) := gu.sub List.filter_sublist
    obtain ⟨b, b1, b2⟩ := same_tab gl gu
    have nb : b = false := by
      cases z : b with
      | false => rfl
      | true =>
        refine absurd (fun a ha => ?_) (hn r hm)
        have tp := vr.1.top
        have n0 := vr.1.2.2.1
        unfold Has Phas at ha
        have w := b1.1 z a.toNat (by omega)
        have e : ((a.toNat : Nat) : Int) = a := by omega
        rw [e] at w
        exact w.symm
    simp only [laws_FnSqueezed.l0]
    rw [if_pos (by omega), if_pos (by omega), ← hr, impl_DropH gu vr.1 ⟨i, hil, by rw [← hr]; exact decide_eq_true ⟨rfl, rfl⟩⟩ (by omega), Option.bind_some]
    dsimp only
    rw [if_pos rfl, (b2 K (by omega)).1, Option.bind_some, nb, if_neg (by decide), wr1 (by omega)]
    exact ih (i + 1) K (by omega) (by omega)
theorem FnSqueezed : FnSqueezed.Pure := by
  intro l _
  obtain ⟨C, hC⟩ : ∃ C, C = l.length + 200100000 := ⟨_, rfl⟩
  refine ⟨C, ?_⟩
  have key : ∃ b, laws_FnSqueezed.f C l = some b ∧ b = true := by
    unfold laws_FnSqueezed.f
    by_cases hb : l.length ≤ 1048576
    · refine ex_bind false (by unfold laws_big.f; rw [decide_eq_false (by omega)]) ?_
      refine ex_neg (by decide) ?_
      obtain ⟨t, e, p1⟩ := dsq_ok hb (k := C) (by omega)
      refine ex_bind t e ?_
      obtain ⟨b1, s1, s2⟩ := spec_Tok (t := t) (by omega) (k := C) (by omega)
      refine ex_bind b1 s1 ?_
      have skip : ∃ b, laws_FnSqueezed.j0 C true t = some b ∧ b = true := by
        obtain ⟨K, hK⟩ : ∃ K, C = K + 1 := ⟨C - 1, by omega⟩
        rw [hK]
        simp only [laws_FnSqueezed.j0]
        exact ⟨true, rfl, rfl⟩
      by_cases g0 : b1 = true
      · refine ex_pos g0 ?_
        have g := s2.1 g0
        by_cases c12 : (t.length : Int) > 12
        · rw [decide_eq_true c12]; exact skip
        · rw [decide_eq_false c12]
          obtain ⟨u, gu, he, hn, hu⟩ := impl_Sq g
          obtain ⟨K, hK⟩ : ∃ K, C = K + 2 := ⟨C - 2, by omega⟩
          have h2 := gu.2
          obtain ⟨b, b2, b3⟩ := same_tab g gu
          have hb1 : b = true := b2.2 (fun a _ => (he a).symm)
          obtain ⟨x1, x2⟩ := b3 (K + 1) (by omega)
          have z := sq_l0 g gu he hn u.length 0 K (by omega) (by omega)
          rw [hK]
          simp only [laws_FnSqueezed.j0]
          refine ex_neg (by decide) ?_
          refine ex_bind (u, true) (hu _ (by omega)) ?_
          refine ex_pos rfl ?_
          refine ex_bind b x2 ?_
          refine ex_pos hb1 ?_
          refine ex_bind b x1 ?_
          rw [hb1]
          simp only [laws_FnSqueezed.j1]
          refine ex_neg (by decide) ?_
          exact ⟨true, z, rfl⟩
      · exact ex_neg g0 skip
    · refine ex_bind true (by unfold laws_big.f; rw [decide_eq_true (by omega)]) ?_
      exact ex_pos rfl ⟨true, rfl, rfl⟩
  obtain ⟨b, e, rfl⟩ := key
  exact e

end Go.Proofs.Ytjepmdngbafonaa.Pure
