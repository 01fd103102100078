/- The plain law of AgeLsa: the program's answer is the reference's. -/
import Derived.Test.YtiikcfaodkiakaaStmtFnExactAgeLsa
namespace Go.Proofs.Ytiikcfaodkiakaa.Pure
open Go.RowKit Go.Proofs.Ytiikcfaodkiakaa.QFnExactAgeLsa Go.Proofs.YtiikcfaodkiakaaU.PrintWords Go.Proofs.YtiikcfaodkiakaaU.PrintLast Go.Proofs.YtiikcfaodkiakaaU.PrintMore
set_option linter.unusedVariables false
set_option linter.unusedSimpArgs false

theorem len17 {l : Int} (h0 : 0 ≤ l) (h1 : l ≤ 16) : l = 0 ∨ l = 1 ∨ l = 2 ∨ l = 3 ∨ l = 4 ∨ l = 5 ∨ l = 6 ∨ l = 7 ∨ l = 8 ∨ l = 9 ∨ l = 10 ∨ l = 11 ∨ l = 12 ∨ l = 13 ∨ l = 14 ∨ l = 15 ∨ l = 16 := by omega
/-- How many addresses a prefix of length l has. -/
def psz (l : Int) : Int := 2 ^ (16 - l).toNat
theorem psz_pos (l : Int) : 0 < psz l := Int.pow_pos (by decide)
theorem psz_le {l : Int} (h0 : 0 ≤ l) (h1 : l ≤ 16) : psz l ≤ 65536 := by
  rcases len17 h0 h1 with rfl | rfl | rfl | rfl | rfl | rfl | rfl | rfl | rfl | rfl | rfl | rfl | rfl | rfl | rfl | rfl | rfl <;> decide
theorem psz_half {l : Int} (h0 : 0 ≤ l) (h1 : l ≤ 15) : psz l = 2 * psz (l + 1) := by
  rcases len17 h0 (by omega) with rfl | rfl | rfl | rfl | rfl | rfl | rfl | rfl | rfl | rfl | rfl | rfl | rfl | rfl | rfl | rfl | rfl <;> first | decide | omega
theorem psz_top {l : Int} (h0 : 0 ≤ l) (h1 : l ≤ 16) : 65536 = psz l * 2 ^ l.toNat := by
  rcases len17 h0 h1 with rfl | rfl | rfl | rfl | rfl | rfl | rfl | rfl | rfl | rfl | rfl | rfl | rfl | rfl | rfl | rfl | rfl <;> decide
theorem w64 {n : Int} (h0 : -9223372036854775808 ≤ n) (h1 : n ≤ 9223372036854775807) : wrap64 n = n := by unfold wrap64; omega
theorem shl_psz {l : Int} (h0 : 0 ≤ l) (h1 : l ≤ 16) : shl .i64 1 (16 - l) = psz l := by
  rcases len17 h0 h1 with rfl | rfl | rfl | rfl | rfl | rfl | rfl | rfl | rfl | rfl | rfl | rfl | rfl | rfl | rfl | rfl | rfl <;> decide
theorem u64w {n : Int} (h0 : 0 ≤ n) (h1 : n ≤ 16) : IntKind.u64.wrap n = n := by
  rcases len17 h0 h1 with rfl | rfl | rfl | rfl | rfl | rfl | rfl | rfl | rfl | rfl | rfl | rfl | rfl | rfl | rfl | rfl | rfl <;> decide
/-- A valid prefix. -/
def Pok (n l : Int) : Prop := 0 ≤ l ∧ l ≤ 16 ∧ 0 ≤ n ∧ n ≤ 65535 ∧ n % psz l = 0
instance (n l : Int) : Decidable (Pok n l) := by unfold Pok; infer_instance
theorem Pok.top {n l : Int} (h : Pok n l) : n + psz l ≤ 65536 := by
  obtain ⟨h0, h1, h2, h3, h4⟩ := h
  have e := psz_top h0 h1
  have p := psz_pos l
  have d := Int.emod_add_mul_ediv n (psz l)
  rw [h4, Int.zero_add] at d
  have q : n / psz l < 2 ^ l.toNat := by
    apply Int.ediv_lt_of_lt_mul p
    rw [Int.mul_comm]; omega
  have m : psz l * (n / psz l + 1) ≤ psz l * 2 ^ l.toNat := Int.mul_le_mul_of_nonneg_left (by omega) (by omega)
  rw [Int.mul_add] at m
  omega
theorem spec_In (a b c : Int) : spec_l01In.f a b c = some (decide (b ≤ a ∧ a ≤ c)) := by
  unfold spec_l01In.f
  by_cases h : b ≤ a <;> simp [h]
theorem spec_Addr (a : Int) : spec_l01Addr.f a = some (decide (0 ≤ a ∧ a ≤ 65535)) := by
  unfold spec_l01Addr.f; rw [spec_In]; rfl
theorem spec_Size {l : Int} (h0 : 0 ≤ l) (h1 : l ≤ 16) : spec_l01Size2.f l = some (psz l) := by
  unfold spec_l01Size2.f
  rw [w64 (by omega) (by omega), u64w (by omega) (by omega), if_pos (by omega), shl_psz h0 h1]
theorem spec_Pok (n l : Int) : spec_PrefixOk.f n l = some (decide (Pok n l)) := by
  unfold spec_PrefixOk.f
  rw [spec_In, spec_Addr]
  simp only [Option.bind_some, decide_eq_true_eq]
  by_cases hl : 0 ≤ l ∧ l ≤ 16
  · rw [if_pos hl]
    by_cases hn : 0 ≤ n ∧ n ≤ 65535
    · rw [if_pos hn, spec_Size hl.1 hl.2]
      have p := psz_pos l
      simp only [Option.bind_some]
      rw [if_neg (by omega), Int.tmod_eq_emod_of_nonneg hn.1]
      congr 1
      by_cases e : n % psz l = 0
      · rw [e]; simp [Pok, hl, hn, e]
      · simp [Pok, hl, hn, e]
    · rw [if_neg hn]; congr 1; symm; rw [decide_eq_false_iff_not]; unfold Pok; omega
  · rw [if_neg hl]; congr 1; symm; rw [decide_eq_false_iff_not]; unfold Pok; omega
theorem impl_In (a b c : Int) : impl_within.f a b c = some (decide (b ≤ a ∧ a ≤ c)) := by
  unfold impl_within.f
  by_cases h : b ≤ a <;> simp [h]
theorem impl_Addr (a : Int) : impl_isAddr.f a = some (decide (0 ≤ a ∧ a ≤ 65535)) := by
  unfold impl_isAddr.f; rw [impl_In]; rfl
theorem impl_Size (n : Int) {l : Int} (h0 : 0 ≤ l) (h1 : l ≤ 16) : impl_Prefix_size.f n l = some (psz l) := by
  unfold impl_Prefix_size.f
  rw [w64 (by omega) (by omega), if_pos (by omega), shl_psz h0 h1]
theorem impl_Pok (n l : Int) : impl_PrefixOk.f n l = some (decide (Pok n l)) := by
  unfold impl_PrefixOk.f
  rw [impl_In, impl_Addr]
  simp only [Option.bind_some, decide_eq_true_eq]
  by_cases hl : 0 ≤ l ∧ l ≤ 16
  · rw [if_pos hl]
    by_cases hn : 0 ≤ n ∧ n ≤ 65535
    · rw [if_pos hn, impl_Size n hl.1 hl.2]
      have p := psz_pos l
      simp only [Option.bind_some]
      rw [if_neg (by omega), Int.tmod_eq_emod_of_nonneg hn.1]
      congr 1
      by_cases e : n % psz l = 0
      · rw [e]; simp [Pok, hl, hn, e]
      · simp [Pok, hl, hn, e]
    · rw [if_neg hn]; congr 1; symm; rw [decide_eq_false_iff_not]; unfold Pok; omega
  · rw [if_neg hl]; congr 1; symm; rw [decide_eq_false_iff_not]; unfold Pok; omega
/-- A loop that asks each index and ends at the first refusal. -/
theorem all_loop {F : Nat → Int → Option Bool} {n : Nat} {P : Nat → Prop} {e : Bool}
    (hs : ∀ (k i : Nat), i < n → (∀ j, j < i → P j) → (P i ∧ F (k + 1) i = F k ((i : Int) + 1)) ∨ (¬ P i ∧ F (k + 1) i = some false))
    (he : ∀ k : Nat, (∀ j, j < n → P j) → F (k + 1) n = some e) : ∀ (d k i : Nat), i + d = n → d < k → (∀ j, j < i → P j) →
    ∃ b, F k i = some b ∧ (b = true ↔ ((∀ j, j < n → P j) ∧ e = true)) := by
  intro d
  induction d with
  | zero =>
    intro k i hi hk hp
    obtain ⟨k, rfl⟩ : ∃ m, k = m + 1 := ⟨k - 1, by omega⟩
    obtain rfl : i = n := by omega
    exact ⟨e, he k hp, ⟨fun h => ⟨hp, h⟩, fun h => h.2⟩⟩
  | succ d ih =>
    intro k i hi hk hp
    obtain ⟨k, rfl⟩ : ∃ m, k = m + 1 := ⟨k - 1, by omega⟩
    rcases hs k i (by omega) hp with ⟨h1, h2⟩ | ⟨h1, h2⟩
    · have e1 : (i : Int) + 1 = ((i + 1 : Nat) : Int) := by omega
      rw [h2, e1]
      refine ih k (i + 1) (by omega) (by omega) (fun j hj => ?_)
      by_cases hji : j = i
      · rw [hji]; exact h1
      · exact hp j (by omega)
    · refine ⟨false, h2, ⟨(fun h => by cases h), fun h => absurd (h.1 i (by omega)) h1⟩⟩
/-- A loop that copies a list, element by element. -/
theorem copy_loop {α β : Type} {F : Nat → List α → List β → Int → Option (List β)} {cv : α → β} (z : α) {N : Nat}
    (hs : ∀ (k i : Nat) (x : List α) (y : List β), x.length ≤ N → i < x.length → i < y.length → F (k + 1) x y i = F k x (y.set i (cv (x.getD i z))) ((i : Int) + 1))
    (he : ∀ (k : Nat) (x : List α) (y : List β), F (k + 1) x y x.length = some y) (x : List α) (hN : x.length ≤ N) : ∀ (d k i : Nat) (y : List β), i + d = x.length → d < k → y.length = x.length →
    y.take i = (x.take i).map cv → F k x y i = some (x.map cv) := by
  intro d
  induction d with
  | zero =>
    intro k i y hi hk hl ht
    obtain ⟨k, rfl⟩ : ∃ m, k = m + 1 := ⟨k - 1, by omega⟩
    obtain rfl : i = x.length := by omega
    rw [he]
    rw [List.take_of_length_le (by omega), List.take_of_length_le (by omega)] at ht
    rw [ht]
  | succ d ih =>
    intro k i y hi hk hl ht
    obtain ⟨k, rfl⟩ : ∃ m, k = m + 1 := ⟨k - 1, by omega⟩
    have e1 : (i : Int) + 1 = ((i + 1 : Nat) : Int) := by omega
    rw [hs k i x y hN (by omega) (by omega), e1]
    refine ih k (i + 1) _ (by omega) (by omega) (by rw [List.length_set, hl]) ?_
    have hx : i < x.length := by omega
    have hy : i < y.length := by omega
    rw [List.take_succ_eq_append_getElem (by rw [List.length_set]; exact hy), List.take_succ_eq_append_getElem hx, List.map_append, List.take_set, ht]
    congr 1
    · rw [List.set_eq_of_length_le]
      simp; omega
    · simp [List.getD_eq_getElem?_getD, hx]
/-- Two equal lists, compared element by element. -/
theorem same_loop {α : Type} {F : Nat → List α → List α → Int → Option Bool} {N : Nat}
    (hs : ∀ (k i : Nat) (x : List α), x.length ≤ N → i < x.length → F (k + 1) x x i = F k x x ((i : Int) + 1))
    (he : ∀ (k : Nat) (x : List α), F (k + 1) x x x.length = some true) (x : List α) (hN : x.length ≤ N) : ∀ (d k i : Nat), i + d = x.length → d < k → F k x x i = some true := by
  intro d
  induction d with
  | zero =>
    intro k i hi hk
    obtain ⟨k, rfl⟩ : ∃ m, k = m + 1 := ⟨k - 1, by omega⟩
    obtain rfl : i = x.length := by omega
    exact he k x
  | succ d ih =>
    intro k i hi hk
    obtain ⟨k, rfl⟩ : ∃ m, k = m + 1 := ⟨k - 1, by omega⟩
    have e1 : (i : Int) + 1 = ((i + 1 : Nat) : Int) := by omega
    rw [hs k i x hN (by omega), e1]
    exact ih k (i + 1) (by omega) (by omega)
/-- The same where what stands behind the loop wants m rounds more. -/
theorem all_loopm (m : Nat) {F : Nat → Int → Option Bool} {n : Nat} {P : Nat → Prop} {e : Bool}
    (hs : ∀ (k i : Nat), i < n → (∀ j, j < i → P j) → (P i ∧ F (k + 1) i = F k ((i : Int) + 1)) ∨ (¬ P i ∧ F (k + 1) i = some false))
    (he : ∀ k : Nat, m ≤ k → (∀ j, j < n → P j) → F (k + 1) n = some e) : ∀ (d k i : Nat), i + d = n → d + m < k → (∀ j, j < i → P j) →
    ∃ b, F k i = some b ∧ (b = true ↔ ((∀ j, j < n → P j) ∧ e = true)) := by
  intro d
  induction d with
  | zero =>
    intro k i hi hk hp
    obtain ⟨k, rfl⟩ : ∃ m, k = m + 1 := ⟨k - 1, by omega⟩
    obtain rfl : i = n := by omega
    exact ⟨e, he k (by omega) hp, ⟨fun h => ⟨hp, h⟩, fun h => h.2⟩⟩
  | succ d ih =>
    intro k i hi hk hp
    obtain ⟨k, rfl⟩ : ∃ m, k = m + 1 := ⟨k - 1, by omega⟩
    rcases hs k i (by omega) hp with ⟨h1, h2⟩ | ⟨h1, h2⟩
    · have e1 : (i : Int) + 1 = ((i + 1 : Nat) : Int) := by omega
      rw [h2, e1]
      refine ih k (i + 1) (by omega) (by omega) (fun j hj => ?_)
      by_cases hji : j = i
      · rw [hji]; exact h1
      · exact hp j (by omega)
    · refine ⟨false, h2, ⟨(fun h => by cases h), fun h => absurd (h.1 i (by omega)) h1⟩⟩
/-- A loop that looks for something in a list, from an index on. -/
theorem find_loop {α ρ : Type} {F : Nat → Int → Option ρ} {h : List α → ρ} (t : List α)
    (hs : ∀ (k i : Nat), i < t.length → (F (k + 1) i = F k ((i : Int) + 1) ∧ h (t.drop i) = h (t.drop (i + 1))) ∨ F (k + 1) i = some (h (t.drop i)))
    (he : ∀ (k : Nat), F (k + 1) t.length = some (h [])) : ∀ (d k i : Nat), i + d = t.length → d < k → F k i = some (h (t.drop i)) := by
  intro d
  induction d with
  | zero =>
    intro k i hi hk
    obtain ⟨k, rfl⟩ : ∃ m, k = m + 1 := ⟨k - 1, by omega⟩
    obtain rfl : i = t.length := by omega
    rw [he, List.drop_length]
  | succ d ih =>
    intro k i hi hk
    obtain ⟨k, rfl⟩ : ∃ m, k = m + 1 := ⟨k - 1, by omega⟩
    rcases hs k i (by omega) with ⟨h1, h2⟩ | h1
    · have e1 : (i : Int) + 1 = ((i + 1 : Nat) : Int) := by omega
      rw [h1, e1, ih k (i + 1) (by omega) (by omega), h2]
    · exact h1
theorem drop_getD {α : Type} (t : List α) (z : α) {i : Nat} (hi : i < t.length) : t.drop i = t.getD i z :: t.drop (i + 1) := by
  rw [List.drop_eq_getElem_cons hi, List.getD_eq_getElem?_getD, List.getElem?_eq_getElem hi]; rfl
theorem rd_getI (t : List Int) (i : Nat) : rd t i = t.getD i 0 := by simp [rd]
/-- Prefix a stands ahead of prefix b. -/
def Ahead (n l m k : Int) : Prop := n < m ∨ n = m ∧ l < k
theorem spec_Ahead (n l m k : Int) : ∃ b, spec_l02Ahead.f n l m k = some b ∧ (b = true ↔ Ahead n l m k) := by
  unfold spec_l02Ahead.f Ahead
  by_cases h : n < m
  · exact ⟨true, by rw [if_pos h], by simp [h]⟩
  · by_cases h2 : n = m
    · exact ⟨decide (l < k), by rw [if_neg h, if_pos h2], by simp [h2]⟩
    · exact ⟨false, by rw [if_neg h, if_neg h2], by simp [h, h2]⟩
theorem impl_Compare {n l m k : Int} (h1 : Pok n l) (h2 : Pok m k) : ∃ c, impl_comparePrefixes.f n l m k = some c ∧ (¬ c ≥ 0 ↔ Ahead n l m k) := by
  obtain ⟨a0, a1, a2, a3, _⟩ := h1
  obtain ⟨b0, b1, b2, b3, _⟩ := h2
  unfold impl_comparePrefixes.f Ahead
  by_cases h : n = m
  · refine ⟨l - k, by rw [if_pos h, w64 (by omega) (by omega)], by omega⟩
  · refine ⟨n - m, by rw [if_neg h, w64 (by omega) (by omega)], by omega⟩
/-- A link and a stub, of the laws' types and of the program's. -/
def cvL (x : S85) : S70 := ⟨x.f0, x.f1⟩
def cvT (x : S89) : S74 := ⟨⟨x.f0.f0, x.f0.f1⟩, x.f1⟩
theorem to_LinkS {l : List S85} {k : Nat} (h : l.length ≤ 1048576) (hk : l.length < k) : laws_toLinkS.f k l = some (l.map cvL) := by
  unfold laws_toLinkS.f
  rw [if_pos (by omega), if_pos (by omega)]
  refine copy_loop (F := laws_toLinkS.l0) (cv := cvL) z85 (N := 1048576) ?_ ?_ l h l.length k 0 _ (by omega) hk (by simp) (by simp)
  · intro k i x y hN hx hy
    simp only [laws_toLinkS.l0]
    rw [if_pos (by omega), if_pos (by omega)]
    unfold laws_toLink.f
    simp only [Option.bind_some]
    rw [if_pos (by omega), w64 (by omega) (by omega)]
    simp [rd_T85, cvL]
  · intro k x y
    simp only [laws_toLinkS.l0]
    rw [if_neg (by omega)]
theorem to_StubS {l : List S89} {k : Nat} (h : l.length ≤ 1048576) (hk : l.length < k) : laws_toStubS.f k l = some (l.map cvT) := by
  unfold laws_toStubS.f
  rw [if_pos (by omega), if_pos (by omega)]
  refine copy_loop (F := laws_toStubS.l0) (cv := cvT) z89 (N := 1048576) ?_ ?_ l h l.length k 0 _ (by omega) hk (by simp) (by simp)
  · intro k i x y hN hx hy
    simp only [laws_toStubS.l0]
    rw [if_pos (by omega), if_pos (by omega)]
    unfold laws_toStub.f laws_toPrefix.f
    simp only [Option.bind_some]
    rw [if_pos (by omega), w64 (by omega) (by omega)]
    simp [rd_T89, cvT]
  · intro k x y
    simp only [laws_toStubS.l0]
    rw [if_neg (by omega)]
theorem to_Lsa (o s a : Int) {l : List S85} {t : List S89} {k : Nat} (h : l.length ≤ 1048576) (h2 : t.length ≤ 1048576) (hk : l.length + t.length < k) : laws_toLsa.f k o s a l t = some (o, s, a, l.map cvL, t.map cvT) := by
  unfold laws_toLsa.f
  rw [to_LinkS h (by omega), to_StubS h2 (by omega)]; rfl
theorem eq_LinkS {l : List S70} {k : Nat} (h : l.length ≤ 1048576) (hk : l.length < k) : laws_eqLinkS.f k l l = some true := by
  unfold laws_eqLinkS.f
  rw [if_pos rfl]
  refine same_loop (F := laws_eqLinkS.l0) (N := 1048576) ?_ ?_ l h l.length k 0 (by omega) hk
  · intro k i x hN hx
    simp only [laws_eqLinkS.l0]
    rw [if_pos (by omega), if_pos (by omega), if_pos (by omega)]
    unfold laws_eqLink.f
    simp only [if_true, Option.bind_some]
    rw [w64 (by omega) (by omega)]
  · intro k x
    simp only [laws_eqLinkS.l0]
    rw [if_neg (by omega)]
theorem eq_StubS {l : List S74} {k : Nat} (h : l.length ≤ 1048576) (hk : l.length < k) : laws_eqStubS.f k l l = some true := by
  unfold laws_eqStubS.f
  rw [if_pos rfl]
  refine same_loop (F := laws_eqStubS.l0) (N := 1048576) ?_ ?_ l h l.length k 0 (by omega) hk
  · intro k i x hN hx
    simp only [laws_eqStubS.l0]
    rw [if_pos (by omega), if_pos (by omega), if_pos (by omega)]
    unfold laws_eqStub.f laws_eqPrefix.f
    simp only [if_true, Option.bind_some]
    rw [w64 (by omega) (by omega)]
  · intro k x
    simp only [laws_eqStubS.l0]
    rw [if_neg (by omega)]
theorem eq_Lsa (o s a : Int) {l : List S70} {t : List S74} {k : Nat} (h : l.length ≤ 1048576) (h2 : t.length ≤ 1048576) (hk : l.length + t.length < k) : laws_eqLsa.f k o s a l t o s a l t = some true := by
  unfold laws_eqLsa.f
  rw [if_pos rfl, if_pos rfl, if_pos rfl, eq_LinkS h (by omega), eq_StubS h2 (by omega)]; rfl
theorem sz_Lsa (o s a : Int) {l : List S85} {t : List S89} (h : l.length ≤ 9223372036854775807) (h2 : t.length ≤ 9223372036854775807) :
    ∃ r, laws_szLsa.f o s a l t 1048576 = some r ∧ (¬ r < 0 → l.length ≤ 1048576 ∧ t.length ≤ 1048576) := by
  unfold laws_szLsa.f laws_szLinkS.f
  rw [w64 (by omega) (by omega)]
  by_cases hl : l.length ≤ 1048576
  · rw [if_neg (by omega)]
    simp only [Option.bind_some]
    rw [if_neg (by omega)]
    unfold laws_szStubS.f
    rw [w64 (by omega) (by omega)]
    by_cases ht : (1048576 : Int) - l.length - t.length < 0
    · rw [if_pos ht]; exact ⟨-1, rfl, fun z => absurd (by omega : (-1 : Int) < 0) z⟩
    · rw [if_neg ht]
      simp only [Option.bind_some]
      rw [if_neg ht]
      exact ⟨_, rfl, fun _ => ⟨hl, by omega⟩⟩
  · rw [if_pos (by omega)]
    exact ⟨-1, rfl, fun z => absurd (by omega : (-1 : Int) < 0) z⟩
/-- The link at an index is valid and stands behind the one ahead of it. -/
def Lat (o : Int) (l : List S70) (j : Nat) : Prop :=
  (0 ≤ (rd_T70 l j).f0 ∧ (rd_T70 l j).f0 ≤ 9) ∧ (rd_T70 l j).f0 ≠ o ∧ (1 ≤ (rd_T70 l j).f1 ∧ (rd_T70 l j).f1 ≤ 1000) ∧ (0 < j → (rd_T70 l ((j : Int) - 1)).f0 < (rd_T70 l j).f0)
/-- The stub at an index is valid and stands behind the one ahead of it. -/
def Sat (t : List S74) (j : Nat) : Prop :=
  Pok (rd_T74 t j).f0.f0 (rd_T74 t j).f0.f1 ∧ (1 ≤ (rd_T74 t j).f1 ∧ (rd_T74 t j).f1 ≤ 1000) ∧
    (0 < j → Ahead (rd_T74 t ((j : Int) - 1)).f0.f0 (rd_T74 t ((j : Int) - 1)).f0.f1 (rd_T74 t j).f0.f0 (rd_T74 t j).f0.f1)
/-- A valid advertisement. -/
def Lok (o s a : Int) (l : List S70) (t : List S74) : Prop :=
  (0 ≤ o ∧ o ≤ 9) ∧ (1 ≤ s ∧ s ≤ 1000000) ∧ (0 ≤ a ∧ a ≤ 60) ∧ (∀ j, j < l.length → Lat o l j) ∧ (∀ j, j < t.length → Sat t j) ∧ t.length ≤ 6
theorem links_few {o : Int} {l : List S70} (h : ∀ j, j < l.length → Lat o l j) : l.length ≤ 10 := by
  have key : ∀ j : Nat, j < l.length → (j : Int) ≤ (rd_T70 l j).f0 := by
    intro j
    induction j with
    | zero => intro hj; exact (h 0 hj).1.1
    | succ j ih =>
      intro hj
      have a := ih (by omega)
      have b := (h (j + 1) hj).2.2.2 (by omega)
      have e : ((j + 1 : Nat) : Int) - 1 = (j : Int) := by omega
      rw [e] at b
      omega
  by_cases c : l.length ≤ 10
  · exact c
  · have a := key 10 (by omega)
    have b := (h 10 (by omega)).1.2
    omega
theorem spec_stubs (o s a : Int) (l : List S70) {t : List S74} (h : t.length ≤ 1048576) {k : Nat} (hk : t.length < k) : ∃ b, spec_LsaOk.l1 k 0 o s a l t = some b ∧ (b = true ↔ ∀ j, j < t.length → Sat t j) := by
  have x := all_loop (F := fun k i => spec_LsaOk.l1 k i o s a l t) (n := t.length) (P := Sat t) (e := true) ?_ ?_ t.length k 0 (by omega) hk (fun j hj => by omega)
  · obtain ⟨b, h1, h2⟩ := x
    exact ⟨b, h1, by simpa using h2⟩
  · intro k i hi hp
    simp only [spec_LsaOk.l1]
    rw [if_pos (by omega), if_pos (by omega), spec_Pok, spec_In]
    simp only [Option.bind_some, decide_eq_true_eq]
    by_cases c1 : Pok (rd_T74 t i).f0.f0 (rd_T74 t i).f0.f1
    · rw [if_pos c1]
      by_cases c2 : 1 ≤ (rd_T74 t i).f1 ∧ (rd_T74 t i).f1 ≤ 1000
      · rw [if_pos c2]
        by_cases c3 : i = 0
        · subst c3
          rw [if_neg (by omega), w64 (by omega) (by omega)]
          exact .inl ⟨⟨c1, c2, fun h => by omega⟩, rfl⟩
        · rw [if_pos (by omega), w64 (n := (i : Int) - 1) (by omega) (by omega), if_pos (by omega), if_pos (by omega)]
          obtain ⟨b, hb, hb2⟩ := spec_Ahead (rd_T74 t ((i : Int) - 1)).f0.f0 (rd_T74 t ((i : Int) - 1)).f0.f1 (rd_T74 t i).f0.f0 (rd_T74 t i).f0.f1
          rw [hb]
          simp only [Option.bind_some]
          by_cases c4 : b = true
          · rw [if_pos c4, w64 (by omega) (by omega)]
            exact .inl ⟨⟨c1, c2, fun _ => hb2.1 c4⟩, rfl⟩
          · rw [if_neg c4]
            exact .inr ⟨fun h => c4 (hb2.2 (h.2.2 (by omega))), rfl⟩
      · rw [if_neg c2]
        exact .inr ⟨fun h => c2 h.2.1, rfl⟩
    · rw [if_neg c1]
      exact .inr ⟨fun h => c1 h.1, rfl⟩
  · intro k _
    simp only [spec_LsaOk.l1]
    rw [if_neg (by omega)]
theorem spec_links (o s a : Int) {l : List S70} (hl : l.length ≤ 1048576) {t : List S74} (h : t.length ≤ 1048576) {k : Nat} (hk : l.length + t.length + 1 < k) :
    ∃ b, spec_LsaOk.l0 k 0 o s a l t = some b ∧ (b = true ↔ ((∀ j, j < l.length → Lat o l j) ∧ ∀ j, j < t.length → Sat t j)) := by
  obtain ⟨e, _, e2⟩ := spec_stubs o s a l h (k := t.length + 1) (by omega)
  have x := all_loopm (t.length + 1) (F := fun k i => spec_LsaOk.l0 k i o s a l t) (n := l.length) (P := Lat o l) (e := e) ?_ ?_ l.length k 0 (by omega) (by omega) (fun j hj => by omega)
  · obtain ⟨b, h1, h2⟩ := x
    exact ⟨b, h1, by rw [h2, e2]⟩
  · intro k i hi hp
    simp only [spec_LsaOk.l0]
    rw [if_pos (by omega), if_pos (by omega), spec_In, spec_In]
    simp only [Option.bind_some, decide_eq_true_eq]
    by_cases c1 : 0 ≤ (rd_T70 l i).f0 ∧ (rd_T70 l i).f0 ≤ 9
    · rw [if_pos c1]
      by_cases c2 : (rd_T70 l i).f0 = o
      · rw [if_pos c2]
        exact .inr ⟨fun h => h.2.1 c2, rfl⟩
      · rw [if_neg c2]
        by_cases c3 : 1 ≤ (rd_T70 l i).f1 ∧ (rd_T70 l i).f1 ≤ 1000
        · rw [if_pos c3]
          by_cases c4 : i = 0
          · subst c4
            rw [if_neg (by omega), w64 (by omega) (by omega)]
            exact .inl ⟨⟨c1, c2, c3, fun h => by omega⟩, rfl⟩
          · rw [if_pos (by omega), w64 (n := (i : Int) - 1) (by omega) (by omega), if_pos (by omega), if_pos (by omega)]
            by_cases c5 : (rd_T70 l ((i : Int) - 1)).f0 ≥ (rd_T70 l i).f0
            · rw [if_pos c5]
              refine .inr ⟨fun h => ?_, rfl⟩
              have := h.2.2.2 (by omega)
              omega
            · rw [if_neg c5, w64 (by omega) (by omega)]
              exact .inl ⟨⟨c1, c2, c3, fun _ => by omega⟩, rfl⟩
        · rw [if_neg c3]
          exact .inr ⟨fun h => c3 h.2.2.1, rfl⟩
    · rw [if_neg c1]
      exact .inr ⟨fun h => c1 h.1, rfl⟩
  · intro k hk _
    simp only [spec_LsaOk.l0]
    rw [if_neg (by omega)]
    obtain ⟨e', f1, f2⟩ := spec_stubs o s a l h (k := k) (by omega)
    have : e' = e := by rw [Bool.eq_iff_iff, f2, e2]
    rw [f1, this]
theorem spec_Lok (o s a : Int) {l : List S70} (hl : l.length ≤ 1048576) {t : List S74} (h : t.length ≤ 1048576) {k : Nat} (hk : l.length + t.length + 2 < k) :
    ∃ b, spec_LsaOk.f k o s a l t = some b ∧ (b = true ↔ Lok o s a l t) := by
  obtain ⟨k, rfl⟩ : ∃ m, k = m + 1 := ⟨k - 1, by omega⟩
  unfold spec_LsaOk.f Lok
  rw [spec_In, spec_In, spec_In]
  simp only [Option.bind_some, decide_eq_true_eq, spec_LsaOk.j0]
  by_cases c1 : 0 ≤ o ∧ o ≤ 9
  · rw [if_pos c1]
    by_cases c2 : 1 ≤ s ∧ s ≤ 1000000
    · rw [if_pos c2]
      by_cases c3 : 0 ≤ a ∧ a ≤ 60
      · rw [if_pos c3]
        by_cases c4 : (l.length : Int) > 10
        · rw [if_pos c4, if_pos trivial]
          exact ⟨false, rfl, (fun z => by cases z), fun z => by have := links_few z.2.2.2.1; omega⟩
        · rw [if_neg c4]
          by_cases c5 : (t.length : Int) > 6
          · rw [if_pos c5]
            exact ⟨false, rfl, (fun z => by cases z), fun z => by have := z.2.2.2.2.2; omega⟩
          · rw [if_neg c5]
            obtain ⟨b, h1, h2⟩ := spec_links o s a hl h (k := k) (by omega)
            exact ⟨b, h1, by rw [h2]; exact ⟨fun z => ⟨c1, c2, c3, z.1, z.2, by omega⟩, fun z => ⟨z.2.2.2.1, z.2.2.2.2.1⟩⟩⟩
      · rw [if_neg c3, if_pos trivial]
        exact ⟨false, rfl, (fun z => by cases z), fun z => absurd z.2.2.1 c3⟩
    · rw [if_neg c2, if_pos trivial]
      exact ⟨false, rfl, (fun z => by cases z), fun z => absurd z.2.1 c2⟩
  · rw [if_neg c1, if_pos trivial]
    exact ⟨false, rfl, (fun z => by cases z), fun z => absurd z.1 c1⟩
theorem impl_links (o : Int) {l : List S70} (hl : l.length ≤ 1048576) {k : Nat} (hk : l.length < k) : ∃ b, impl_areLinks.f k o l = some b ∧ (b = true ↔ ∀ j, j < l.length → Lat o l j) := by
  unfold impl_areLinks.f
  have x := all_loop (F := fun k i => impl_areLinks.l0 k o l l l.length i) (n := l.length) (P := Lat o l) (e := true) ?_ ?_ l.length k 0 (by omega) hk (fun j hj => by omega)
  · obtain ⟨b, h1, h2⟩ := x
    exact ⟨b, h1, by simpa using h2⟩
  · intro k i hi hp
    simp only [impl_areLinks.l0]
    rw [if_pos (by omega), if_pos (by omega), if_pos (by omega), impl_In, impl_In]
    simp only [Option.bind_some, decide_eq_true_eq]
    by_cases c1 : 0 ≤ (rd_T70 l i).f0 ∧ (rd_T70 l i).f0 ≤ 9
    · rw [if_pos c1]
      by_cases c3 : 1 ≤ (rd_T70 l i).f1 ∧ (rd_T70 l i).f1 ≤ 1000
      · rw [if_pos c3]
        by_cases c2 : (rd_T70 l i).f0 = o
        · rw [if_pos c2]
          exact .inr ⟨fun h => h.2.1 c2, rfl⟩
        · rw [if_neg c2]
          by_cases c4 : i = 0
          · subst c4
            rw [if_neg (by omega), w64 (by omega) (by omega)]
            exact .inl ⟨⟨c1, c2, c3, fun h => by omega⟩, rfl⟩
          · rw [if_pos (by omega), w64 (n := (i : Int) - 1) (by omega) (by omega), if_pos (by omega), if_pos (by omega)]
            by_cases c5 : (rd_T70 l i).f0 ≤ (rd_T70 l ((i : Int) - 1)).f0
            · rw [if_pos c5]
              refine .inr ⟨fun h => ?_, rfl⟩
              have := h.2.2.2 (by omega)
              omega
            · rw [if_neg c5, w64 (by omega) (by omega)]
              exact .inl ⟨⟨c1, c2, c3, fun _ => by omega⟩, rfl⟩
      · rw [if_neg c3]
        exact .inr ⟨fun h => c3 h.2.2.1, rfl⟩
    · rw [if_neg c1]
      exact .inr ⟨fun h => c1 h.1, rfl⟩
  · intro k _
    simp only [impl_areLinks.l0]
    rw [if_neg (by omega)]
theorem impl_stubs {t : List S74} (h : t.length ≤ 1048576) {k : Nat} (hk : t.length < k) : ∃ b, impl_areStubs.f k t = some b ∧ (b = true ↔ (∀ j, j < t.length → Sat t j) ∧ t.length ≤ 6) := by
  unfold impl_areStubs.f
  have x := all_loop (F := fun k i => impl_areStubs.l0 k t t t.length i) (n := t.length) (P := Sat t) (e := decide (t.length ≤ 6)) ?_ ?_ t.length k 0 (by omega) hk (fun j hj => by omega)
  · obtain ⟨b, h1, h2⟩ := x
    exact ⟨b, h1, by simpa using h2⟩
  · intro k i hi hp
    simp only [impl_areStubs.l0]
    rw [if_pos (by omega), if_pos (by omega), if_pos (by omega), impl_Pok, impl_In]
    simp only [Option.bind_some, decide_eq_true_eq]
    by_cases c1 : Pok (rd_T74 t i).f0.f0 (rd_T74 t i).f0.f1
    · rw [if_pos c1]
      by_cases c2 : 1 ≤ (rd_T74 t i).f1 ∧ (rd_T74 t i).f1 ≤ 1000
      · rw [if_pos c2]
        by_cases c3 : i = 0
        · subst c3
          rw [if_neg (by omega), w64 (by omega) (by omega)]
          exact .inl ⟨⟨c1, c2, fun h => by omega⟩, rfl⟩
        · rw [if_pos (by omega), w64 (n := (i : Int) - 1) (by omega) (by omega), if_pos (by omega), if_pos (by omega)]
          have e1 : (((i - 1 : Nat) : Int)) = (i : Int) - 1 := by omega
          have pv := (hp (i - 1) (by omega)).1
          rw [e1] at pv
          obtain ⟨b, hb, hb2⟩ := impl_Compare pv c1
          rw [hb]
          simp only [Option.bind_some]
          by_cases c4 : b ≥ 0
          · rw [if_pos c4]
            exact .inr ⟨fun h => hb2.2 (h.2.2 (by omega)) c4, rfl⟩
          · rw [if_neg c4, w64 (by omega) (by omega)]
            exact .inl ⟨⟨c1, c2, fun _ => hb2.1 c4⟩, rfl⟩
      · rw [if_neg c2]
        exact .inr ⟨fun h => c2 h.2.1, rfl⟩
    · rw [if_neg c1]
      exact .inr ⟨fun h => c1 h.1, rfl⟩
  · intro k _
    simp only [impl_areStubs.l0]
    rw [if_neg (by omega)]
    congr 1
    rw [decide_eq_decide]; omega
theorem impl_Lok (o s a : Int) {l : List S70} (hl : l.length ≤ 1048576) {t : List S74} (h : t.length ≤ 1048576) {k : Nat} (hk : l.length + t.length < k) :
    ∃ b, impl_LsaOk.f k o s a l t = some b ∧ (b = true ↔ Lok o s a l t) := by
  unfold impl_LsaOk.f Lok
  obtain ⟨b1, h1, h2⟩ := impl_links o hl (k := k) (by omega)
  obtain ⟨b2, h3, h4⟩ := impl_stubs h (k := k) (by omega)
  rw [impl_In, impl_In, impl_In, h1, h3]
  simp only [Option.bind_some, decide_eq_true_eq]
  by_cases c1 : 0 ≤ o ∧ o ≤ 9
  · rw [if_pos c1]
    by_cases c2 : 1 ≤ s ∧ s ≤ 1000000
    · rw [if_pos c2]
      by_cases c3 : 0 ≤ a ∧ a ≤ 60
      · rw [if_pos c3]
        by_cases c4 : b1 = true
        · rw [if_pos c4]
          exact ⟨b2, rfl, fun z => ⟨c1, c2, c3, h2.1 c4, (h4.1 z).1, (h4.1 z).2⟩, fun z => h4.2 z.2.2.2.2⟩
        · rw [if_neg c4]
          exact ⟨false, rfl, (fun z => by cases z), fun z => absurd (h2.2 z.2.2.2.1) c4⟩
      · rw [if_neg c3]
        exact ⟨false, rfl, (fun z => by cases z), fun z => absurd z.2.2.1 c3⟩
    · rw [if_neg c2]
      exact ⟨false, rfl, (fun z => by cases z), fun z => absurd z.2.1 c2⟩
  · rw [if_neg c1]
    exact ⟨false, rfl, (fun z => by cases z), fun z => absurd z.1 c1⟩
/-- Both ask the same of an advertisement. -/
theorem both_Lok (o s a : Int) {l : List S70} (hl : l.length ≤ 1048576) {t : List S74} (h : t.length ≤ 1048576) {k : Nat} (hk : l.length + t.length + 2 < k) :
    ∃ b, spec_LsaOk.f k o s a l t = some b ∧ impl_LsaOk.f k o s a l t = some b ∧ (b = true ↔ Lok o s a l t) := by
  obtain ⟨b1, s1, s2⟩ := spec_Lok o s a hl h hk
  obtain ⟨b2, i1, i2⟩ := impl_Lok o s a hl h (k := k) (by omega)
  have e : b2 = b1 := by rw [Bool.eq_iff_iff, i2, s2]
  exact ⟨b1, s1, by rw [i1, e], s2⟩
theorem rd_getL (l : List S70) (i : Nat) : rd_T70 l i = l.getD i z70 := by simp [rd_T70]
theorem rd_getT (l : List S74) (i : Nat) : rd_T74 l i = l.getD i z74 := by simp [rd_T74]
theorem rdL_set {x : List S70} {i j : Nat} (v : S70) (hi : i < x.length) : rd_T70 (x.set i v) j = if i = j then v else rd_T70 x j := by
  rw [rd_getL, rd_getL, List.getD_eq_getElem?_getD, List.getD_eq_getElem?_getD, List.getElem?_set]
  by_cases c : i = j
  · subst c; simp [hi]
  · simp [c]
theorem mark_LinkS2 (a : Int) (h0 : 0 ≤ a) (ha : a ≤ 10485760) {l : List S70} {k : Nat} (h : l.length ≤ 1048576) (hk : l.length < k) :
    ∃ M, laws_markLinkS.f k l a = some (a + 2 * l.length, M) ∧ M.length = l.length ∧ ∀ j : Nat, j < l.length → rd_T70 M j = (⟨a + 2 * (j : Int), a + 2 * (j : Int) + 1⟩ : S70) := by
  have key : ∀ (d k i : Nat) (x : List S70), i + d = x.length → d < k → x.length ≤ 1048576 → (∀ j : Nat, j < i → rd_T70 x j = (⟨a + 2 * (j : Int), a + 2 * (j : Int) + 1⟩ : S70)) →
      ∃ M, laws_markLinkS.l0 k x (a + 2 * i) i = some (a + 2 * x.length, M) ∧ M.length = x.length ∧ ∀ j : Nat, j < x.length → rd_T70 M j = (⟨a + 2 * (j : Int), a + 2 * (j : Int) + 1⟩ : S70) := by
    intro d
    induction d with
    | zero =>
      intro k i x hi hk hx hj
      obtain ⟨k, rfl⟩ : ∃ m, k = m + 1 := ⟨k - 1, by omega⟩
      obtain rfl : i = x.length := by omega
      simp only [laws_markLinkS.l0]
      rw [if_neg (by omega)]
      exact ⟨x, rfl, rfl, hj⟩
    | succ d ih =>
      intro k i x hi hk hx hj
      obtain ⟨k, rfl⟩ : ∃ m, k = m + 1 := ⟨k - 1, by omega⟩
      have hil : i < x.length := by omega
      have hfin : ∃ M, laws_markLinkS.l0 k (x.set i (⟨a + 2 * (i : Int), a + 2 * (i : Int) + 1⟩ : S70)) (a + 2 * ((i + 1 : Nat) : Int)) ((i + 1 : Nat) : Int) = some (a + 2 * x.length, M) ∧ M.length = x.length ∧ ∀ j : Nat, j < x.length → rd_T70 M j = (⟨a + 2 * (j : Int), a + 2 * (j : Int) + 1⟩ : S70) := by
        have z := ih k (i + 1) (x.set i (⟨a + 2 * (i : Int), a + 2 * (i : Int) + 1⟩ : S70)) (by rw [List.length_set]; omega) (by omega) (by rw [List.length_set]; exact hx) (fun j hj2 => by
          rw [rdL_set _ hil]
          by_cases c : i = j
          · subst c; rw [if_pos rfl]
          · rw [if_neg c]; exact hj j (by omega))
        rw [List.length_set] at z; exact z
      simp only [laws_markLinkS.l0, Option.bind_some]
      rw [if_pos (by omega), if_pos (by omega)]
      simp only [Int.toNat_natCast, List.set_set, rdL_set _ hil, if_true]
      have w1 : wrap64 (a + 2 * (i : Int) + 1) = a + 2 * (i : Int) + 1 := w64 (by omega) (by omega)
      have w3 : wrap64 (a + 2 * (i : Int) + 1 + 1) = a + 2 * ((i + 1 : Nat) : Int) := by rw [w64 (by omega) (by omega)]; omega
      have w4 : wrap64 ((i : Int) + 1) = ((i + 1 : Nat) : Int) := by rw [w64 (by omega) (by omega)]; omega
      rw [w1, w3, w4]
      exact hfin
  have z := key l.length k 0 l (by omega) hk h (fun j hj => by omega)
  have e : a + 2 * ((0 : Nat) : Int) = a := by omega
  rw [e] at z
  exact z
theorem held_LinkS2 (a : Int) (h0 : 0 ≤ a) (ha : a ≤ 10485760) {M : List S70} {k : Nat} (h : M.length ≤ 1048576) (hk : M.length < k) (hM : ∀ j : Nat, j < M.length → rd_T70 M j = (⟨a + 2 * (j : Int), a + 2 * (j : Int) + 1⟩ : S70)) : laws_heldLinkS.f k M a = some (a + 2 * M.length) := by
  have key : ∀ (d k i : Nat), i + d = M.length → d < k → laws_heldLinkS.l0 k M (a + 2 * i) i = some (a + 2 * M.length) := by
    intro d
    induction d with
    | zero =>
      intro k i hi hk
      obtain ⟨k, rfl⟩ : ∃ m, k = m + 1 := ⟨k - 1, by omega⟩
      obtain rfl : i = M.length := by omega
      simp only [laws_heldLinkS.l0]
      rw [if_neg (by omega)]
    | succ d ih =>
      intro k i hi hk
      obtain ⟨k, rfl⟩ : ∃ m, k = m + 1 := ⟨k - 1, by omega⟩
      have z := ih k (i + 1) (by omega) (by omega)
      have w1 : wrap64 (a + 2 * (i : Int) + 1) = a + 2 * (i : Int) + 1 := w64 (by omega) (by omega)
      have w3 : wrap64 (a + 2 * (i : Int) + 1 + 1) = a + 2 * ((i + 1 : Nat) : Int) := by rw [w64 (by omega) (by omega)]; omega
      have w4 : wrap64 ((i : Int) + 1) = ((i + 1 : Nat) : Int) := by rw [w64 (by omega) (by omega)]; omega
      have c1 : (i : Int) < (M.length : Int) := by clear w1 w3 w4 z; omega
      have c2 : (0 : Int) ≤ (i : Int) := by clear w1 w3 w4 z; omega
      simp only [laws_heldLinkS.l0]
      rw [if_pos c1, if_pos c2, hM i (by clear w1 w3 w4 z; omega), w1, if_pos rfl, if_pos rfl, w3, w4]
      exact z
  have z := key M.length k 0 (by omega) hk
  have e : a + 2 * ((0 : Nat) : Int) = a := by omega
  rw [e] at z
  exact z
theorem rdT_set {x : List S74} {i j : Nat} (v : S74) (hi : i < x.length) : rd_T74 (x.set i v) j = if i = j then v else rd_T74 x j := by
  rw [rd_getT, rd_getT, List.getD_eq_getElem?_getD, List.getD_eq_getElem?_getD, List.getElem?_set]
  by_cases c : i = j
  · subst c; simp [hi]
  · simp [c]
theorem mark_StubS2 (a : Int) (h0 : 0 ≤ a) (ha : a ≤ 10485760) {l : List S74} {k : Nat} (h : l.length ≤ 1048576) (hk : l.length < k) :
    ∃ M, laws_markStubS.f k l a = some (a + 3 * l.length, M) ∧ M.length = l.length ∧ ∀ j : Nat, j < l.length → rd_T74 M j = (⟨⟨a + 3 * (j : Int), a + 3 * (j : Int) + 1⟩, a + 3 * (j : Int) + 1 + 1⟩ : S74) := by
  have key : ∀ (d k i : Nat) (x : List S74), i + d = x.length → d < k → x.length ≤ 1048576 → (∀ j : Nat, j < i → rd_T74 x j = (⟨⟨a + 3 * (j : Int), a + 3 * (j : Int) + 1⟩, a + 3 * (j : Int) + 1 + 1⟩ : S74)) →
      ∃ M, laws_markStubS.l0 k x (a + 3 * i) i = some (a + 3 * x.length, M) ∧ M.length = x.length ∧ ∀ j : Nat, j < x.length → rd_T74 M j = (⟨⟨a + 3 * (j : Int), a + 3 * (j : Int) + 1⟩, a + 3 * (j : Int) + 1 + 1⟩ : S74) := by
    intro d
    induction d with
    | zero =>
      intro k i x hi hk hx hj
      obtain ⟨k, rfl⟩ : ∃ m, k = m + 1 := ⟨k - 1, by omega⟩
      obtain rfl : i = x.length := by omega
      simp only [laws_markStubS.l0]
      rw [if_neg (by omega)]
      exact ⟨x, rfl, rfl, hj⟩
    | succ d ih =>
      intro k i x hi hk hx hj
      obtain ⟨k, rfl⟩ : ∃ m, k = m + 1 := ⟨k - 1, by omega⟩
      have hil : i < x.length := by omega
      have hfin : ∃ M, laws_markStubS.l0 k (x.set i (⟨⟨a + 3 * (i : Int), a + 3 * (i : Int) + 1⟩, a + 3 * (i : Int) + 1 + 1⟩ : S74)) (a + 3 * ((i + 1 : Nat) : Int)) ((i + 1 : Nat) : Int) = some (a + 3 * x.length, M) ∧ M.length = x.length ∧ ∀ j : Nat, j < x.length → rd_T74 M j = (⟨⟨a + 3 * (j : Int), a + 3 * (j : Int) + 1⟩, a + 3 * (j : Int) + 1 + 1⟩ : S74) := by
        have z := ih k (i + 1) (x.set i (⟨⟨a + 3 * (i : Int), a + 3 * (i : Int) + 1⟩, a + 3 * (i : Int) + 1 + 1⟩ : S74)) (by rw [List.length_set]; omega) (by omega) (by rw [List.length_set]; exact hx) (fun j hj2 => by
          rw [rdT_set _ hil]
          by_cases c : i = j
          · subst c; rw [if_pos rfl]
          · rw [if_neg c]; exact hj j (by omega))
        rw [List.length_set] at z; exact z
      simp only [laws_markStubS.l0, Option.bind_some]
      rw [if_pos (by omega), if_pos (by omega)]
      simp only [Int.toNat_natCast, List.set_set, rdT_set _ hil, if_true]
      have w1 : wrap64 (a + 3 * (i : Int) + 1) = a + 3 * (i : Int) + 1 := w64 (by omega) (by omega)
      have w2' : wrap64 (a + 3 * (i : Int) + 1 + 1) = a + 3 * (i : Int) + 1 + 1 := w64 (by omega) (by omega)
      have w3 : wrap64 (a + 3 * (i : Int) + 1 + 1 + 1) = a + 3 * ((i + 1 : Nat) : Int) := by rw [w64 (by omega) (by omega)]; omega
      have w4 : wrap64 ((i : Int) + 1) = ((i + 1 : Nat) : Int) := by rw [w64 (by omega) (by omega)]; omega
      rw [w1, w2', w3, w4]
      exact hfin
  have z := key l.length k 0 l (by omega) hk h (fun j hj => by omega)
  have e : a + 3 * ((0 : Nat) : Int) = a := by omega
  rw [e] at z
  exact z
theorem held_StubS2 (a : Int) (h0 : 0 ≤ a) (ha : a ≤ 10485760) {M : List S74} {k : Nat} (h : M.length ≤ 1048576) (hk : M.length < k) (hM : ∀ j : Nat, j < M.length → rd_T74 M j = (⟨⟨a + 3 * (j : Int), a + 3 * (j : Int) + 1⟩, a + 3 * (j : Int) + 1 + 1⟩ : S74)) : laws_heldStubS.f k M a = some (a + 3 * M.length) := by
  have key : ∀ (d k i : Nat), i + d = M.length → d < k → laws_heldStubS.l0 k M (a + 3 * i) i = some (a + 3 * M.length) := by
    intro d
    induction d with
    | zero =>
      intro k i hi hk
      obtain ⟨k, rfl⟩ : ∃ m, k = m + 1 := ⟨k - 1, by omega⟩
      obtain rfl : i = M.length := by omega
      simp only [laws_heldStubS.l0]
      rw [if_neg (by omega)]
    | succ d ih =>
      intro k i hi hk
      obtain ⟨k, rfl⟩ : ∃ m, k = m + 1 := ⟨k - 1, by omega⟩
      have z := ih k (i + 1) (by omega) (by omega)
      have w1 : wrap64 (a + 3 * (i : Int) + 1) = a + 3 * (i : Int) + 1 := w64 (by omega) (by omega)
      have w2' : wrap64 (a + 3 * (i : Int) + 1 + 1) = a + 3 * (i : Int) + 1 + 1 := w64 (by omega) (by omega)
      have w3 : wrap64 (a + 3 * (i : Int) + 1 + 1 + 1) = a + 3 * ((i + 1 : Nat) : Int) := by rw [w64 (by omega) (by omega)]; omega
      have w4 : wrap64 ((i : Int) + 1) = ((i + 1 : Nat) : Int) := by rw [w64 (by omega) (by omega)]; omega
      have c1 : (i : Int) < (M.length : Int) := by clear w1 w2' w3 w4 z; omega
      have c2 : (0 : Int) ≤ (i : Int) := by clear w1 w2' w3 w4 z; omega
      simp only [laws_heldStubS.l0]
      rw [if_pos c1, if_pos c2, hM i (by clear w1 w2' w3 w4 z; omega), w1, if_pos rfl, if_pos rfl, w2', if_pos rfl, w3, w4]
      exact z
  have z := key M.length k 0 (by omega) hk
  have e : a + 3 * ((0 : Nat) : Int) = a := by omega
  rw [e] at z
  exact z
theorem mark_Lsa2 (o s a : Int) {l : List S70} {t : List S74} {k : Nat} (hl : l.length ≤ 1048576) (ht : t.length ≤ 1048576) (hk : l.length + t.length < k) :
    ∃ r M1 M2, 0 ≤ r ∧ laws_markLsa.f k o s a l t 1 = some (r, M1, M2) ∧ ∀ k', l.length + t.length < k' → laws_heldLsa.f k' o s a M1 M2 1 = some r := by
  obtain ⟨M1, m1, n1, q1⟩ := mark_LinkS2 1 (by omega) (by omega) hl (k := k) (by omega)
  obtain ⟨M2, m2, n2, q2⟩ := mark_StubS2 (1 + 2 * (l.length : Int)) (by omega) (by omega) ht (k := k) (by omega)
  refine ⟨1 + 2 * (l.length : Int) + 3 * (t.length : Int), M1, M2, by omega, ?_, fun k' hk' => ?_⟩
  · unfold laws_markLsa.f
    rw [m1]
    simp only [Option.bind_some]
    rw [m2]
    rfl
  · have e1 := held_LinkS2 1 (by omega) (by omega) (M := M1) (k := k') (by omega) (by omega) (fun j hj => q1 j (by omega))
    have e2 := held_StubS2 (1 + 2 * (l.length : Int)) (by omega) (by omega) (M := M2) (k := k') (by omega) (by omega) (fun j hj => q2 j (by omega))
    rw [n1] at e1
    rw [n2] at e2
    unfold laws_heldLsa.f
    rw [e1]
    simp only [Option.bind_some]
    rw [if_neg (by omega), e2]
    simp only [Option.bind_some]
    rw [if_neg (by omega)]
/-- A loop that appends a list's elements to another list, one by one. -/
theorem snoc_loop {α γ : Type} {F : Nat → Int → List α → Option γ} (z : α) (x : List α) {N : Nat} (hN : x.length ≤ N) {r : Option γ} (m : Nat)
    (hs : ∀ (k i : Nat) (acc : List α), i < x.length → acc.length ≤ N → F (k + 1) i acc = F k ((i : Int) + 1) (acc ++ [x.getD i z]))
    (he : ∀ k : Nat, m ≤ k → F (k + 1) (x.length : Int) x = r) : ∀ (d k i : Nat), i + d = x.length → d + m < k → F k i (x.take i) = r := by
  intro d
  induction d with
  | zero =>
    intro k i hi hk
    obtain ⟨k, rfl⟩ : ∃ m, k = m + 1 := ⟨k - 1, by omega⟩
    obtain rfl : i = x.length := by omega
    rw [List.take_of_length_le (by omega)]
    exact he k (by omega)
  | succ d ih =>
    intro k i hi hk
    obtain ⟨k, rfl⟩ : ∃ m, k = m + 1 := ⟨k - 1, by omega⟩
    have e1 : (i : Int) + 1 = ((i + 1 : Nat) : Int) := by omega
    have hx : i < x.length := by omega
    have e2 : x.take i ++ [x.getD i z] = x.take (i + 1) := by
      rw [List.take_succ_eq_append_getElem hx]
      simp [List.getD_eq_getElem?_getD, hx]
    rw [hs k i _ hx (by rw [List.length_take]; omega), e1, e2]
    exact ih k (i + 1) (by omega) (by omega)
theorem spec_copyT (o s a : Int) (l : List S70) {t : List S74} (ht : t.length ≤ 1048576) {k : Nat} (hk : t.length < k) (o' s' a' : Int) (l' : List S70) : spec_l05Copy.l1 k 0 o s a l t o' s' a' l' [] = some (o', s', a', l', t) := by
  have z := snoc_loop (F := fun k i acc => spec_l05Copy.l1 k i o s a l t o' s' a' l' acc) z74 t ht (r := some (o', s', a', l', t)) 0 (fun k i acc hi ha => by
    show spec_l05Copy.l1 (k + 1) i o s a l t o' s' a' l' acc = spec_l05Copy.l1 k ((i : Int) + 1) o s a l t o' s' a' l' _
    simp only [spec_l05Copy.l1]
    rw [if_pos (by omega), if_pos (by omega), if_pos (by omega), w64 (by omega) (by omega), rd_getT]) (fun k _ => by
    show spec_l05Copy.l1 (k + 1) (t.length : Int) o s a l t o' s' a' l' t = _
    simp only [spec_l05Copy.l1]
    rw [if_neg (by omega)]) t.length k 0 (by omega) (by omega)
  simpa using z
theorem spec_copy (o s a : Int) {l : List S70} {t : List S74} (hl : l.length ≤ 1048576) (ht : t.length ≤ 1048576) {k : Nat} (hk : l.length + t.length + 1 < k) : spec_l05Copy.f k o s a l t = some (o, s, a, l, t) := by
  have z := snoc_loop (F := fun k i acc => spec_l05Copy.l0 k i o s a l t o s a acc) z70 l hl (r := some (o, s, a, l, t)) (t.length + 1) (fun k i acc hi ha => by
    show spec_l05Copy.l0 (k + 1) i o s a l t o s a acc = spec_l05Copy.l0 k ((i : Int) + 1) o s a l t o s a _
    simp only [spec_l05Copy.l0]
    rw [if_pos (by omega), if_pos (by omega), if_pos (by omega), w64 (by omega) (by omega), rd_getL]) (fun k hk => by
    show spec_l05Copy.l0 (k + 1) (l.length : Int) o s a l t o s a l = _
    simp only [spec_l05Copy.l0]
    rw [if_neg (by omega), spec_copyT o s a l ht (by omega)]) l.length k 0 (by omega) (by omega)
  unfold spec_l05Copy.f
  simpa using z
theorem own_Lsa (o s a : Int) {l : List S70} {t : List S74} (hl : l.length ≤ 1048576) (ht : t.length ≤ 1048576) : impl_ownLsa.f o s a l t = some (o, s, a, l, t) := by
  unfold impl_ownLsa.f slices_Clone_impl_Link_impl_Link.f slices_Clone_impl_Stub_impl_Stub.f
  rw [if_pos hl, if_pos ht]; rfl
theorem both_AgeLsa (o s a y : Int) {l : List S70} {t : List S74} (hl : l.length ≤ 1048576) (ht : t.length ≤ 1048576) :
    ∃ a' b, ∀ k, l.length + t.length + 3 < k → spec_AgeLsa.f k o s a l t y = some (o, s, a', l, t, b) ∧ impl_AgeLsa.f k o s a l t y = some (o, s, a', l, t, b) := by
  by_cases c : Lok o s a l t ∧ (0 ≤ y ∧ y ≤ 60)
  · obtain ⟨L, c2⟩ := c
    have ha := L.2.2.1
    refine ⟨if a + y > 60 then 60 else a + y, true, fun k hk => ?_⟩
    obtain ⟨k, rfl⟩ : ∃ m, k = m + 1 := ⟨k - 1, by omega⟩
    obtain ⟨b, y1, y2, y3⟩ := both_Lok o s a hl ht (k := k + 1) (by omega)
    unfold spec_AgeLsa.f impl_AgeLsa.f
    rw [y1, y2, spec_copy o s a hl ht (by omega), spec_In, impl_In]
    simp only [Option.bind_some]
    rw [if_pos (y3.2 L), if_pos (y3.2 L), decide_eq_true c2]
    simp only [spec_AgeLsa.j0, impl_AgeLsa.j0]
    simp only [Bool.not_true, Bool.false_eq_true, if_false]
    unfold impl_Lsa_aged.f
    rw [own_Lsa o s a hl ht]
    simp only [Option.bind_some]
    rw [w64 (by omega) (by omega)]
    unfold mn
    have e : (if a + y < 60 then a + y else 60) = (if a + y > 60 then 60 else a + y) := by split <;> split <;> omega
    rw [e]
    by_cases g : a + y > 60
    · simp only [if_pos g, and_self]
    · simp only [if_neg g, and_self]
  · refine ⟨a, false, fun k hk => ?_⟩
    obtain ⟨k, rfl⟩ : ∃ m, k = m + 1 := ⟨k - 1, by omega⟩
    obtain ⟨b, y1, y2, y3⟩ := both_Lok o s a hl ht (k := k + 1) (by omega)
    unfold spec_AgeLsa.f impl_AgeLsa.f
    rw [y1, y2, spec_copy o s a hl ht (by omega), spec_In, impl_In]
    simp only [Option.bind_some]
    by_cases L : Lok o s a l t
    · rw [if_pos (y3.2 L), if_pos (y3.2 L), decide_eq_false (fun h => c ⟨L, h⟩)]
      simp only [spec_AgeLsa.j0, impl_AgeLsa.j0]
      rw [if_pos (by decide), if_pos (by decide), own_Lsa o s a hl ht]
      exact ⟨rfl, rfl⟩
    · rw [if_neg (fun h => L (y3.1 h)), if_neg (fun h => L (y3.1 h))]
      simp only [spec_AgeLsa.j0, impl_AgeLsa.j0]
      rw [if_pos trivial, if_pos trivial, own_Lsa o s a hl ht]
      exact ⟨rfl, rfl⟩
theorem FnExactAgeLsa : FnExactAgeLsa.Pure := by
  intro o s a l t y _ _ _ hw hv _
  have hm : l.length ≤ 9223372036854775807 := hw.1
  have hm2 : t.length ≤ 9223372036854775807 := hv.1
  obtain ⟨r, z1, z2⟩ := sz_Lsa o s a hm hm2
  obtain ⟨K, hK⟩ : ∃ K, K = l.length + t.length + 10 := ⟨_, rfl⟩
  refine ⟨K + 3, ?_⟩
  unfold laws_FnExactAgeLsa.f
  rw [z1]
  simp only [Option.bind_some]
  by_cases c : r < 0
  · rw [if_pos c]
  · obtain ⟨hl, ht⟩ := z2 c
    have hn : (l.map cvL).length = l.length := List.length_map ..
    have hn2 : (t.map cvT).length = t.length := List.length_map ..
    obtain ⟨a', b, hv⟩ := both_AgeLsa o s a y (l := l.map cvL) (t := t.map cvT) (by omega) (by omega)
    obtain ⟨h1, h2⟩ := hv (K + 3) (by omega)
    have h3 := (hv (K + 1) (by omega)).2
    obtain ⟨q, M1, M2, hq, hmk, _⟩ := mark_Lsa2 o s a (l := l.map cvL) (t := t.map cvT) (k := K + 2) (by omega) (by omega) (by omega)
    obtain ⟨q2, N1, N2, hq2, hmk2, hhd⟩ := mark_Lsa2 o s a' (l := l.map cvL) (t := t.map cvT) (k := K + 1) (by omega) (by omega) (by omega)
    rw [if_neg c, to_Lsa o s a hl ht (by omega)]
    simp only [Option.bind_some]
    rw [h1]
    simp only [Option.bind_some]
    rw [h2]
    simp only [Option.bind_some]
    rw [eq_Lsa o s a' (by omega) (by omega) (by omega)]
    simp only [Option.bind_some, if_true, bne_self_eq_false]
    simp only [laws_FnExactAgeLsa.j0]
    rw [if_neg (by decide), to_Lsa o s a hl ht (by omega)]
    simp only [Option.bind_some]
    rw [eq_Lsa o s a (by omega) (by omega) (by omega)]
    simp only [Option.bind_some, if_true]
    rw [hmk]
    simp only [Option.bind_some]
    rw [if_neg (by omega), eq_Lsa o s a' (by omega) (by omega) (by omega)]
    simp only [Option.bind_some, if_true, bne_self_eq_false]
    simp only [laws_FnExactAgeLsa.j1]
    rw [if_neg (by decide), hmk2]
    simp only [Option.bind_some]
    rw [hhd (K + 1) (by omega)]
    simp only [Option.bind_some]
    rw [if_neg (by omega), if_pos trivial, to_Lsa o s a hl ht (by omega)]
    simp only [Option.bind_some]
    rw [h3]
    simp only [Option.bind_some]
    rw [eq_Lsa o s a' (by omega) (by omega) (by omega)]
    simp only [Option.bind_some, if_true, bne_self_eq_false]
    simp only [laws_FnExactAgeLsa.j2]
    rw [if_neg (by decide), hhd K (by omega)]
    simp only [Option.bind_some]
    rw [if_neg (by omega), if_pos trivial]

end Go.Proofs.Ytiikcfaodkiakaa.Pure
