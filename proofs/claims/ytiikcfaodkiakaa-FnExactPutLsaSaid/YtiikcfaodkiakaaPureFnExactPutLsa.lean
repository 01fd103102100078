/- The plain law of PutLsa: the program's bytes of an advertisement are those of the reference. -/
import Derived.Test.YtiikcfaodkiakaaStmtFnExactPutLsa
namespace Go.Proofs.Ytiikcfaodkiakaa.Pure
open Go.RowKit Go.Proofs.Ytiikcfaodkiakaa.QFnExactPutLsa Go.Proofs.YtiikcfaodkiakaaU.PrintWords Go.Proofs.YtiikcfaodkiakaaU.PrintLast Go.Proofs.YtiikcfaodkiakaaU.PrintMore
set_option linter.unusedVariables false
set_option linter.unusedSimpArgs false

theorem len17 {l : Int} (h0 : 0 ≤ l) (h1 : l ≤ 16) : l = 0 ∨ l = 1 ∨ l = 2 ∨ l = 3 ∨ l = 4 ∨ l = 5 ∨ l = 6 ∨ l = 7 ∨ l = 8 ∨ l = 9 ∨ l = 10 ∨ l = 11 ∨ l = 12 ∨ l = 13 ∨ l = 14 ∨ l = 15 ∨ l = 16 := by omega
/-- How many addresses a prefix of length l has. -/
def psz (l : Int) : Int := 2 ^ (16 - l).toNat
theorem psz_pos (l : Int) : 0 < psz l := Int.pow_pos (by decide)
theorem psz_le {l : Int} (h0 : 0 ≤ l) (h1 : l ≤ 16) : psz l ≤ 65536 := by
  rcases len17 h0 h1 with rfl | rfl | rfl | rfl | rfl | rfl | rfl | rfl | rfl | rfl | rfl | rfl | rfl | rfl | rfl | rfl | rfl <;> decide
theorem psz_half {l : Int} (h0 : 0 ≤ l) (h1 : l ≤ 15) : psz l = 2 * psz (l + 1) := by
  rcases len17 h0 (by omega) with rfl | rfl | rfl | rfl | rfl | rfl | rfl | rfl | rfl | rfl | rfl | rfl | rfl | rfl | rfl | rfl | rfl <;> first | decide | omega
theorem psz_top {l : Int} (h0 : 0 ≤ l) (h1 : l ≤ 16) : 65536 = psz l * 2 ^ l.toNat := by
  rcases len17 h0 h1 with rfl | rfl | rfl | rfl | rfl | rfl | rfl | rfl | rfl | rfl | rfl | rfl | rfl | rfl | rfl | rfl | rfl <;> decide
theorem w64 {n : Int} (h0 : -9223372036854775808 ≤ n) (h1 : n ≤ 9223372036854775807) : wrap64 n = n := by unfold wrap64; omega
theorem shl_psz {l : Int} (h0 : 0 ≤ l) (h1 : l ≤ 16) : shl .i64 1 (16 - l) = psz l := by
  rcases len17 h0 h1 with rfl | rfl | rfl | rfl | rfl | rfl | rfl | rfl | rfl | rfl | rfl | rfl | rfl | rfl | rfl | rfl | rfl <;> decide
theorem u64w {n : Int} (h0 : 0 ≤ n) (h1 : n ≤ 16) : IntKind.u64.wrap n = n := by
  rcases len17 h0 h1 with rfl | rfl | rfl | rfl | rfl | rfl | rfl | rfl | rfl | rfl | rfl | rfl | rfl | rfl | rfl | rfl | rfl <;> decide
/-- A valid prefix. -/
def Pok (n l : Int) : Prop := 0 ≤ l ∧ l ≤ 16 ∧ 0 ≤ n ∧ n ≤ 65535 ∧ n % psz l = 0
instance (n l : Int) : Decidable (Pok n l) := by unfold Pok; infer_instance
theorem Pok.top {n l : Int} (h : Pok n l) : n + psz l ≤ 65536 := by
  obtain ⟨h0, h1, h2, h3, h4⟩ := h
  have e := psz_top h0 h1
  have p := psz_pos l
  have d := Int.emod_add_mul_ediv n (psz l)
  rw [h4, Int.zero_add] at d
  have q : n / psz l < 2 ^ l.toNat := by
    apply Int.ediv_lt_of_lt_mul p
    rw [Int.mul_comm]; omega
  have m : psz l * (n / psz l + 1) ≤ psz l * 2 ^ l.toNat := Int.mul_le_mul_of_nonneg_left (by omega) (by omega)
  rw [Int.mul_add] at m
  omega
theorem spec_In (a b c : Int) : spec_l01In.f a b c = some (decide (b ≤ a ∧ a ≤ c)) := by
  unfold spec_l01In.f
  by_cases h : b ≤ a <;> simp [h]
theorem spec_Addr (a : Int) : spec_l01Addr.f a = some (decide (0 ≤ a ∧ a ≤ 65535)) := by
  unfold spec_l01Addr.f; rw [spec_In]; rfl
theorem spec_Size {l : Int} (h0 : 0 ≤ l) (h1 : l ≤ 16) : spec_l01Size2.f l = some (psz l) := by
  unfold spec_l01Size2.f
  rw [w64 (by omega) (by omega), u64w (by omega) (by omega), if_pos (by omega), shl_psz h0 h1]
theorem spec_Pok (n l : Int) : spec_PrefixOk.f n l = some (decide (Pok n l)) := by
  unfold spec_PrefixOk.f
  rw [spec_In, spec_Addr]
  simp only [Option.bind_some, decide_eq_true_eq]
  by_cases hl : 0 ≤ l ∧ l ≤ 16
  · rw [if_pos hl]
    by_cases hn : 0 ≤ n ∧ n ≤ 65535
    · rw [if_pos hn, spec_Size hl.1 hl.2]
      have p := psz_pos l
      simp only [Option.bind_some]
      rw [if_neg (by omega), Int.tmod_eq_emod_of_nonneg hn.1]
      congr 1
      by_cases e : n % psz l = 0
      · rw [e]; simp [Pok, hl, hn, e]
      · simp [Pok, hl, hn, e]
    · rw [if_neg hn]; congr 1; symm; rw [decide_eq_false_iff_not]; unfold Pok; omega
  · rw [if_neg hl]; congr 1; symm; rw [decide_eq_false_iff_not]; unfold Pok; omega
theorem impl_In (a b c : Int) : impl_within.f a b c = some (decide (b ≤ a ∧ a ≤ c)) := by
  unfold impl_within.f
  by_cases h : b ≤ a <;> simp [h]
theorem impl_Addr (a : Int) : impl_isAddr.f a = some (decide (0 ≤ a ∧ a ≤ 65535)) := by
  unfold impl_isAddr.f; rw [impl_In]; rfl
theorem impl_Size (n : Int) {l : Int} (h0 : 0 ≤ l) (h1 : l ≤ 16) : impl_Prefix_size.f n l = some (psz l) := by
  unfold impl_Prefix_size.f
  rw [w64 (by omega) (by omega), if_pos (by omega), shl_psz h0 h1]
theorem impl_Pok (n l : Int) : impl_PrefixOk.f n l = some (decide (Pok n l)) := by
  unfold impl_PrefixOk.f
  rw [impl_In, impl_Addr]
  simp only [Option.bind_some, decide_eq_true_eq]
  by_cases hl : 0 ≤ l ∧ l ≤ 16
  · rw [if_pos hl]
    by_cases hn : 0 ≤ n ∧ n ≤ 65535
    · rw [if_pos hn, impl_Size n hl.1 hl.2]
      have p := psz_pos l
      simp only [Option.bind_some]
      rw [if_neg (by omega), Int.tmod_eq_emod_of_nonneg hn.1]
      congr 1
      by_cases e : n % psz l = 0
      · rw [e]; simp [Pok, hl, hn, e]
      · simp [Pok, hl, hn, e]
    · rw [if_neg hn]; congr 1; symm; rw [decide_eq_false_iff_not]; unfold Pok; omega
  · rw [if_neg hl]; congr 1; symm; rw [decide_eq_false_iff_not]; unfold Pok; omega
/-- A loop that asks each index and ends at the first refusal. -/
theorem all_loop {F : Nat → Int → Option Bool} {n : Nat} {P : Nat → Prop} {e : Bool}
    (hs : ∀ (k i : Nat), i < n → (∀ j, j < i → P j) → (P i ∧ F (k + 1) i = F k ((i : Int) + 1)) ∨ (¬ P i ∧ F (k + 1) i = some false))
    (he : ∀ k : Nat, (∀ j, j < n → P j) → F (k + 1) n = some e) : ∀ (d k i : Nat), i + d = n → d < k → (∀ j, j < i → P j) →
    ∃ b, F k i = some b ∧ (b = true ↔ ((∀ j, j < n → P j) ∧ e = true)) := by
  intro d
  induction d with
  | zero =>
    intro k i hi hk hp
    obtain ⟨k, rfl⟩ : ∃ m, k = m + 1 := ⟨k - 1, by omega⟩
    obtain rfl : i = n := by omega
    exact ⟨e, he k hp, ⟨fun h => ⟨hp, h⟩, fun h => h.2⟩⟩
  | succ d ih =>
    intro k i hi hk hp
    obtain ⟨k, rfl⟩ : ∃ m, k = m + 1 := ⟨k - 1, by omega⟩
    rcases hs k i (by omega) hp with ⟨h1, h2⟩ | ⟨h1, h2⟩
    · have e1 : (i : Int) + 1 = ((i + 1 : Nat) : Int) := by omega
      rw [h2, e1]
      refine ih k (i + 1) (by omega) (by omega) (fun j hj => ?_)
      by_cases hji : j = i
      · rw [hji]; exact h1
      · exact hp j (by omega)
    · refine ⟨false, h2, ⟨(fun h => by cases h), fun h => absurd (h.1 i (by omega)) h1⟩⟩
/-- A loop that copies a list, element by element. -/
theorem copy_loop {α β : Type} {F : Nat → List α → List β → Int → Option (List β)} {cv : α → β} (z : α) {N : Nat}
    (hs : ∀ (k i : Nat) (x : List α) (y : List β), x.length ≤ N → i < x.length → i < y.length → F (k + 1) x y i = F k x (y.set i (cv (x.getD i z))) ((i : Int) + 1))
    (he : ∀ (k : Nat) (x : List α) (y : List β), F (k + 1) x y x.length = some y) (x : List α) (hN : x.length ≤ N) : ∀ (d k i : Nat) (y : List β), i + d = x.length → d < k → y.length = x.length →
    y.take i = (x.take i).map cv → F k x y i = some (x.map cv) := by
  intro d
  induction d with
  | zero =>
    intro k i y hi hk hl ht
    obtain ⟨k, rfl⟩ : ∃ m, k = m + 1 := ⟨k - 1, by omega⟩
    obtain rfl : i = x.length := by omega
    rw [he]
    rw [List.take_of_length_le (by omega), List.take_of_length_le (by omega)] at ht
    rw [ht]
  | succ d ih =>
    intro k i y hi hk hl ht
    obtain ⟨k, rfl⟩ : ∃ m, k = m + 1 := ⟨k - 1, by omega⟩
    have e1 : (i : Int) + 1 = ((i + 1 : Nat) : Int) := by omega
    rw [hs k i x y hN (by omega) (by omega), e1]
    refine ih k (i + 1) _ (by omega) (by omega) (by rw [List.length_set, hl]) ?_
    have hx : i < x.length := by omega
    have hy : i < y.length := by omega
    rw [List.take_succ_eq_append_getElem (by rw [List.length_set]; exact hy), List.take_succ_eq_append_getElem hx, List.map_append, List.take_set, ht]
    congr 1
    · rw [List.set_eq_of_length_le]
      simp; omega
    · simp [List.getD_eq_getElem?_getD, hx]
/-- Two equal lists, compared element by element. -/
theorem same_loop {α : Type} {F : Nat → List α → List α → Int → Option Bool} {N : Nat}
    (hs : ∀ (k i : Nat) (x : List α), x.length ≤ N → i < x.length → F (k + 1) x x i = F k x x ((i : Int) + 1))
    (he : ∀ (k : Nat) (x : List α), F (k + 1) x x x.length = some true) (x : List α) (hN : x.length ≤ N) : ∀ (d k i : Nat), i + d = x.length → d < k → F k x x i = some true := by
  intro d
  induction d with
  | zero =>
    intro k i hi hk
    obtain ⟨k, rfl⟩ : ∃ m, k = m + 1 := ⟨k - 1, by omega⟩
    obtain rfl : i = x.length := by omega
    exact he k x
  | succ d ih =>
    intro k i hi hk
    obtain ⟨k, rfl⟩ : ∃ m, k = m + 1 := ⟨k - 1, by omega⟩
    have e1 : (i : Int) + 1 = ((i + 1 : Nat) : Int) := by omega
    rw [hs k i x hN (by omega), e1]
    exact ih k (i + 1) (by omega) (by omega)
/-- The same where what stands behind the loop wants m rounds more. -/
theorem all_loopm (m : Nat) {F : Nat → Int → Option Bool} {n : Nat} {P : Nat → Prop} {e : Bool}
    (hs : ∀ (k i : Nat), i < n → (∀ j, j < i → P j) → (P i ∧ F (k + 1) i = F k ((i : Int) + 1)) ∨ (¬ P i ∧ F (k + 1) i = some false))
    (he : ∀ k : Nat, m ≤ k → (∀ j, j < n → P j) → F (k + 1) n = some e) : ∀ (d k i : Nat), i + d = n → d + m < k → (∀ j, j < i → P j) →
    ∃ b, F k i = some b ∧ (b = true ↔ ((∀ j, j < n → P j) ∧ e = true)) := by
  intro d
  induction d with
  | zero =>
    intro k i hi hk hp
    obtain ⟨k, rfl⟩ : ∃ m, k = m + 1 := ⟨k - 1, by omega⟩
    obtain rfl : i = n := by omega
    exact ⟨e, he k (by omega) hp, ⟨fun h => ⟨hp, h⟩, fun h => h.2⟩⟩
  | succ d ih =>
    intro k i hi hk hp
    obtain ⟨k, rfl⟩ : ∃ m, k = m + 1 := ⟨k - 1, by omega⟩
    rcases hs k i (by omega) hp with ⟨h1, h2⟩ | ⟨h1, h2⟩
    · have e1 : (i : Int) + 1 = ((i + 1 : Nat) : Int) := by omega
      rw [h2, e1]
      refine ih k (i + 1) (by omega) (by omega) (fun j hj => ?_)
      by_cases hji : j = i
      · rw [hji]; exact h1
      · exact hp j (by omega)
    · refine ⟨false, h2, ⟨(fun h => by cases h), fun h => absurd (h.1 i (by omega)) h1⟩⟩
/-- A loop that looks for something in a list, from an index on. -/
theorem find_loop {α ρ : Type} {F : Nat → Int → Option ρ} {h : List α → ρ} (t : List α)
    (hs : ∀ (k i : Nat), i < t.length → (F (k + 1) i = F k ((i : Int) + 1) ∧ h (t.drop i) = h (t.drop (i + 1))) ∨ F (k + 1) i = some (h (t.drop i)))
    (he : ∀ (k : Nat), F (k + 1) t.length = some (h [])) : ∀ (d k i : Nat), i + d = t.length → d < k → F k i = some (h (t.drop i)) := by
  intro d
  induction d with
  | zero =>
    intro k i hi hk
    obtain ⟨k, rfl⟩ : ∃ m, k = m + 1 := ⟨k - 1, by omega⟩
    obtain rfl : i = t.length := by omega
    rw [he, List.drop_length]
  | succ d ih =>
    intro k i hi hk
    obtain ⟨k, rfl⟩ : ∃ m, k = m + 1 := ⟨k - 1, by omega⟩
    rcases hs k i (by omega) with ⟨h1, h2⟩ | h1
    · have e1 : (i : Int) + 1 = ((i + 1 : Nat) : Int) := by omega
      rw [h1, e1, ih k (i + 1) (by omega) (by omega), h2]
    · exact h1
theorem drop_getD {α : Type} (t : List α) (z : α) {i : Nat} (hi : i < t.length) : t.drop i = t.getD i z :: t.drop (i + 1) := by
  rw [List.drop_eq_getElem_cons hi, List.getD_eq_getElem?_getD, List.getElem?_eq_getElem hi]; rfl
theorem rd_getI (t : List Int) (i : Nat) : rd t i = t.getD i 0 := by simp [rd]
/-- Prefix a stands ahead of prefix b. -/
def Ahead (n l m k : Int) : Prop := n < m ∨ n = m ∧ l < k
theorem spec_Ahead (n l m k : Int) : ∃ b, spec_l02Ahead.f n l m k = some b ∧ (b = true ↔ Ahead n l m k) := by
  unfold spec_l02Ahead.f Ahead
  by_cases h : n < m
  · exact ⟨true, by rw [if_pos h], by simp [h]⟩
  · by_cases h2 : n = m
    · exact ⟨decide (l < k), by rw [if_neg h, if_pos h2], by simp [h2]⟩
    · exact ⟨false, by rw [if_neg h, if_neg h2], by simp [h, h2]⟩
theorem impl_Compare {n l m k : Int} (h1 : Pok n l) (h2 : Pok m k) : ∃ c, impl_comparePrefixes.f n l m k = some c ∧ (¬ c ≥ 0 ↔ Ahead n l m k) := by
  obtain ⟨a0, a1, a2, a3, _⟩ := h1
  obtain ⟨b0, b1, b2, b3, _⟩ := h2
  unfold impl_comparePrefixes.f Ahead
  by_cases h : n = m
  · refine ⟨l - k, by rw [if_pos h, w64 (by omega) (by omega)], by omega⟩
  · refine ⟨n - m, by rw [if_neg h, w64 (by omega) (by omega)], by omega⟩
/-- A link and a stub, of the laws' types and of the program's. -/
def cvL (x : S85) : S70 := ⟨x.f0, x.f1⟩
def cvT (x : S89) : S74 := ⟨⟨x.f0.f0, x.f0.f1⟩, x.f1⟩
theorem to_LinkS {l : List S85} {k : Nat} (h : l.length ≤ 1048576) (hk : l.length < k) : laws_toLinkS.f k l = some (l.map cvL) := by
  unfold laws_toLinkS.f
  rw [if_pos (by omega), if_pos (by omega)]
  refine copy_loop (F := laws_toLinkS.l0) (cv := cvL) z85 (N := 1048576) ?_ ?_ l h l.length k 0 _ (by omega) hk (by simp) (by simp)
  · intro k i x y hN hx hy
    simp only [laws_toLinkS.l0]
    rw [if_pos (by omega), if_pos (by omega)]
    unfold laws_toLink.f
    simp only [Option.bind_some]
    rw [if_pos (by omega), w64 (by omega) (by omega)]
    simp [rd_T85, cvL]
  · intro k x y
    simp only [laws_toLinkS.l0]
    rw [if_neg (by omega)]
theorem to_StubS {l : List S89} {k : Nat} (h : l.length ≤ 1048576) (hk : l.length < k) : laws_toStubS.f k l = some (l.map cvT) := by
  unfold laws_toStubS.f
  rw [if_pos (by omega), if_pos (by omega)]
  refine copy_loop (F := laws_toStubS.l0) (cv := cvT) z89 (N := 1048576) ?_ ?_ l h l.length k 0 _ (by omega) hk (by simp) (by simp)
  · intro k i x y hN hx hy
    simp only [laws_toStubS.l0]
    rw [if_pos (by omega), if_pos (by omega)]
    unfold laws_toStub.f laws_toPrefix.f
    simp only [Option.bind_some]
    rw [if_pos (by omega), w64 (by omega) (by omega)]
    simp [rd_T89, cvT]
  · intro k x y
    simp only [laws_toStubS.l0]
    rw [if_neg (by omega)]
theorem to_Lsa (o s a : Int) {l : List S85} {t : List S89} {k : Nat} (h : l.length ≤ 1048576) (h2 : t.length ≤ 1048576) (hk : l.length + t.length < k) : laws_toLsa.f k o s a l t = some (o, s, a, l.map cvL, t.map cvT) := by
  unfold laws_toLsa.f
  rw [to_LinkS h (by omega), to_StubS h2 (by omega)]; rfl
theorem eq_LinkS {l : List S70} {k : Nat} (h : l.length ≤ 1048576) (hk : l.length < k) : laws_eqLinkS.f k l l = some true := by
  unfold laws_eqLinkS.f
  rw [if_pos rfl]
  refine same_loop (F := laws_eqLinkS.l0) (N := 1048576) ?_ ?_ l h l.length k 0 (by omega) hk
  · intro k i x hN hx
    simp only [laws_eqLinkS.l0]
    rw [if_pos (by omega), if_pos (by omega), if_pos (by omega)]
    unfold laws_eqLink.f
    simp only [if_true, Option.bind_some]
    rw [w64 (by omega) (by omega)]
  · intro k x
    simp only [laws_eqLinkS.l0]
    rw [if_neg (by omega)]
theorem eq_StubS {l : List S74} {k : Nat} (h : l.length ≤ 1048576) (hk : l.length < k) : laws_eqStubS.f k l l = some true := by
  unfold laws_eqStubS.f
  rw [if_pos rfl]
  refine same_loop (F := laws_eqStubS.l0) (N := 1048576) ?_ ?_ l h l.length k 0 (by omega) hk
  · intro k i x hN hx
    simp only [laws_eqStubS.l0]
    rw [if_pos (by omega), if_pos (by omega), if_pos (by omega)]
    unfold laws_eqStub.f laws_eqPrefix.f
    simp only [if_true, Option.bind_some]
    rw [w64 (by omega) (by omega)]
  · intro k x
    simp only [laws_eqStubS.l0]
    rw [if_neg (by omega)]
theorem eq_Lsa (o s a : Int) {l : List S70} {t : List S74} {k : Nat} (h : l.length ≤ 1048576) (h2 : t.length ≤ 1048576) (hk : l.length + t.length < k) : laws_eqLsa.f k o s a l t o s a l t = some true := by
  unfold laws_eqLsa.f
  rw [if_pos rfl, if_pos rfl, if_pos rfl, eq_LinkS h (by omega), eq_StubS h2 (by omega)]; rfl
theorem sz_Lsa (o s a : Int) {l : List S85} {t : List S89} (h : l.length ≤ 9223372036854775807) (h2 : t.length ≤ 9223372036854775807) :
    ∃ r, laws_szLsa.f o s a l t 1048576 = some r ∧ (¬ r < 0 → l.length ≤ 1048576 ∧ t.length ≤ 1048576) := by
  unfold laws_szLsa.f laws_szLinkS.f
  rw [w64 (by omega) (by omega)]
  by_cases hl : l.length ≤ 1048576
  · rw [if_neg (by omega)]
    simp only [Option.bind_some]
    rw [if_neg (by omega)]
    unfold laws_szStubS.f
    rw [w64 (by omega) (by omega)]
    by_cases ht : (1048576 : Int) - l.length - t.length < 0
    · rw [if_pos ht]; exact ⟨-1, rfl, fun z => absurd (by omega : (-1 : Int) < 0) z⟩
    · rw [if_neg ht]
      simp only [Option.bind_some]
      rw [if_neg ht]
      exact ⟨_, rfl, fun _ => ⟨hl, by omega⟩⟩
  · rw [if_pos (by omega)]
    exact ⟨-1, rfl, fun z => absurd (by omega : (-1 : Int) < 0) z⟩
/-- The link at an index is valid and stands behind the one ahead of it. -/
def Lat (o : Int) (l : List S70) (j : Nat) : Prop :=
  (0 ≤ (rd_T70 l j).f0 ∧ (rd_T70 l j).f0 ≤ 9) ∧ (rd_T70 l j).f0 ≠ o ∧ (1 ≤ (rd_T70 l j).f1 ∧ (rd_T70 l j).f1 ≤ 1000) ∧ (0 < j → (rd_T70 l ((j : Int) - 1)).f0 < (rd_T70 l j).f0)
/-- The stub at an index is valid and stands behind the one ahead of it. -/
def Sat (t : List S74) (j : Nat) : Prop :=
  Pok (rd_T74 t j).f0.f0 (rd_T74 t j).f0.f1 ∧ (1 ≤ (rd_T74 t j).f1 ∧ (rd_T74 t j).f1 ≤ 1000) ∧
    (0 < j → Ahead (rd_T74 t ((j : Int) - 1)).f0.f0 (rd_T74 t ((j : Int) - 1)).f0.f1 (rd_T74 t j).f0.f0 (rd_T74 t j).f0.f1)
/-- A valid advertisement. -/
def Lok (o s a : Int) (l : List S70) (t : List S74) : Prop :=
  (0 ≤ o ∧ o ≤ 9) ∧ (1 ≤ s ∧ s ≤ 1000000) ∧ (0 ≤ a ∧ a ≤ 60) ∧ (∀ j, j < l.length → Lat o l j) ∧ (∀ j, j < t.length → Sat t j) ∧ t.length ≤ 6
theorem links_few {o : Int} {l : List S70} (h : ∀ j, j < l.length → Lat o l j) : l.length ≤ 10 := by
  have key : ∀ j : Nat, j < l.length → (j : Int) ≤ (rd_T70 l j).f0 := by
    intro j
    induction j with
    | zero => intro hj; exact (h 0 hj).1.1
    | succ j ih =>
      intro hj
      have a := ih (by omega)
      have b := (h (j + 1) hj).2.2.2 (by omega)
      have e : ((j + 1 : Nat) : Int) - 1 = (j : Int) := by omega
      rw [e] at b
      omega
  by_cases c : l.length ≤ 10
  · exact c
  · have a := key 10 (by omega)
    have b := (h 10 (by omega)).1.2
    omega
theorem spec_stubs (o s a : Int) (l : List S70) {t : List S74} (h : t.length ≤ 1048576) {k : Nat} (hk : t.length < k) : ∃ b, spec_LsaOk.l1 k 0 o s a l t = some b ∧ (b = true ↔ ∀ j, j < t.length → Sat t j) := by
  have x := all_loop (F := fun k i => spec_LsaOk.l1 k i o s a l t) (n := t.length) (P := Sat t) (e := true) ?_ ?_ t.length k 0 (by omega) hk (fun j hj => by omega)
  · obtain ⟨b, h1, h2⟩ := x
    exact ⟨b, h1, by simpa using h2⟩
  · intro k i hi hp
    simp only [spec_LsaOk.l1]
    rw [if_pos (by omega), if_pos (by omega), spec_Pok, spec_In]
    simp only [Option.bind_some, decide_eq_true_eq]
    by_cases c1 : Pok (rd_T74 t i).f0.f0 (rd_T74 t i).f0.f1
    · rw [if_pos c1]
      by_cases c2 : 1 ≤ (rd_T74 t i).f1 ∧ (rd_T74 t i).f1 ≤ 1000
      · rw [if_pos c2]
        by_cases c3 : i = 0
        · subst c3
          rw [if_neg (by omega), w64 (by omega) (by omega)]
          exact .inl ⟨⟨c1, c2, fun h => by omega⟩, rfl⟩
        · rw [if_pos (by omega), w64 (n := (i : Int) - 1) (by omega) (by omega), if_pos (by omega), if_pos (by omega)]
          obtain ⟨b, hb, hb2⟩ := spec_Ahead (rd_T74 t ((i : Int) - 1)).f0.f0 (rd_T74 t ((i : Int) - 1)).f0.f1 (rd_T74 t i).f0.f0 (rd_T74 t i).f0.f1
          rw [hb]
          simp only [Option.bind_some]
          by_cases c4 : b = true
          · rw [if_pos c4, w64 (by omega) (by omega)]
            exact .inl ⟨⟨c1, c2, fun _ => hb2.1 c4⟩, rfl⟩
          · rw [if_neg c4]
            exact .inr ⟨fun h => c4 (hb2.2 (h.2.2 (by omega))), rfl⟩
      · rw [if_neg c2]
        exact .inr ⟨fun h => c2 h.2.1, rfl⟩
    · rw [if_neg c1]
      exact .inr ⟨fun h => c1 h.1, rfl⟩
  · intro k _
    simp only [spec_LsaOk.l1]
    rw [if_neg (by omega)]
theorem spec_links (o s a : Int) {l : List S70} (hl : l.length ≤ 1048576) {t : List S74} (h : t.length ≤ 1048576) {k : Nat} (hk : l.length + t.length + 1 < k) :
    ∃ b, spec_LsaOk.l0 k 0 o s a l t = some b ∧ (b = true ↔ ((∀ j, j < l.length → Lat o l j) ∧ ∀ j, j < t.length → Sat t j)) := by
  obtain ⟨e, _, e2⟩ := spec_stubs o s a l h (k := t.length + 1) (by omega)
  have x := all_loopm (t.length + 1) (F := fun k i => spec_LsaOk.l0 k i o s a l t) (n := l.length) (P := Lat o l) (e := e) ?_ ?_ l.length k 0 (by omega) (by omega) (fun j hj => by omega)
  · obtain ⟨b, h1, h2⟩ := x
    exact ⟨b, h1, by rw [h2, e2]⟩
  · intro k i hi hp
    simp only [spec_LsaOk.l0]
    rw [if_pos (by omega), if_pos (by omega), spec_In, spec_In]
    simp only [Option.bind_some, decide_eq_true_eq]
    by_cases c1 : 0 ≤ (rd_T70 l i).f0 ∧ (rd_T70 l i).f0 ≤ 9
    · rw [if_pos c1]
      by_cases c2 : (rd_T70 l i).f0 = o
      · rw [if_pos c2]
        exact .inr ⟨fun h => h.2.1 c2, rfl⟩
      · rw [if_neg c2]
        by_cases c3 : 1 ≤ (rd_T70 l i).f1 ∧ (rd_T70 l i).f1 ≤ 1000
        · rw [if_pos c3]
          by_cases c4 : i = 0
          · subst c4
            rw [if_neg (by omega), w64 (by omega) (by omega)]
            exact .inl ⟨⟨c1, c2, c3, fun h => by omega⟩, rfl⟩
          · rw [if_pos (by omega), w64 (n := (i : Int) - 1) (by omega) (by omega), if_pos (by omega), if_pos (by omega)]
            by_cases c5 : (rd_T70 l ((i : Int) - 1)).f0 ≥ (rd_T70 l i).f0
            · rw [if_pos c5]
              refine .inr ⟨fun h => ?_, rfl⟩
              have := h.2.2.2 (by omega)
              omega
            · rw [if_neg c5, w64 (by omega) (by omega)]
              exact .inl ⟨⟨c1, c2, c3, fun _ => by omega⟩, rfl⟩
        · rw [if_neg c3]
          exact .inr ⟨fun h => c3 h.2.2.1, rfl⟩
    · rw [if_neg c1]
      exact .inr ⟨fun h => c1 h.1, rfl⟩
  · intro k hk _
    simp only [spec_LsaOk.l0]
    rw [if_neg (by omega)]
    obtain ⟨e', f1, f2⟩ := spec_stubs o s a l h (k := k) (by omega)
    have : e' = e := by rw [Bool.eq_iff_iff, f2, e2]
    rw [f1, this]
theorem spec_Lok (o s a : Int) {l : List S70} (hl : l.length ≤ 1048576) {t : List S74} (h : t.length ≤ 1048576) {k : Nat} (hk : l.length + t.length + 2 < k) :
    ∃ b, spec_LsaOk.f k o s a l t = some b ∧ (b = true ↔ Lok o s a l t) := by
  obtain ⟨k, rfl⟩ : ∃ m, k = m + 1 := ⟨k - 1, by omega⟩
  unfold spec_LsaOk.f Lok
  rw [spec_In, spec_In, spec_In]
  simp only [Option.bind_some, decide_eq_true_eq, spec_LsaOk.j0]
  by_cases c1 : 0 ≤ o ∧ o ≤ 9
  · rw [if_pos c1]
    by_cases c2 : 1 ≤ s ∧ s ≤ 1000000
    · rw [if_pos c2]
      by_cases c3 : 0 ≤ a ∧ a ≤ 60
      · rw [if_pos c3]
        by_cases c4 : (l.length : Int) > 10
        · rw [if_pos c4, if_pos trivial]
          exact ⟨false, rfl, (fun z => by cases z), fun z => by have := links_few z.2.2.2.1; omega⟩
        · rw [if_neg c4]
          by_cases c5 : (t.length : Int) > 6
          · rw [if_pos c5]
            exact ⟨false, rfl, (fun z => by cases z), fun z => by have := z.2.2.2.2.2; omega⟩
          · rw [if_neg c5]
            obtain ⟨b, h1, h2⟩ := spec_links o s a hl h (k := k) (by omega)
            exact ⟨b, h1, by rw [h2]; exact ⟨fun z => ⟨c1, c2, c3, z.1, z.2, by omega⟩, fun z => ⟨z.2.2.2.1, z.2.2.2.2.1⟩⟩⟩
      · rw [if_neg c3, if_pos trivial]
        exact ⟨false, rfl, (fun z => by cases z), fun z => absurd z.2.2.1 c3⟩
    · rw [if_neg c2, if_pos trivial]
      exact ⟨false, rfl, (fun z => by cases z), fun z => absurd z.2.1 c2⟩
  · rw [if_neg c1, if_pos trivial]
    exact ⟨false, rfl, (fun z => by cases z), fun z => absurd z.1 c1⟩
theorem impl_links (o : Int) {l : List S70} (hl : l.length ≤ 1048576) {k : Nat} (hk : l.length < k) : ∃ b, impl_areLinks.f k o l = some b ∧ (b = true ↔ ∀ j, j < l.length → Lat o l j) := by
  unfold impl_areLinks.f
  have x := all_loop (F := fun k i => impl_areLinks.l0 k o l l l.length i) (n := l.length) (P := Lat o l) (e := true) ?_ ?_ l.length k 0 (by omega) hk (fun j hj => by omega)
  · obtain ⟨b, h1, h2⟩ := x
    exact ⟨b, h1, by simpa using h2⟩
  · intro k i hi hp
    simp only [impl_areLinks.l0]
    rw [if_pos (by omega), if_pos (by omega), if_pos (by omega), impl_In, impl_In]
    simp only [Option.bind_some, decide_eq_true_eq]
    by_cases c1 : 0 ≤ (rd_T70 l i).f0 ∧ (rd_T70 l i).f0 ≤ 9
    · rw [if_pos c1]
      by_cases c3 : 1 ≤ (rd_T70 l i).f1 ∧ (rd_T70 l i).f1 ≤ 1000
      · rw [if_pos c3]
        by_cases c2 : (rd_T70 l i).f0 = o
        · rw [if_pos c2]
          exact .inr ⟨fun h => h.2.1 c2, rfl⟩
        · rw [if_neg c2]
          by_cases c4 : i = 0
          · subst c4
            rw [if_neg (by omega), w64 (by omega) (by omega)]
            exact .inl ⟨⟨c1, c2, c3, fun h => by omega⟩, rfl⟩
          · rw [if_pos (by omega), w64 (n := (i : Int) - 1) (by omega) (by omega), if_pos (by omega), if_pos (by omega)]
            by_cases c5 : (rd_T70 l i).f0 ≤ (rd_T70 l ((i : Int) - 1)).f0
            · rw [if_pos c5]
              refine .inr ⟨fun h => ?_, rfl⟩
              have := h.2.2.2 (by omega)
              omega
            · rw [if_neg c5, w64 (by omega) (by omega)]
              exact .inl ⟨⟨c1, c2, c3, fun _ => by omega⟩, rfl⟩
      · rw [if_neg c3]
        exact .inr ⟨fun h => c3 h.2.2.1, rfl⟩
    · rw [if_neg c1]
      exact .inr ⟨fun h => c1 h.1, rfl⟩
  · intro k _
    simp only [impl_areLinks.l0]
    rw [if_neg (by omega)]
theorem impl_stubs {t : List S74} (h : t.length ≤ 1048576) {k : Nat} (hk : t.length < k) : ∃ b, impl_areStubs.f k t = some b ∧ (b = true ↔ (∀ j, j < t.length → Sat t j) ∧ t.length ≤ 6) := by
  unfold impl_areStubs.f
  have x := all_loop (F := fun k i => impl_areStubs.l0 k t t t.length i) (n := t.length) (P := Sat t) (e := decide (t.length ≤ 6)) ?_ ?_ t.length k 0 (by omega) hk (fun j hj => by omega)
  · obtain ⟨b, h1, h2⟩ := x
    exact ⟨b, h1, by simpa using h2⟩
  · intro k i hi hp
    simp only [impl_areStubs.l0]
    rw [if_pos (by omega), if_pos (by omega), if_pos (by omega), impl_Pok, impl_In]
    simp only [Option.bind_some, decide_eq_true_eq]
    by_cases c1 : Pok (rd_T74 t i).f0.f0 (rd_T74 t i).f0.f1
    · rw [if_pos c1]
      by_cases c2 : 1 ≤ (rd_T74 t i).f1 ∧ (rd_T74 t i).f1 ≤ 1000
      · rw [if_pos c2]
        by_cases c3 : i = 0
        · subst c3
          rw [if_neg (by omega), w64 (by omega) (by omega)]
          exact .inl ⟨⟨c1, c2, fun h => by omega⟩, rfl⟩
        · rw [if_pos (by omega), w64 (n := (i : Int) - 1) (by omega) (by omega), if_pos (by omega), if_pos (by omega)]
          have e1 : (((i - 1 : Nat) : Int)) = (i : Int) - 1 := by omega
          have pv := (hp (i - 1) (by omega)).1
          rw [e1] at pv
          obtain ⟨b, hb, hb2⟩ := impl_Compare pv c1
          rw [hb]
          simp only [Option.bind_some]
          by_cases c4 : b ≥ 0
          · rw [if_pos c4]
            exact .inr ⟨fun h => hb2.2 (h.2.2 (by omega)) c4, rfl⟩
          · rw [if_neg c4, w64 (by omega) (by omega)]
            exact .inl ⟨⟨c1, c2, fun _ => hb2.1 c4⟩, rfl⟩
      · rw [if_neg c2]
        exact .inr ⟨fun h => c2 h.2.1, rfl⟩
    · rw [if_neg c1]
      exact .inr ⟨fun h => c1 h.1, rfl⟩
  · intro k _
    simp only [impl_areStubs.l0]
    rw [if_neg (by omega)]
    congr 1
    rw [decide_eq_decide]; omega
theorem impl_Lok (o s a : Int) {l : List S70} (hl : l.length ≤ 1048576) {t : List S74} (h : t.length ≤ 1048576) {k : Nat} (hk : l.length + t.length < k) :
    ∃ b, impl_LsaOk.f k o s a l t = some b ∧ (b = true ↔ Lok o s a l t) := by
  unfold impl_LsaOk.f Lok
  obtain ⟨b1, h1, h2⟩ := impl_links o hl (k := k) (by omega)
  obtain ⟨b2, h3, h4⟩ := impl_stubs h (k := k) (by omega)
  rw [impl_In, impl_In, impl_In, h1, h3]
  simp only [Option.bind_some, decide_eq_true_eq]
  by_cases c1 : 0 ≤ o ∧ o ≤ 9
  · rw [if_pos c1]
    by_cases c2 : 1 ≤ s ∧ s ≤ 1000000
    · rw [if_pos c2]
      by_cases c3 : 0 ≤ a ∧ a ≤ 60
      · rw [if_pos c3]
        by_cases c4 : b1 = true
        · rw [if_pos c4]
          exact ⟨b2, rfl, fun z => ⟨c1, c2, c3, h2.1 c4, (h4.1 z).1, (h4.1 z).2⟩, fun z => h4.2 z.2.2.2.2⟩
        · rw [if_neg c4]
          exact ⟨false, rfl, (fun z => by cases z), fun z => absurd (h2.2 z.2.2.2.1) c4⟩
      · rw [if_neg c3]
        exact ⟨false, rfl, (fun z => by cases z), fun z => absurd z.2.2.1 c3⟩
    · rw [if_neg c2]
      exact ⟨false, rfl, (fun z => by cases z), fun z => absurd z.2.1 c2⟩
  · rw [if_neg c1]
    exact ⟨false, rfl, (fun z => by cases z), fun z => absurd z.1 c1⟩
/-- Both ask the same of an advertisement. -/
theorem both_Lok (o s a : Int) {l : List S70} (hl : l.length ≤ 1048576) {t : List S74} (h : t.length ≤ 1048576) {k : Nat} (hk : l.length + t.length + 2 < k) :
    ∃ b, spec_LsaOk.f k o s a l t = some b ∧ impl_LsaOk.f k o s a l t = some b ∧ (b = true ↔ Lok o s a l t) := by
  obtain ⟨b1, s1, s2⟩ := spec_Lok o s a hl h hk
  obtain ⟨b2, i1, i2⟩ := impl_Lok o s a hl h (k := k) (by omega)
  have e : b2 = b1 := by rw [Bool.eq_iff_iff, i2, s2]
  exact ⟨b1, s1, by rw [i1, e], s2⟩
theorem i64_and255 {x : Int} (h0 : 0 ≤ x) (h1 : x < 2147483648) : Go.bits .and .i64 x 255 = x % 256 :=
  bits_mask .i64 31 (by decide) (fun n a b => by rw [IntKind.wrap_i64]; omega) 8 (by decide) x h0 h1
/-- A byte of a number. -/
def wb (x s : Int) : Int := (shr .i64 x s) % 256
theorem wide_digit {x : Int} (s : Int) (h0 : 0 ≤ x) (h1 : x ≤ 16777215) : (Go.bits .and .i64 (shr .i64 x s) 255) % 256 = wb x s := by
  have a : 0 ≤ shr .i64 x s := by unfold shr; exact Int.ediv_nonneg h0 (Int.le_of_lt (Int.pow_pos (by decide)))
  have b : shr .i64 x s ≤ x := by unfold shr; exact Int.ediv_le_self _ h0
  rw [i64_and255 a (by omega)]
  unfold wb; omega
def w2 (x : Int) : List Int := [wb x (8 * 1), wb x (8 * 0)]
def w3 (x : Int) : List Int := [wb x (8 * 2), wb x (8 * 1), wb x (8 * 0)]
theorem spec_wide_step {k : Nat} {x i : Int} {acc : List Int} (hi : i = 0 ∨ i = 1 ∨ i = 2) (h0 : 0 ≤ x) (h1 : x ≤ 16777215) (ha : acc.length ≤ 1048576) :
    spec_l05Wide.l0 (k + 1) x acc i = spec_l05Wide.l0 k x (acc ++ [wb x (8 * i)]) (i - 1) := by
  have e : IntKind.u64.wrap (wrap64 (8 * i)) = 8 * i := by rw [w64 (by omega) (by omega), u64w (by omega) (by omega)]
  simp only [spec_l05Wide.l0]
  rw [e, wide_digit _ h0 h1, if_pos (by omega), if_pos (by omega), if_pos (by omega), w64 (by omega) (by omega)]
theorem spec_wide_end {k : Nat} {x : Int} {acc : List Int} : spec_l05Wide.l0 (k + 1) x acc (-1) = some acc := by
  simp only [spec_l05Wide.l0]
  rw [if_neg (by omega)]
theorem spec_wide2 {k : Nat} {x : Int} (h0 : 0 ≤ x) (h1 : x ≤ 16777215) (hk : 5 < k) : spec_l05Wide.f k x 2 = some (w2 x) := by
  obtain ⟨k, rfl⟩ : ∃ m, k = m + 1 + 1 + 1 := ⟨k - 3, by omega⟩
  unfold spec_l05Wide.f
  have a : wrap64 (2 - 1) = 1 := w64 (by omega) (by omega)
  have b : (1 : Int) - 1 = 0 := rfl
  have c : (0 : Int) - 1 = -1 := rfl
  rw [a, spec_wide_step (.inr (.inl rfl)) h0 h1 (by simp), b, spec_wide_step (.inl rfl) h0 h1 (by simp), c, spec_wide_end]; rfl
theorem spec_wide3 {k : Nat} {x : Int} (h0 : 0 ≤ x) (h1 : x ≤ 16777215) (hk : 5 < k) : spec_l05Wide.f k x 3 = some (w3 x) := by
  obtain ⟨k, rfl⟩ : ∃ m, k = m + 1 + 1 + 1 + 1 := ⟨k - 4, by omega⟩
  unfold spec_l05Wide.f
  have a : wrap64 (3 - 1) = 2 := w64 (by omega) (by omega)
  have b2 : (2 : Int) - 1 = 1 := rfl
  have b : (1 : Int) - 1 = 0 := rfl
  have c : (0 : Int) - 1 = -1 := rfl
  rw [a, spec_wide_step (.inr (.inr rfl)) h0 h1 (by simp), b2, spec_wide_step (.inr (.inl rfl)) h0 h1 (by simp), b, spec_wide_step (.inl rfl) h0 h1 (by simp), c, spec_wide_end]; rfl
theorem impl_big_step {k : Nat} {x i : Int} {acc : List Int} (hi : i = 0 ∨ i = 1 ∨ i = 2) (ha : acc.length ≤ 1048576) :
    impl_big.l0 (k + 1) acc x i = impl_big.l0 k (acc ++ [wb x (8 * i)]) x (i - 1) := by
  have e : wrap64 (8 * i) = 8 * i := w64 (by omega) (by omega)
  simp only [impl_big.l0]
  rw [e, if_pos (by omega), if_pos (by omega), if_pos (by omega), w64 (by omega) (by omega)]; rfl
theorem impl_big_end {k : Nat} {x : Int} {acc : List Int} : impl_big.l0 (k + 1) acc x (-1) = some acc := by
  simp only [impl_big.l0]
  rw [if_neg (by omega)]
theorem impl_big2 {k : Nat} {x : Int} {l : List Int} (hl : l.length ≤ 1000) (hk : 5 < k) : impl_big.f k l x 2 = some (l ++ w2 x) := by
  obtain ⟨k, rfl⟩ : ∃ m, k = m + 1 + 1 + 1 := ⟨k - 3, by omega⟩
  unfold impl_big.f
  have a : wrap64 (2 - 1) = 1 := w64 (by omega) (by omega)
  have b : (1 : Int) - 1 = 0 := rfl
  have c : (0 : Int) - 1 = -1 := rfl
  rw [a, impl_big_step (.inr (.inl rfl)) (by omega), b, impl_big_step (.inl rfl) (by simp; omega), c, impl_big_end, List.append_assoc]; rfl
theorem impl_big3 {k : Nat} {x : Int} {l : List Int} (hl : l.length ≤ 1000) (hk : 5 < k) : impl_big.f k l x 3 = some (l ++ w3 x) := by
  obtain ⟨k, rfl⟩ : ∃ m, k = m + 1 + 1 + 1 + 1 := ⟨k - 4, by omega⟩
  unfold impl_big.f
  have a : wrap64 (3 - 1) = 2 := w64 (by omega) (by omega)
  have b2 : (2 : Int) - 1 = 1 := rfl
  have b : (1 : Int) - 1 = 0 := rfl
  have c : (0 : Int) - 1 = -1 := rfl
  rw [a, impl_big_step (.inr (.inr rfl)) (by omega), b2, impl_big_step (.inr (.inl rfl)) (by simp; omega), b, impl_big_step (.inl rfl) (by simp; omega), c, impl_big_end, List.append_assoc, List.append_assoc]; rfl
theorem app_loop {F : Nat → List Int → List Int → Int → Option (List Int)} (x : List Int) (hx : x.length ≤ 1000)
    (hs : ∀ (k i : Nat) (acc : List Int), i < x.length → acc.length ≤ 10000 → F (k + 1) x acc i = F k x (acc ++ [rd x i]) ((i : Int) + 1))
    (he : ∀ (k : Nat) (acc : List Int), F (k + 1) x acc x.length = some acc) : ∀ (d k i : Nat) (acc : List Int), i + d = x.length → d < k → acc.length ≤ 1000 + i → F k x acc i = some (acc ++ x.drop i) := by
  intro d
  induction d with
  | zero =>
    intro k i acc hi hk ha
    obtain ⟨k, rfl⟩ : ∃ m, k = m + 1 := ⟨k - 1, by omega⟩
    obtain rfl : i = x.length := by omega
    rw [he, List.drop_length, List.append_nil]
  | succ d ih =>
    intro k i acc hi hk ha
    obtain ⟨k, rfl⟩ : ∃ m, k = m + 1 := ⟨k - 1, by omega⟩
    have e1 : (i : Int) + 1 = ((i + 1 : Nat) : Int) := by omega
    have hil : i < x.length := by omega
    rw [hs k i acc hil (by omega), e1, ih k (i + 1) _ (by omega) (by omega) (by simp; omega), drop_getD x 0 hil, ← rd_getI, List.append_assoc]; rfl
theorem spec_bytes {x : List Int} (hx : x.length ≤ 1000) {k : Nat} (hk : x.length < k) : spec_l01Bytes.f k x = some x := by
  have z := app_loop (F := fun k x acc i => spec_l01Bytes.l0 k x acc i) x hx ?_ ?_ x.length k 0 [] (by omega) hk (by simp)
  · exact z
  · intro k i acc hi ha
    simp only [spec_l01Bytes.l0]
    rw [if_pos (by omega), if_pos (by omega), if_pos (by omega), w64 (by omega) (by omega)]
  · intro k acc
    simp only [spec_l01Bytes.l0]
    rw [if_neg (by omega)]
theorem spec_join {a x : List Int} (ha : a.length ≤ 1000) (hx : x.length ≤ 1000) {k : Nat} (hk : a.length + x.length < k) : spec_l01Join.f k a x = some (a ++ x) := by
  have z := app_loop (F := fun k x acc i => spec_l01Join.l0 k x acc i) x hx ?_ ?_ x.length k 0 a (by omega) (by omega) (by omega)
  · unfold spec_l01Join.f
    rw [spec_bytes ha (by omega)]
    exact z
  · intro k i acc hi ha
    simp only [spec_l01Join.l0]
    rw [if_pos (by omega), if_pos (by omega), if_pos (by omega), w64 (by omega) (by omega)]
  · intro k acc
    simp only [spec_l01Join.l0]
    rw [if_neg (by omega)]
/-- The bytes of a link, of a stub, of an advertisement. -/
def linkB (x : S70) : List Int := (x.f0 % 256) :: w2 x.f1
def stubB (x : S74) : List Int := w2 x.f0.f0 ++ (x.f0.f1 % 256) :: w2 x.f1
def lsaB (o s : Int) (l : List S70) (t : List S74) : List Int :=
  (o % 256) :: (w3 s ++ ((l.length : Int) % 256) :: (l.flatMap linkB ++ ((t.length : Int) % 256) :: t.flatMap stubB))
theorem rd_getL (l : List S70) (i : Nat) : rd_T70 l i = l.getD i z70 := by simp [rd_T70]
theorem rd_getT (l : List S74) (i : Nat) : rd_T74 l i = l.getD i z74 := by simp [rd_T74]
theorem spec_stubB (o s a : Int) (l : List S70) {t : List S74} (h : ∀ j, j < t.length → Sat t j) (h6 : t.length ≤ 6) : ∀ (d k i : Nat) (acc : List Int), i + d = t.length → d + 1000 < k → acc.length ≤ 100 + 5 * i →
    spec_LsaBytes.l1 k acc i o s a l t = some (acc ++ (t.drop i).flatMap stubB) := by
  intro d
  induction d with
  | zero =>
    intro k i acc hi hk ha
    obtain ⟨k, rfl⟩ : ∃ m, k = m + 1 := ⟨k - 1, by omega⟩
    obtain rfl : i = t.length := by omega
    simp only [spec_LsaBytes.l1]
    rw [if_neg (by omega), List.drop_length]
    simp
  | succ d ih =>
    intro k i acc hi hk ha
    obtain ⟨k, rfl⟩ : ∃ m, k = m + 1 := ⟨k - 1, by omega⟩
    have e1 : (i : Int) + 1 = ((i + 1 : Nat) : Int) := by omega
    have hil : i < t.length := by omega
    obtain ⟨⟨p1, p2, p3, p4, _⟩, ⟨q1, q2⟩, _⟩ := h i hil
    simp only [spec_LsaBytes.l1]
    rw [if_pos (by omega), if_pos (by omega), spec_wide2 p3 (by omega) (by omega)]
    simp only [Option.bind_some]
    rw [spec_join (by omega) (by simp [w2]) (by simp [w2]; omega)]
    simp only [Option.bind_some]
    rw [if_pos (by simp [w2]; omega), spec_wide2 (by omega) (by omega) (by omega)]
    simp only [Option.bind_some]
    rw [spec_join (by simp [w2]; omega) (by simp [w2]) (by simp [w2]; omega)]
    simp only [Option.bind_some]
    rw [w64 (by omega) (by omega), e1, ih k (i + 1) _ (by omega) (by omega) (by simp [w2]; omega), drop_getD t z74 hil, ← rd_getT]
    simp [stubB]
theorem impl_stubB {t : List S74} (h6 : t.length ≤ 6) : ∀ (d k i : Nat) (acc : List Int), i + d = t.length → d + 1000 < k → acc.length ≤ 100 + 5 * i →
    impl_Lsa_bytes.l1 k acc t t.length i = some (acc ++ (t.drop i).flatMap stubB) := by
  intro d
  induction d with
  | zero =>
    intro k i acc hi hk ha
    obtain ⟨k, rfl⟩ : ∃ m, k = m + 1 := ⟨k - 1, by omega⟩
    obtain rfl : i = t.length := by omega
    simp only [impl_Lsa_bytes.l1]
    rw [if_neg (by omega), List.drop_length]
    simp
  | succ d ih =>
    intro k i acc hi hk ha
    obtain ⟨k, rfl⟩ : ∃ m, k = m + 1 := ⟨k - 1, by omega⟩
    have e1 : (i : Int) + 1 = ((i + 1 : Nat) : Int) := by omega
    have hil : i < t.length := by omega
    simp only [impl_Lsa_bytes.l1]
    rw [if_pos (by omega), if_pos (by omega), if_pos (by omega), impl_big2 (by omega) (by omega)]
    simp only [Option.bind_some]
    rw [if_pos (by simp [w2]; omega), impl_big2 (by simp [w2]; omega) (by omega)]
    simp only [Option.bind_some]
    rw [w64 (by omega) (by omega), e1, ih k (i + 1) _ (by omega) (by omega) (by simp [w2]; omega), drop_getD t z74 hil, ← rd_getT]
    simp [stubB]
theorem spec_linkB (o s a : Int) {l : List S70} (hl : ∀ j, j < l.length → Lat o l j) (h10 : l.length ≤ 10) {t : List S74} (h : ∀ j, j < t.length → Sat t j) (h6 : t.length ≤ 6) : ∀ (d k i : Nat) (acc : List Int), i + d = l.length → d + 1010 < k → acc.length ≤ 10 + 3 * i →
    spec_LsaBytes.l0 k acc i o s a l t = some (acc ++ ((l.drop i).flatMap linkB ++ ((t.length : Int) % 256) :: t.flatMap stubB)) := by
  intro d
  induction d with
  | zero =>
    intro k i acc hi hk ha
    obtain ⟨k, rfl⟩ : ∃ m, k = m + 1 := ⟨k - 1, by omega⟩
    obtain rfl : i = l.length := by omega
    have z := spec_stubB o s a l h h6 t.length k 0 (acc ++ [(t.length : Int) % 256]) (by omega) (by omega) (by simp; omega)
    have z' : spec_LsaBytes.l1 k (acc ++ [(t.length : Int) % 256]) 0 o s a l t = some ((acc ++ [(t.length : Int) % 256]) ++ t.flatMap stubB) := z
    simp only [spec_LsaBytes.l0, Option.bind_some]
    rw [if_neg (by omega), List.drop_length, if_pos (by simp; omega), z']
    simp
  | succ d ih =>
    intro k i acc hi hk ha
    obtain ⟨k, rfl⟩ : ∃ m, k = m + 1 := ⟨k - 1, by omega⟩
    have e1 : (i : Int) + 1 = ((i + 1 : Nat) : Int) := by omega
    have hil : i < l.length := by omega
    obtain ⟨_, _, ⟨q1, q2⟩, _⟩ := hl i hil
    simp only [spec_LsaBytes.l0, Option.bind_some]
    rw [if_pos (by omega), if_pos (by omega), if_pos (by simp; omega), spec_wide2 (by omega) (by omega) (by omega)]
    simp only [Option.bind_some]
    rw [spec_join (by simp; omega) (by simp [w2]) (by simp [w2]; omega)]
    simp only [Option.bind_some]
    rw [w64 (by omega) (by omega), e1, ih k (i + 1) _ (by omega) (by omega) (by simp [w2]; omega), drop_getD l z70 hil, ← rd_getL]
    simp [linkB]
theorem impl_linkB (o s a : Int) {l : List S70} (h10 : l.length ≤ 10) {t : List S74} (h6 : t.length ≤ 6) : ∀ (d k i : Nat) (acc : List Int), i + d = l.length → d + 1010 < k → acc.length ≤ 10 + 3 * i →
    impl_Lsa_bytes.l0 k acc l l.length i o s a l t = some (acc ++ ((l.drop i).flatMap linkB ++ ((t.length : Int) % 256) :: t.flatMap stubB)) := by
  intro d
  induction d with
  | zero =>
    intro k i acc hi hk ha
    obtain ⟨k, rfl⟩ : ∃ m, k = m + 1 := ⟨k - 1, by omega⟩
    obtain rfl : i = l.length := by omega
    have z := impl_stubB h6 t.length k 0 (acc ++ [(t.length : Int) % 256]) (by omega) (by omega) (by simp; omega)
    have z' : impl_Lsa_bytes.l1 k (acc ++ [(t.length : Int) % 256]) t t.length 0 = some ((acc ++ [(t.length : Int) % 256]) ++ t.flatMap stubB) := z
    simp only [impl_Lsa_bytes.l0]
    rw [if_neg (by omega), List.drop_length, if_pos (by omega), z']
    simp
  | succ d ih =>
    intro k i acc hi hk ha
    obtain ⟨k, rfl⟩ : ∃ m, k = m + 1 := ⟨k - 1, by omega⟩
    have e1 : (i : Int) + 1 = ((i + 1 : Nat) : Int) := by omega
    have hil : i < l.length := by omega
    simp only [impl_Lsa_bytes.l0]
    rw [if_pos (by omega), if_pos (by omega), if_pos (by omega), if_pos (by omega), impl_big2 (by simp; omega) (by omega)]
    simp only [Option.bind_some]
    rw [w64 (by omega) (by omega), e1, ih k (i + 1) _ (by omega) (by omega) (by simp [w2]; omega), drop_getD l z70 hil, ← rd_getL]
    simp [linkB]
theorem spec_LsaB {o s a : Int} {l : List S70} {t : List S74} (L : Lok o s a l t) {k : Nat} (hk : 1100 < k) : spec_LsaBytes.f k o s a l t = some (lsaB o s l t) := by
  obtain ⟨h1, h2, h3, h4, h5, h6⟩ := L
  have h10 := links_few h4
  obtain ⟨b, y1, _, y3⟩ := both_Lok o s a (l := l) (by omega) (t := t) (by omega) (k := k) (by omega)
  have z := spec_linkB o s a h4 h10 h5 h6 l.length k 0 (((o % 256) :: w3 s) ++ [(l.length : Int) % 256]) (by omega) (by omega) (by simp [w3])
  have z' : spec_LsaBytes.l0 k (((o % 256) :: w3 s) ++ [(l.length : Int) % 256]) 0 o s a l t = some ((((o % 256) :: w3 s) ++ [(l.length : Int) % 256]) ++ (l.flatMap linkB ++ ((t.length : Int) % 256) :: t.flatMap stubB)) := z
  unfold spec_LsaBytes.f
  rw [y1]
  simp only [Option.bind_some]
  rw [if_pos (y3.2 ⟨h1, h2, h3, h4, h5, h6⟩), spec_wide3 (by omega) (by omega) (by omega)]
  simp only [Option.bind_some]
  rw [spec_join (by simp) (by simp [w3]) (by simp [w3]; omega)]
  simp only [Option.bind_some]
  rw [if_pos (by simp [w3])]
  show spec_LsaBytes.l0 k (((o % 256) :: w3 s) ++ [(l.length : Int) % 256]) 0 o s a l t = _
  rw [z']
  simp [lsaB]
theorem impl_LsaB {o s a : Int} {l : List S70} {t : List S74} (L : Lok o s a l t) {k : Nat} (hk : 1100 < k) : impl_Lsa_bytes.f k o s a l t = some (lsaB o s l t) := by
  obtain ⟨h1, h2, h3, h4, h5, h6⟩ := L
  have h10 := links_few h4
  have z := impl_linkB o s a h10 h6 l.length k 0 (((o % 256) :: w3 s) ++ [(l.length : Int) % 256]) (by omega) (by omega) (by simp [w3])
  have z' : impl_Lsa_bytes.l0 k (((o % 256) :: w3 s) ++ [(l.length : Int) % 256]) l l.length 0 o s a l t = some ((((o % 256) :: w3 s) ++ [(l.length : Int) % 256]) ++ (l.flatMap linkB ++ ((t.length : Int) % 256) :: t.flatMap stubB)) := z
  unfold impl_Lsa_bytes.f
  rw [impl_big3 (by simp) (by omega)]
  simp only [Option.bind_some]
  rw [if_pos (by simp [w3])]
  show impl_Lsa_bytes.l0 k (((o % 256) :: w3 s) ++ [(l.length : Int) % 256]) l l.length 0 o s a l t = _
  rw [z']
  simp [lsaB]
theorem lsaB_len {o s a : Int} {l : List S70} {t : List S74} (L : Lok o s a l t) : (lsaB o s l t).length ≤ 1000 := by
  obtain ⟨h1, h2, h3, h4, h5, h6⟩ := L
  have h10 := links_few h4
  have e1 : (l.flatMap linkB).length = 3 * l.length := by
    clear h4 h10
    induction l with
    | nil => rfl
    | cons x l ih => rw [List.flatMap_cons, List.length_append, ih]; simp [linkB, w2]; omega
  have e2 : (t.flatMap stubB).length = 5 * t.length := by
    clear h5 h6
    induction t with
    | nil => rfl
    | cons x t ih => rw [List.flatMap_cons, List.length_append, ih]; simp [stubB, w2]; omega
  unfold lsaB
  simp only [List.length_cons, List.length_append, e1, e2]
  simp [w3]; omega
theorem lsaB_len2 {o s a : Int} {l : List S70} {t : List S74} (L : Lok o s a l t) : (lsaB o s l t).length ≤ 900 := by
  obtain ⟨h1, h2, h3, h4, h5, h6⟩ := L
  have h10 := links_few h4
  have e1 : (l.flatMap linkB).length = 3 * l.length := by
    clear h4 h10
    induction l with
    | nil => rfl
    | cons x l ih => rw [List.flatMap_cons, List.length_append, ih]; simp [linkB, w2]; omega
  have e2 : (t.flatMap stubB).length = 5 * t.length := by
    clear h5 h6
    induction t with
    | nil => rfl
    | cons x t ih => rw [List.flatMap_cons, List.length_append, ih]; simp [stubB, w2]; omega
  unfold lsaB
  simp only [List.length_cons, List.length_append, e1, e2]
  simp [w3]; omega
theorem rd_mem0 {o : List Int} {i : Nat} (h : i < o.length) : rd o i ∈ o := by
  rw [rd_getI, List.getD_eq_getElem?_getD, List.getElem?_eq_getElem h]
  exact List.getElem_mem h
theorem both_sum2 (B : List Int) (hB : B.length ≤ 1000) (hb : ∀ b ∈ B, 0 ≤ b ∧ b < 256) : ∀ (d i : Nat) (s : Int), i + d = B.length → 0 ≤ s → s ≤ 1000002 →
    ∃ v, (0 ≤ v ∧ v ≤ 1000002) ∧ ∀ k, d < k → spec_LsaSum.l0 k s B i = some v ∧ impl_Lsa_sum.l0 k s B B.length i = some v := by
  intro d
  induction d with
  | zero =>
    intro i s hi h0 h1
    refine ⟨s, ⟨h0, h1⟩, fun k hk => ?_⟩
    obtain ⟨k, rfl⟩ : ∃ m, k = m + 1 := ⟨k - 1, by omega⟩
    simp only [spec_LsaSum.l0, impl_Lsa_sum.l0]
    rw [if_neg (by omega), if_neg (by omega)]
    exact ⟨rfl, rfl⟩
  | succ d ih =>
    intro i s hi h0 h1
    have e1 : (i : Int) + 1 = ((i + 1 : Nat) : Int) := by omega
    obtain ⟨b0, b1⟩ := hb _ (rd_mem0 (o := B) (i := i) (by omega))
    have hw : wrap64 ((wrap64 ((wrap64 (257 * s)) + (wrap64 (rd B i)))) + 1) = 257 * s + rd B i + 1 := by
      rw [w64 (n := 257 * s) (by omega) (by omega), w64 (n := rd B i) (by omega) (by omega), w64 (n := 257 * s + rd B i) (by omega) (by omega), w64 (by omega) (by omega)]
    have t0 : 0 ≤ Int.tmod (257 * s + rd B i + 1) 1000003 := Int.tmod_nonneg _ (by omega)
    have t1 : Int.tmod (257 * s + rd B i + 1) 1000003 < 1000003 := Int.tmod_lt_of_pos _ (by omega)
    obtain ⟨v, hv0, hv⟩ := ih (i + 1) (Int.tmod (257 * s + rd B i + 1) 1000003) (by omega) t0 (by omega)
    refine ⟨v, hv0, fun k hk => ?_⟩
    obtain ⟨k, rfl⟩ : ∃ m, k = m + 1 := ⟨k - 1, by omega⟩
    simp only [spec_LsaSum.l0, impl_Lsa_sum.l0]
    clear t0 t1
    rw [hw]
    clear hw
    rw [if_pos (by omega), if_pos (by omega), if_pos (by omega), if_pos (by omega), if_pos (by omega), w64 (n := (i : Int) + 1) (by omega) (by omega), e1]
    exact hv k (by omega)
theorem lsaB_byte {o s : Int} {l : List S70} {t : List S74} : ∀ b ∈ lsaB o s l t, 0 ≤ b ∧ b < 256 := by
  intro b hb
  simp only [lsaB, w3, w2, linkB, stubB, wb, List.mem_cons, List.mem_append, List.mem_flatMap, List.cons_append, List.nil_append, List.not_mem_nil, or_false] at hb
  rcases hb with h | h | h | h | h | h | h | h
  · omega
  · omega
  · omega
  · omega
  · omega
  · obtain ⟨x, _, h⟩ := h; omega
  · omega
  · obtain ⟨x, _, h⟩ := h; omega
theorem both_LsaSumL {o s a : Int} {l : List S70} {t : List S74} (L : Lok o s a l t) :
    ∃ v, (0 ≤ v ∧ v ≤ 1000002) ∧ ∀ k, 1200 < k → spec_LsaSum.f k o s a l t = some v ∧ impl_Lsa_sum.f k o s a l t = some v := by
  have hB := lsaB_len L
  obtain ⟨v, hv0, hv⟩ := both_sum2 (lsaB o s l t) hB lsaB_byte (lsaB o s l t).length 0 1 (by omega) (by omega) (by omega)
  refine ⟨v, hv0, fun k hk => ?_⟩
  have hl := links_few L.2.2.2.1
  have ht := L.2.2.2.2.2
  obtain ⟨b, y1, y2, y3⟩ := both_Lok o s a (l := l) (t := t) (by omega) (by omega) (k := k) (by omega)
  obtain ⟨v1, v2⟩ := hv k (by omega)
  have v1' : spec_LsaSum.l0 k 1 (lsaB o s l t) 0 = some v := v1
  have v2' : impl_Lsa_sum.l0 k 1 (lsaB o s l t) ((lsaB o s l t).length : Int) 0 = some v := v2
  unfold spec_LsaSum.f impl_Lsa_sum.f
  rw [y1]
  simp only [Option.bind_some]
  rw [if_pos (y3.2 L), spec_LsaB L (by omega), impl_LsaB L (by omega)]
  simp only [Option.bind_some]
  rw [v1', v2']
  exact ⟨rfl, rfl⟩
theorem mark_LinkS (a : Int) (h0 : 0 ≤ a) (ha : a ≤ 1048576) {l : List S70} {k : Nat} (h : l.length ≤ 1048576) (hk : l.length < k) : ∃ M, laws_markLinkS.f k l a = some (a + 2 * l.length, M) := by
  have key : ∀ (d k i : Nat) (x : List S70), i + d = x.length → d < k → x.length ≤ 1048576 → ∃ M, laws_markLinkS.l0 k x (a + 2 * i) i = some (a + 2 * x.length, M) := by
    intro d
    induction d with
    | zero =>
      intro k i x hi hk hx
      obtain ⟨k, rfl⟩ : ∃ m, k = m + 1 := ⟨k - 1, by omega⟩
      obtain rfl : i = x.length := by omega
      simp only [laws_markLinkS.l0]
      rw [if_neg (by omega)]
      exact ⟨x, rfl⟩
    | succ d ih =>
      intro k i x hi hk hx
      obtain ⟨k, rfl⟩ : ∃ m, k = m + 1 := ⟨k - 1, by omega⟩
      simp only [laws_markLinkS.l0, Option.bind_some]
      have e1 : a + 2 * (i : Int) + 1 + 1 = a + 2 * ((i + 1 : Nat) : Int) := by omega
      have e2 : (i : Int) + 1 = ((i + 1 : Nat) : Int) := by omega
      rw [if_pos (by omega), if_pos (by omega)]
      have hfin : ∀ y : List S70, y.length = x.length → ∃ M, laws_markLinkS.l0 k y (a + 2 * ((i + 1 : Nat) : Int)) ((i + 1 : Nat) : Int) = some (a + 2 * x.length, M) := fun y hy => by
        have z := ih k (i + 1) y (by omega) (by omega) (by omega)
        rwa [hy] at z
      have w1 : wrap64 (a + 2 * (i : Int) + 1) = a + 2 * (i : Int) + 1 := w64 (by omega) (by omega)
      have w3 : wrap64 (a + 2 * (i : Int) + 1 + 1) = a + 2 * ((i + 1 : Nat) : Int) := by rw [w64 (by omega) (by omega)]; exact e1
      have w4 : wrap64 ((i : Int) + 1) = ((i + 1 : Nat) : Int) := by rw [w64 (by omega) (by omega)]; exact e2
      rw [w1, w3, w4]
      exact hfin _ (by simp only [List.length_set])
  obtain ⟨M, hM⟩ := key l.length k 0 l (by omega) hk h
  refine ⟨M, ?_⟩
  unfold laws_markLinkS.f
  have e : a + 2 * ((0 : Nat) : Int) = a := by omega
  rw [e] at hM
  exact hM
theorem mark_StubS (a : Int) (h0 : 0 ≤ a) (ha : a ≤ 10485760) {l : List S74} {k : Nat} (h : l.length ≤ 1048576) (hk : l.length < k) : ∃ M, laws_markStubS.f k l a = some (a + 3 * l.length, M) := by
  have key : ∀ (d k i : Nat) (x : List S74), i + d = x.length → d < k → x.length ≤ 1048576 → ∃ M, laws_markStubS.l0 k x (a + 3 * i) i = some (a + 3 * x.length, M) := by
    intro d
    induction d with
    | zero =>
      intro k i x hi hk hx
      obtain ⟨k, rfl⟩ : ∃ m, k = m + 1 := ⟨k - 1, by omega⟩
      obtain rfl : i = x.length := by omega
      simp only [laws_markStubS.l0]
      rw [if_neg (by omega)]
      exact ⟨x, rfl⟩
    | succ d ih =>
      intro k i x hi hk hx
      obtain ⟨k, rfl⟩ : ∃ m, k = m + 1 := ⟨k - 1, by omega⟩
      simp only [laws_markStubS.l0, Option.bind_some]
      have e1 : a + 3 * (i : Int) + 1 + 1 + 1 = a + 3 * ((i + 1 : Nat) : Int) := by omega
      have e2 : (i : Int) + 1 = ((i + 1 : Nat) : Int) := by omega
      rw [if_pos (by omega), if_pos (by omega)]
      have hfin : ∀ y : List S74, y.length = x.length → ∃ M, laws_markStubS.l0 k y (a + 3 * ((i + 1 : Nat) : Int)) ((i + 1 : Nat) : Int) = some (a + 3 * x.length, M) := fun y hy => by
        have z := ih k (i + 1) y (by omega) (by omega) (by omega)
        rwa [hy] at z
      have w1 : wrap64 (a + 3 * (i : Int) + 1) = a + 3 * (i : Int) + 1 := w64 (by omega) (by omega)
      have w2' : wrap64 (a + 3 * (i : Int) + 1 + 1) = a + 3 * (i : Int) + 1 + 1 := w64 (by omega) (by omega)
      have w3 : wrap64 (a + 3 * (i : Int) + 1 + 1 + 1) = a + 3 * ((i + 1 : Nat) : Int) := by rw [w64 (by omega) (by omega)]; exact e1
      have w4 : wrap64 ((i : Int) + 1) = ((i + 1 : Nat) : Int) := by rw [w64 (by omega) (by omega)]; exact e2
      rw [w1, w2', w3, w4]
      exact hfin _ (by simp only [List.length_set])
  obtain ⟨M, hM⟩ := key l.length k 0 l (by omega) hk h
  refine ⟨M, ?_⟩
  unfold laws_markStubS.f
  have e : a + 3 * ((0 : Nat) : Int) = a := by omega
  rw [e] at hM
  exact hM
theorem mark_Lsa (o s a : Int) {l : List S70} {t : List S74} {k : Nat} (hl : l.length ≤ 1048576) (ht : t.length ≤ 1048576) (hk : l.length + t.length < k) : ∃ r M1 M2, 0 ≤ r ∧ laws_markLsa.f k o s a l t 1 = some (r, M1, M2) := by
  obtain ⟨M1, m1⟩ := mark_LinkS 1 (by omega) (by omega) hl (k := k) (by omega)
  obtain ⟨M2, m2⟩ := mark_StubS (1 + 2 * (l.length : Int)) (by omega) (by omega) ht (k := k) (by omega)
  refine ⟨1 + 2 * (l.length : Int) + 3 * (t.length : Int), M1, M2, by omega, ?_⟩
  unfold laws_markLsa.f
  rw [m1]
  simp only [Option.bind_some]
  rw [m2]
  rfl
theorem eq_ByteS {l : List Int} {k : Nat} (h : l.length ≤ 1048576) (hk : l.length < k) : laws_eqByteS.f k l l = some true := by
  unfold laws_eqByteS.f
  rw [if_pos rfl]
  refine same_loop (F := laws_eqByteS.l0) (N := 1048576) ?_ ?_ l h l.length k 0 (by omega) hk
  · intro k i x hN hx
    simp only [laws_eqByteS.l0]
    rw [if_pos (by omega), if_pos (by omega), if_pos (by omega)]
    simp only [if_true]
    rw [w64 (by omega) (by omega)]
  · intro k x
    simp only [laws_eqByteS.l0]
    rw [if_neg (by omega)]
theorem mark_ByteS (a : Int) (h0 : 0 ≤ a) (ha : a ≤ 1048576) {l : List Int} {k : Nat} (h : l.length ≤ 1048576) (hk : l.length < k) : ∃ M, laws_markByteS.f k l a = some (a + l.length, M) ∧ M.length = l.length ∧ ∀ j : Nat, j < l.length → rd M j = (a + j) % 256 := by
  have key : ∀ (d k i : Nat) (x : List Int), i + d = x.length → d < k → x.length ≤ 1048576 → (∀ j : Nat, j < i → rd x j = (a + j) % 256) → ∃ M, laws_markByteS.l0 k x (a + i) i = some (a + x.length, M) ∧ M.length = x.length ∧ ∀ j : Nat, j < x.length → rd M j = (a + j) % 256 := by
    intro d
    induction d with
    | zero =>
      intro k i x hi hk hx hj
      obtain ⟨k, rfl⟩ : ∃ m, k = m + 1 := ⟨k - 1, by omega⟩
      obtain rfl : i = x.length := by omega
      simp only [laws_markByteS.l0]
      rw [if_neg (by omega)]
      exact ⟨x, rfl, rfl, hj⟩
    | succ d ih =>
      intro k i x hi hk hx hj
      obtain ⟨k, rfl⟩ : ∃ m, k = m + 1 := ⟨k - 1, by omega⟩
      simp only [laws_markByteS.l0]
      have e1 : a + (i : Int) + 1 = a + ((i + 1 : Nat) : Int) := by omega
      have e2 : (i : Int) + 1 = ((i + 1 : Nat) : Int) := by omega
      rw [if_pos (by omega), if_pos (by omega), w64 (by omega) (by omega), w64 (by omega) (by omega), e1, e2, Int.toNat_natCast]
      have z := ih k (i + 1) (x.set i ((a + (i : Int)) % 256)) (by rw [List.length_set]; omega) (by omega) (by rw [List.length_set]; exact hx) (fun j hj2 => ?_)
      · rw [List.length_set] at z; exact z
      · unfold rd
        rw [Int.toNat_natCast, List.getD_eq_getElem?_getD, List.getElem?_set]
        by_cases hji : i = j
        · subst hji; rw [if_pos rfl, if_pos (by omega)]; rfl
        · rw [if_neg hji]
          have := hj j (by omega)
          unfold rd at this
          rw [Int.toNat_natCast, List.getD_eq_getElem?_getD] at this
          exact this
  have z := key l.length k 0 l (by omega) hk h (fun j hj => by omega)
  simpa [laws_markByteS.f] using z
theorem held_ByteS (a : Int) (h0 : 0 ≤ a) (ha : a ≤ 1048576) {M : List Int} {k : Nat} (h : M.length ≤ 1048576) (hk : M.length < k) (hM : ∀ j : Nat, j < M.length → rd M j = (a + j) % 256) : laws_heldByteS.f k M a = some (a + M.length) := by
  have key : ∀ (d k i : Nat), i + d = M.length → d < k → laws_heldByteS.l0 k M (a + i) i = some (a + M.length) := by
    intro d
    induction d with
    | zero =>
      intro k i hi hk
      obtain ⟨k, rfl⟩ : ∃ m, k = m + 1 := ⟨k - 1, by omega⟩
      obtain rfl : i = M.length := by omega
      simp only [laws_heldByteS.l0]
      rw [if_neg (by omega)]
    | succ d ih =>
      intro k i hi hk
      obtain ⟨k, rfl⟩ : ∃ m, k = m + 1 := ⟨k - 1, by omega⟩
      simp only [laws_heldByteS.l0]
      have e1 : a + (i : Int) + 1 = a + ((i + 1 : Nat) : Int) := by omega
      have e2 : (i : Int) + 1 = ((i + 1 : Nat) : Int) := by omega
      rw [if_pos (by omega), if_pos (by omega), if_pos (hM i (by omega)), w64 (by omega) (by omega), w64 (by omega) (by omega), e1, e2]
      exact ih k (i + 1) (by omega) (by omega)
  have z := key M.length k 0 (by omega) hk
  simpa [laws_heldByteS.f] using z
theorem both_PutLsa (o s a : Int) {l : List S70} {t : List S74} (hl : l.length ≤ 1048576) (ht : t.length ≤ 1048576) :
    ∃ r : List Int, r.length ≤ 1000 ∧ ∀ k, l.length + t.length + 1250 < k → spec_PutLsa.f k o s a l t = some r ∧ impl_PutLsa.f k o s a l t = some r := by
  by_cases L : Lok o s a l t
  · have hB := lsaB_len L
    have hB2 : (lsaB o s l t).length ≤ 900 := lsaB_len2 L
    obtain ⟨v, ⟨v0, v1⟩, hv⟩ := both_LsaSumL L
    refine ⟨lsaB o s l t ++ [a % 256] ++ w3 v, by simp [w3]; omega, fun k hk => ?_⟩
    obtain ⟨b, y1, y2, y3⟩ := both_Lok o s a hl ht (k := k) (by omega)
    obtain ⟨h1, h2⟩ := hv k (by omega)
    unfold spec_PutLsa.f impl_PutLsa.f
    rw [y1, y2]
    simp only [Option.bind_some]
    rw [if_pos (y3.2 L), if_pos (y3.2 L), spec_LsaB L (by omega), impl_LsaB L (by omega)]
    simp only [Option.bind_some]
    rw [if_pos (by simp; omega), if_pos (by simp; omega), h1, h2]
    simp only [Option.bind_some]
    rw [spec_wide3 v0 (by omega) (by omega), impl_big3 (by simp; omega) (by omega)]
    simp only [Option.bind_some]
    rw [spec_join (by simp; omega) (by simp [w3]) (by simp [w3]; omega)]
    simp
  · refine ⟨[], by simp, fun k hk => ?_⟩
    obtain ⟨b, y1, y2, y3⟩ := both_Lok o s a hl ht (k := k) (by omega)
    unfold spec_PutLsa.f impl_PutLsa.f
    rw [y1, y2]
    simp only [Option.bind_some]
    rw [if_neg (fun z => L (y3.1 z)), if_neg (fun z => L (y3.1 z))]
    exact ⟨rfl, rfl⟩
theorem FnExactPutLsa : FnExactPutLsa.Pure := by
  intro o s a l t _ _ _ hw hv
  have hm : l.length ≤ 9223372036854775807 := hw.1
  have hm2 : t.length ≤ 9223372036854775807 := hv.1
  obtain ⟨r, z1, z2⟩ := sz_Lsa o s a hm hm2
  obtain ⟨K, hK⟩ : ∃ K, K = l.length + t.length + 1300 := ⟨_, rfl⟩
  refine ⟨K + 1, ?_⟩
  unfold laws_FnExactPutLsa.f
  rw [z1]
  simp only [Option.bind_some]
  by_cases c : r < 0
  · rw [if_pos c]
  · obtain ⟨hl, ht⟩ := z2 c
    have hn : (l.map cvL).length = l.length := List.length_map ..
    have hn2 : (t.map cvT).length = t.length := List.length_map ..
    obtain ⟨B, hB, hv⟩ := both_PutLsa o s a (l := l.map cvL) (t := t.map cvT) (by omega) (by omega)
    obtain ⟨h1, h2⟩ := hv (K + 1) (by omega)
    have h3 := (hv K (by omega)).2
    obtain ⟨q, M1, M2, hq, hmk⟩ := mark_Lsa o s a (l := l.map cvL) (t := t.map cvT) (k := K + 1) (by omega) (by omega) (by omega)
    obtain ⟨M, m2, m3, m4⟩ := mark_ByteS 1 (by omega) (by omega) (l := B) (k := K) (by omega) (by omega)
    have m5 := held_ByteS 1 (by omega) (by omega) (M := M) (k := K) (by omega) (by omega) (by rw [m3]; exact m4)
    rw [if_neg c, to_Lsa o s a hl ht (by omega)]
    simp only [Option.bind_some]
    rw [h1]
    simp only [Option.bind_some]
    rw [h2]
    simp only [Option.bind_some]
    rw [eq_ByteS (by omega) (by omega)]
    simp only [Option.bind_some, if_true]
    rw [eq_Lsa o s a (by omega) (by omega) (by omega)]
    simp only [Option.bind_some, if_true]
    rw [hmk]
    simp only [Option.bind_some]
    rw [if_neg (by omega)]
    simp only [laws_FnExactPutLsa.j0]
    rw [if_neg (by decide), m2]
    simp only [Option.bind_some]
    rw [m5, m3]
    simp only [Option.bind_some]
    rw [if_neg (by omega), if_pos trivial, to_Lsa o s a hl ht (by omega)]
    simp only [Option.bind_some]
    rw [h3]
    simp only [Option.bind_some]
    rw [eq_ByteS (by omega) (by omega)]
    simp only [Option.bind_some, if_true]
    rw [if_neg (by omega)]

end Go.Proofs.Ytiikcfaodkiakaa.Pure
