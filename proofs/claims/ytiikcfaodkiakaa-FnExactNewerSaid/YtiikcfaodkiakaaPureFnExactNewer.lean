/- The plain law of FnExactNewer: the program's answer is the reference's. -/
import Derived.Test.YtiikcfaodkiakaaStmtFnExactNewer
namespace Go.Proofs.Ytiikcfaodkiakaa.Pure
open Go.RowKit Go.Proofs.Ytiikcfaodkiakaa.QFnExactNewer Go.Proofs.YtiikcfaodkiakaaY.PrintWords Go.Proofs.YtiikcfaodkiakaaY.PrintLast Go.Proofs.YtiikcfaodkiakaaY.PrintMore
set_option linter.unusedVariables false
set_option linter.unusedSimpArgs false

theorem len17 {l : Int} (h0 : 0 ≤ l) (h1 : l ≤ 16) : l = 0 ∨ l = 1 ∨ l = 2 ∨ l = 3 ∨ l = 4 ∨ l = 5 ∨ l = 6 ∨ l = 7 ∨ l = 8 ∨ l = 9 ∨ l = 10 ∨ l = 11 ∨ l = 12 ∨ l = 13 ∨ l = 14 ∨ l = 15 ∨ l = 16 := by omega
/-- How many addresses a prefix of length l has. -/
def psz (l : Int) : Int := 2 ^ (16 - l).toNat
theorem psz_pos (l : Int) : 0 < psz l := Int.pow_pos (by decide)
theorem psz_le {l : Int} (h0 : 0 ≤ l) (h1 : l ≤ 16) : psz l ≤ 65536 := by
  rcases len17 h0 h1 with rfl | rfl | rfl | rfl | rfl | rfl | rfl | rfl | rfl | rfl | rfl | rfl | rfl | rfl | rfl | rfl | rfl <;> decide
theorem psz_half {l : Int} (h0 : 0 ≤ l) (h1 : l ≤ 15) : psz l = 2 * psz (l + 1) := by
  rcases len17 h0 (by omega) with rfl | rfl | rfl | rfl | rfl | rfl | rfl | rfl | rfl | rfl | rfl | rfl | rfl | rfl | rfl | rfl | rfl <;> first | decide | omega
theorem psz_top {l : Int} (h0 : 0 ≤ l) (h1 : l ≤ 16) : 65536 = psz l * 2 ^ l.toNat := by
  rcases len17 h0 h1 with rfl | rfl | rfl | rfl | rfl | rfl | rfl | rfl | rfl | rfl | rfl | rfl | rfl | rfl | rfl | rfl | rfl <;> decide
theorem w64 {n : Int} (h0 : -9223372036854775808 ≤ n) (h1 : n ≤ 9223372036854775807) : wrap64 n = n := by unfold wrap64; omega
theorem shl_psz {l : Int} (h0 : 0 ≤ l) (h1 : l ≤ 16) : shl .i64 1 (16 - l) = psz l := by
  rcases len17 h0 h1 with rfl | rfl | rfl | rfl | rfl | rfl | rfl | rfl | rfl | rfl | rfl | rfl | rfl | rfl | rfl | rfl | rfl <;> decide
theorem u64w {n : Int} (h0 : 0 ≤ n) (h1 : n ≤ 16) : IntKind.u64.wrap n = n := by
  rcases len17 h0 h1 with rfl | rfl | rfl | rfl | rfl | rfl | rfl | rfl | rfl | rfl | rfl | rfl | rfl | rfl | rfl | rfl | rfl <;> decide
/-- A valid prefix. -/
def Pok (n l : Int) : Prop := 0 ≤ l ∧ l ≤ 16 ∧ 0 ≤ n ∧ n ≤ 65535 ∧ n % psz l = 0
instance (n l : Int) : Decidable (Pok n l) := by unfold Pok; infer_instance
theorem Pok.top {n l : Int} (h : Pok n l) : n + psz l ≤ 65536 := by
  obtain ⟨h0, h1, h2, h3, h4⟩ := h
  have e := psz_top h0 h1
  have p := psz_pos l
  have d := Int.emod_add_mul_ediv n (psz l)
  rw [h4, Int.zero_add] at d
  have q : n / psz l < 2 ^ l.toNat := by
    apply Int.ediv_lt_of_lt_mul p
    rw [Int.mul_comm]; omega
  have m : psz l * (n / psz l + 1) ≤ psz l * 2 ^ l.toNat := Int.mul_le_mul_of_nonneg_left (by omega) (by omega)
  rw [Int.mul_add] at m
  omega
theorem spec_In (a b c : Int) : spec_l01In.f a b c = some (decide (b ≤ a ∧ a ≤ c)) := by
  unfold spec_l01In.f
  by_cases h : b ≤ a <;> simp [h]
theorem spec_Addr (a : Int) : spec_l01Addr.f a = some (decide (0 ≤ a ∧ a ≤ 65535)) := by
  unfold spec_l01Addr.f; rw [spec_In]; rfl
theorem spec_Size {l : Int} (h0 : 0 ≤ l) (h1 : l ≤ 16) : spec_l01Size2.f l = some (psz l) := by
  unfold spec_l01Size2.f
  rw [w64 (by omega) (by omega), u64w (by omega) (by omega), if_pos (by omega), shl_psz h0 h1]
theorem spec_Pok (n l : Int) : spec_PrefixOk.f n l = some (decide (Pok n l)) := by
  unfold spec_PrefixOk.f
  rw [spec_In, spec_Addr]
  simp only [Option.bind_some, decide_eq_true_eq]
  by_cases hl : 0 ≤ l ∧ l ≤ 16
  · rw [if_pos hl]
    by_cases hn : 0 ≤ n ∧ n ≤ 65535
    · rw [if_pos hn, spec_Size hl.1 hl.2]
      have p := psz_pos l
      simp only [Option.bind_some]
      rw [if_neg (by omega), Int.tmod_eq_emod_of_nonneg hn.1]
      congr 1
      by_cases e : n % psz l = 0
      · rw [e]; simp [Pok, hl, hn, e]
      · simp [Pok, hl, hn, e]
    · rw [if_neg hn]; congr 1; symm; rw [decide_eq_false_iff_not]; unfold Pok; omega
  · rw [if_neg hl]; congr 1; symm; rw [decide_eq_false_iff_not]; unfold Pok; omega
theorem impl_In (a b c : Int) : impl_within.f a b c = some (decide (b ≤ a ∧ a ≤ c)) := by
  unfold impl_within.f
  by_cases h : b ≤ a <;> simp [h]
theorem impl_Addr (a : Int) : impl_isAddr.f a = some (decide (0 ≤ a ∧ a ≤ 65535)) := by
  unfold impl_isAddr.f; rw [impl_In]; rfl
theorem impl_Size (n : Int) {l : Int} (h0 : 0 ≤ l) (h1 : l ≤ 16) : impl_Prefix_size.f n l = some (psz l) := by
  unfold impl_Prefix_size.f
  rw [w64 (by omega) (by omega), if_pos (by omega), shl_psz h0 h1]
theorem impl_Pok (n l : Int) : impl_PrefixOk.f n l = some (decide (Pok n l)) := by
  unfold impl_PrefixOk.f
  rw [impl_In, impl_Addr]
  simp only [Option.bind_some, decide_eq_true_eq]
  by_cases hl : 0 ≤ l ∧ l ≤ 16
  · rw [if_pos hl]
    by_cases hn : 0 ≤ n ∧ n ≤ 65535
    · rw [if_pos hn, impl_Size n hl.1 hl.2]
      have p := psz_pos l
      simp only [Option.bind_some]
      rw [if_neg (by omega), Int.tmod_eq_emod_of_nonneg hn.1]
      congr 1
      by_cases e : n % psz l = 0
      · rw [e]; simp [Pok, hl, hn, e]
      · simp [Pok, hl, hn, e]
    · rw [if_neg hn]; congr 1; symm; rw [decide_eq_false_iff_not]; unfold Pok; omega
  · rw [if_neg hl]; congr 1; symm; rw [decide_eq_false_iff_not]; unfold Pok; omega
/-- A loop that asks each index and ends at the first refusal. -/
theorem all_loop {F : Nat → Int → Option Bool} {n : Nat} {P : Nat → Prop} {e : Bool}
    (hs : ∀ (k i : Nat), i < n → (∀ j, j < i → P j) → (P i ∧ F (k + 1) i = F k ((i : Int) + 1)) ∨ (¬ P i ∧ F (k + 1) i = some false))
    (he : ∀ k : Nat, (∀ j, j < n → P j) → F (k + 1) n = some e) : ∀ (d k i : Nat), i + d = n → d < k → (∀ j, j < i → P j) →
    ∃ b, F k i = some b ∧ (b = true ↔ ((∀ j, j < n → P j) ∧ e = true)) := by
  intro d
  induction d with
  | zero =>
    intro k i hi hk hp
    obtain ⟨k, rfl⟩ : ∃ m, k = m + 1 := ⟨k - 1, by omega⟩
    obtain rfl : i = n := by omega
    exact ⟨e, he k hp, ⟨fun h => ⟨hp, h⟩, fun h => h.2⟩⟩
  | succ d ih =>
    intro k i hi hk hp
    obtain ⟨k, rfl⟩ : ∃ m, k = m + 1 := ⟨k - 1, by omega⟩
    rcases hs k i (by omega) hp with ⟨h1, h2⟩ | ⟨h1, h2⟩
    · have e1 : (i : Int) + 1 = ((i + 1 : Nat) : Int) := by omega
      rw [h2, e1]
      refine ih k (i + 1) (by omega) (by omega) (fun j hj => ?_)
      by_cases hji : j = i
      · rw [hji]; exact h1
      · exact hp j (by omega)
    · refine ⟨false, h2, ⟨(fun h => by cases h), fun h => absurd (h.1 i (by omega)) h1⟩⟩
/-- A loop that copies a list, element by element. -/
theorem copy_loop {α β : Type} {F : Nat → List α → List β → Int → Option (List β)} {cv : α → β} (z : α) {N : Nat}
    (hs : ∀ (k i : Nat) (x : List α) (y : List β), x.length ≤ N → i < x.length → i < y.length → F (k + 1) x y i = F k x (y.set i (cv (x.getD i z))) ((i : Int) + 1))
    (he : ∀ (k : Nat) (x : List α) (y : List β), F (k + 1) x y x.length = some y) (x : List α) (hN : x.length ≤ N) : ∀ (d k i : Nat) (y : List β), i + d = x.length → d < k → y.length = x.length →
    y.take i = (x.take i).map cv → F k x y i = some (x.map cv) := by
  intro d
  induction d with
  | zero =>
    intro k i y hi hk hl ht
    obtain ⟨k, rfl⟩ : ∃ m, k = m + 1 := ⟨k - 1, by omega⟩
    obtain rfl : i = x.length := by omega
    rw [he]
    rw [List.take_of_length_le (by omega), List.take_of_length_le (by omega)] at ht
    rw [ht]
  | succ d ih =>
    intro k i y hi hk hl ht
    obtain ⟨k, rfl⟩ : ∃ m, k = m + 1 := ⟨k - 1, by omega⟩
    have e1 : (i : Int) + 1 = ((i + 1 : Nat) : Int) := by omega
    rw [hs k i x y hN (by omega) (by omega), e1]
    refine ih k (i + 1) _ (by omega) (by omega) (by rw [List.length_set, hl]) ?_
    have hx : i < x.length := by omega
    have hy : i < y.length := by omega
    rw [List.take_succ_eq_append_getElem (by rw [List.length_set]; exact hy), List.take_succ_eq_append_getElem hx, List.map_append, List.take_set, ht]
    congr 1
    · rw [List.set_eq_of_length_le]
      simp; omega
    · simp [List.getD_eq_getElem?_getD, hx]
/-- Two equal lists, compared element by element. -/
theorem same_loop {α : Type} {F : Nat → List α → List α → Int → Option Bool} {N : Nat}
    (hs : ∀ (k i : Nat) (x : List α), x.length ≤ N → i < x.length → F (k + 1) x x i = F k x x ((i : Int) + 1))
    (he : ∀ (k : Nat) (x : List α), F (k + 1) x x x.length = some true) (x : List α) (hN : x.length ≤ N) : ∀ (d k i : Nat), i + d = x.length → d < k → F k x x i = some true := by
  intro d
  induction d with
  | zero =>
    intro k i hi hk
    obtain ⟨k, rfl⟩ : ∃ m, k = m + 1 := ⟨k - 1, by omega⟩
    obtain rfl : i = x.length := by omega
    exact he k x
  | succ d ih =>
    intro k i hi hk
    obtain ⟨k, rfl⟩ : ∃ m, k = m + 1 := ⟨k - 1, by omega⟩
    have e1 : (i : Int) + 1 = ((i + 1 : Nat) : Int) := by omega
    rw [hs k i x hN (by omega), e1]
    exact ih k (i + 1) (by omega) (by omega)
/-- The same where what stands behind the loop wants m rounds more. -/
theorem all_loopm (m : Nat) {F : Nat → Int → Option Bool} {n : Nat} {P : Nat → Prop} {e : Bool}
    (hs : ∀ (k i : Nat), i < n → (∀ j, j < i → P j) → (P i ∧ F (k + 1) i = F k ((i : Int) + 1)) ∨ (¬ P i ∧ F (k + 1) i = some false))
    (he : ∀ k : Nat, m ≤ k → (∀ j, j < n → P j) → F (k + 1) n = some e) : ∀ (d k i : Nat), i + d = n → d + m < k → (∀ j, j < i → P j) →
    ∃ b, F k i = some b ∧ (b = true ↔ ((∀ j, j < n → P j) ∧ e = true)) := by
  intro d
  induction d with
  | zero =>
    intro k i hi hk hp
    obtain ⟨k, rfl⟩ : ∃ m, k = m + 1 := ⟨k - 1, by omega⟩
    obtain rfl : i = n := by omega
    exact ⟨e, he k (by omega) hp, ⟨fun h => ⟨hp, h⟩, fun h => h.2⟩⟩
  | succ d ih =>
    intro k i hi hk hp
    obtain ⟨k, rfl⟩ : ∃ m, k = m + 1 := ⟨k - 1, by omega⟩
    rcases hs k i (by omega) hp with ⟨h1, h2⟩ | ⟨h1, h2⟩
    · have e1 : (i : Int) + 1 = ((i + 1 : Nat) : Int) := by omega
      rw [h2, e1]
      refine ih k (i + 1) (by omega) (by omega) (fun j hj => ?_)
      by_cases hji : j = i
      · rw [hji]; exact h1
      · exact hp j (by omega)
    · refine ⟨false, h2, ⟨(fun h => by cases h), fun h => absurd (h.1 i (by omega)) h1⟩⟩
/-- A loop that looks for something in a list, from an index on. -/
theorem find_loop {α ρ : Type} {F : Nat → Int → Option ρ} {h : List α → ρ} (t : List α)
    (hs : ∀ (k i : Nat), i < t.length → (F (k + 1) i = F k ((i : Int) + 1) ∧ h (t.drop i) = h (t.drop (i + 1))) ∨ F (k + 1) i = some (h (t.drop i)))
    (he : ∀ (k : Nat), F (k + 1) t.length = some (h [])) : ∀ (d k i : Nat), i + d = t.length → d < k → F k i = some (h (t.drop i)) := by
  intro d
  induction d with
  | zero =>
    intro k i hi hk
    obtain ⟨k, rfl⟩ : ∃ m, k = m + 1 := ⟨k - 1, by omega⟩
    obtain rfl : i = t.length := by omega
    rw [he, List.drop_length]
  | succ d ih =>
    intro k i hi hk
    obtain ⟨k, rfl⟩ : ∃ m, k = m + 1 := ⟨k - 1, by omega⟩
    rcases hs k i (by omega) with ⟨h1, h2⟩ | h1
    · have e1 : (i : Int) + 1 = ((i + 1 : Nat) : Int) := by omega
      rw [h1, e1, ih k (i + 1) (by omega) (by omega), h2]
    · exact h1
theorem drop_getD {α : Type} (t : List α) (z : α) {i : Nat} (hi : i < t.length) : t.drop i = t.getD i z :: t.drop (i + 1) := by
  rw [List.drop_eq_getElem_cons hi, List.getD_eq_getElem?_getD, List.getElem?_eq_getElem hi]; rfl
theorem rd_getI (t : List Int) (i : Nat) : rd t i = t.getD i 0 := by simp [rd]
/-- Prefix a stands ahead of prefix b. -/
def Ahead (n l m k : Int) : Prop := n < m ∨ n = m ∧ l < k
theorem spec_Ahead (n l m k : Int) : ∃ b, spec_l02Ahead.f n l m k = some b ∧ (b = true ↔ Ahead n l m k) := by
  unfold spec_l02Ahead.f Ahead
  by_cases h : n < m
  · exact ⟨true, by rw [if_pos h], by simp [h]⟩
  · by_cases h2 : n = m
    · exact ⟨decide (l < k), by rw [if_neg h, if_pos h2], by simp [h2]⟩
    · exact ⟨false, by rw [if_neg h, if_neg h2], by simp [h, h2]⟩
theorem impl_Compare {n l m k : Int} (h1 : Pok n l) (h2 : Pok m k) : ∃ c, impl_comparePrefixes.f n l m k = some c ∧ (¬ c ≥ 0 ↔ Ahead n l m k) := by
  obtain ⟨a0, a1, a2, a3, _⟩ := h1
  obtain ⟨b0, b1, b2, b3, _⟩ := h2
  unfold impl_comparePrefixes.f Ahead
  by_cases h : n = m
  · refine ⟨l - k, by rw [if_pos h, w64 (by omega) (by omega)], by omega⟩
  · refine ⟨n - m, by rw [if_neg h, w64 (by omega) (by omega)], by omega⟩
/-- A link and a stub, of the laws' types and of the program's. -/
def cvL (x : S85) : S70 := ⟨x.f0, x.f1⟩
def cvT (x : S89) : S74 := ⟨⟨x.f0.f0, x.f0.f1⟩, x.f1⟩
theorem to_LinkS {l : List S85} {k : Nat} (h : l.length ≤ 1048576) (hk : l.length < k) : laws_toLinkS.f k l = some (l.map cvL) := by
  unfold laws_toLinkS.f
  rw [if_pos (by omega), if_pos (by omega)]
  refine copy_loop (F := laws_toLinkS.l0) (cv := cvL) z85 (N := 1048576) ?_ ?_ l h l.length k 0 _ (by omega) hk (by simp) (by simp)
  · intro k i x y hN hx hy
    simp only [laws_toLinkS.l0]
    rw [if_pos (by omega), if_pos (by omega)]
    unfold laws_toLink.f
    simp only [Option.bind_some]
    rw [if_pos (by omega), w64 (by omega) (by omega)]
    simp [rd_T85, cvL]
  · intro k x y
    simp only [laws_toLinkS.l0]
    rw [if_neg (by omega)]
theorem to_StubS {l : List S89} {k : Nat} (h : l.length ≤ 1048576) (hk : l.length < k) : laws_toStubS.f k l = some (l.map cvT) := by
  unfold laws_toStubS.f
  rw [if_pos (by omega), if_pos (by omega)]
  refine copy_loop (F := laws_toStubS.l0) (cv := cvT) z89 (N := 1048576) ?_ ?_ l h l.length k 0 _ (by omega) hk (by simp) (by simp)
  · intro k i x y hN hx hy
    simp only [laws_toStubS.l0]
    rw [if_pos (by omega), if_pos (by omega)]
    unfold laws_toStub.f laws_toPrefix.f
    simp only [Option.bind_some]
    rw [if_pos (by omega), w64 (by omega) (by omega)]
    simp [rd_T89, cvT]
  · intro k x y
    simp only [laws_toStubS.l0]
    rw [if_neg (by omega)]
theorem to_Lsa (o s a : Int) {l : List S85} {t : List S89} {k : Nat} (h : l.length ≤ 1048576) (h2 : t.length ≤ 1048576) (hk : l.length + t.length < k) : laws_toLsa.f k o s a l t = some (o, s, a, l.map cvL, t.map cvT) := by
  unfold laws_toLsa.f
  rw [to_LinkS h (by omega), to_StubS h2 (by omega)]; rfl
theorem eq_LinkS {l : List S70} {k : Nat} (h : l.length ≤ 1048576) (hk : l.length < k) : laws_eqLinkS.f k l l = some true := by
  unfold laws_eqLinkS.f
  rw [if_pos rfl]
  refine same_loop (F := laws_eqLinkS.l0) (N := 1048576) ?_ ?_ l h l.length k 0 (by omega) hk
  · intro k i x hN hx
    simp only [laws_eqLinkS.l0]
    rw [if_pos (by omega), if_pos (by omega), if_pos (by omega)]
    unfold laws_eqLink.f
    simp only [if_true, Option.bind_some]
    rw [w64 (by omega) (by omega)]
  · intro k x
    simp only [laws_eqLinkS.l0]
    rw [if_neg (by omega)]
theorem eq_StubS {l : List S74} {k : Nat} (h : l.length ≤ 1048576) (hk : l.length < k) : laws_eqStubS.f k l l = some true := by
  unfold laws_eqStubS.f
  rw [if_pos rfl]
  refine same_loop (F := laws_eqStubS.l0) (N := 1048576) ?_ ?_ l h l.length k 0 (by omega) hk
  · intro k i x hN hx
    simp only [laws_eqStubS.l0]
    rw [if_pos (by omega), if_pos (by omega), if_pos (by omega)]
    unfold laws_eqStub.f laws_eqPrefix.f
    simp only [if_true, Option.bind_some]
    rw [w64 (by omega) (by omega)]
  · intro k x
    simp only [laws_eqStubS.l0]
    rw [if_neg (by omega)]
theorem eq_Lsa (o s a : Int) {l : List S70} {t : List S74} {k : Nat} (h : l.length ≤ 1048576) (h2 : t.length ≤ 1048576) (hk : l.length + t.length < k) : laws_eqLsa.f k o s a l t o s a l t = some true := by
  unfold laws_eqLsa.f
  rw [if_pos rfl, if_pos rfl, if_pos rfl, eq_LinkS h (by omega), eq_StubS h2 (by omega)]; rfl
theorem sz_Lsa (o s a : Int) {l : List S85} {t : List S89} (h : l.length ≤ 9223372036854775807) (h2 : t.length ≤ 9223372036854775807) :
    ∃ r, laws_szLsa.f o s a l t 1048576 = some r ∧ (¬ r < 0 → l.length ≤ 1048576 ∧ t.length ≤ 1048576) := by
  unfold laws_szLsa.f laws_szLinkS.f
  rw [w64 (by omega) (by omega)]
  by_cases hl : l.length ≤ 1048576
  · rw [if_neg (by omega)]
    simp only [Option.bind_some]
    rw [if_neg (by omega)]
    unfold laws_szStubS.f
    rw [w64 (by omega) (by omega)]
    by_cases ht : (1048576 : Int) - l.length - t.length < 0
    · rw [if_pos ht]; exact ⟨-1, rfl, fun z => absurd (by omega : (-1 : Int) < 0) z⟩
    · rw [if_neg ht]
      simp only [Option.bind_some]
      rw [if_neg ht]
      exact ⟨_, rfl, fun _ => ⟨hl, by omega⟩⟩
  · rw [if_pos (by omega)]
    exact ⟨-1, rfl, fun z => absurd (by omega : (-1 : Int) < 0) z⟩
/-- The link at an index is valid and stands behind the one ahead of it. -/
def Lat (o : Int) (l : List S70) (j : Nat) : Prop :=
  (0 ≤ (rd_T70 l j).f0 ∧ (rd_T70 l j).f0 ≤ 9) ∧ (rd_T70 l j).f0 ≠ o ∧ (1 ≤ (rd_T70 l j).f1 ∧ (rd_T70 l j).f1 ≤ 1000) ∧ (0 < j → (rd_T70 l ((j : Int) - 1)).f0 < (rd_T70 l j).f0)
/-- The stub at an index is valid and stands behind the one ahead of it. -/
def Sat (t : List S74) (j : Nat) : Prop :=
  Pok (rd_T74 t j).f0.f0 (rd_T74 t j).f0.f1 ∧ (1 ≤ (rd_T74 t j).f1 ∧ (rd_T74 t j).f1 ≤ 1000) ∧
    (0 < j → Ahead (rd_T74 t ((j : Int) - 1)).f0.f0 (rd_T74 t ((j : Int) - 1)).f0.f1 (rd_T74 t j).f0.f0 (rd_T74 t j).f0.f1)
/-- A valid advertisement. -/
def Lok (o s a : Int) (l : List S70) (t : List S74) : Prop :=
  (0 ≤ o ∧ o ≤ 9) ∧ (1 ≤ s ∧ s ≤ 1000000) ∧ (0 ≤ a ∧ a ≤ 60) ∧ (∀ j, j < l.length → Lat o l j) ∧ (∀ j, j < t.length → Sat t j) ∧ t.length ≤ 6
theorem links_few {o : Int} {l : List S70} (h : ∀ j, j < l.length → Lat o l j) : l.length ≤ 10 := by
  have key : ∀ j : Nat, j < l.length → (j : Int) ≤ (rd_T70 l j).f0 := by
    intro j
    induction j with
    | zero => intro hj; exact (h 0 hj).1.1
    | succ j ih =>
      intro hj
      have a := ih (by omega)
      have b := (h (j + 1) hj).2.2.2 (by omega)
      have e : ((j + 1 : Nat) : Int) - 1 = (j : Int) := by omega
      rw [e] at b
      omega
  by_cases c : l.length ≤ 10
  · exact c
  · have a := key 10 (by omega)
    have b := (h 10 (by omega)).1.2
    omega
theorem spec_stubs (o s a : Int) (l : List S70) {t : List S74} (h : t.length ≤ 1048576) {k : Nat} (hk : t.length < k) : ∃ b, spec_LsaOk.l1 k 0 o s a l t = some b ∧ (b = true ↔ ∀ j, j < t.length → Sat t j) := by
  have x := all_loop (F := fun k i => spec_LsaOk.l1 k i o s a l t) (n := t.length) (P := Sat t) (e := true) ?_ ?_ t.length k 0 (by omega) hk (fun j hj => by omega)
  · obtain ⟨b, h1, h2⟩ := x
    exact ⟨b, h1, by simpa using h2⟩
  · intro k i hi hp
    simp only [spec_LsaOk.l1]
    rw [if_pos (by omega), if_pos (by omega), spec_Pok, spec_In]
    simp only [Option.bind_some, decide_eq_true_eq]
    by_cases c1 : Pok (rd_T74 t i).f0.f0 (rd_T74 t i).f0.f1
    · rw [if_pos c1]
      by_cases c2 : 1 ≤ (rd_T74 t i).f1 ∧ (rd_T74 t i).f1 ≤ 1000
      · rw [if_pos c2]
        by_cases c3 : i = 0
        · subst c3
          rw [if_neg (by omega), w64 (by omega) (by omega)]
          exact .inl ⟨⟨c1, c2, fun h => by omega⟩, rfl⟩
        · rw [if_pos (by omega), w64 (n := (i : Int) - 1) (by omega) (by omega), if_pos (by omega), if_pos (by omega)]
          obtain ⟨b, hb, hb2⟩ := spec_Ahead (rd_T74 t ((i : Int) - 1)).f0.f0 (rd_T74 t ((i : Int) - 1)).f0.f1 (rd_T74 t i).f0.f0 (rd_T74 t i).f0.f1
          rw [hb]
          simp only [Option.bind_some]
          by_cases c4 : b = true
          · rw [if_pos c4, w64 (by omega) (by omega)]
            exact .inl ⟨⟨c1, c2, fun _ => hb2.1 c4⟩, rfl⟩
          · rw [if_neg c4]
            exact .inr ⟨fun h => c4 (hb2.2 (h.2.2 (by omega))), rfl⟩
      · rw [if_neg c2]
        exact .inr ⟨fun h => c2 h.2.1, rfl⟩
    · rw [if_neg c1]
      exact .inr ⟨fun h => c1 h.1, rfl⟩
  · intro k _
    simp only [spec_LsaOk.l1]
    rw [if_neg (by omega)]
theorem spec_links (o s a : Int) {l : List S70} (hl : l.length ≤ 1048576) {t : List S74} (h : t.length ≤ 1048576) {k : Nat} (hk : l.length + t.length + 1 < k) :
    ∃ b, spec_LsaOk.l0 k 0 o s a l t = some b ∧ (b = true ↔ ((∀ j, j < l.length → Lat o l j) ∧ ∀ j, j < t.length → Sat t j)) := by
  obtain ⟨e, _, e2⟩ := spec_stubs o s a l h (k := t.length + 1) (by omega)
  have x := all_loopm (t.length + 1) (F := fun k i => spec_LsaOk.l0 k i o s a l t) (n := l.length) (P := Lat o l) (e := e) ?_ ?_ l.length k 0 (by omega) (by omega) (fun j hj => by omega)
  · obtain ⟨b, h1, h2⟩ := x
    exact ⟨b, h1, by rw [h2, e2]⟩
  · intro k i hi hp
    simp only [spec_LsaOk.l0]
    rw [if_pos (by omega), if_pos (by omega), spec_In, spec_In]
    simp only [Option.bind_some, decide_eq_true_eq]
    by_cases c1 : 0 ≤ (rd_T70 l i).f0 ∧ (rd_T70 l i).f0 ≤ 9
    · rw [if_pos c1]
      by_cases c2 : (rd_T70 l i).f0 = o
      · rw [if_pos c2]
        exact .inr ⟨fun h => h.2.1 c2, rfl⟩
      · rw [if_neg c2]
        by_cases c3 : 1 ≤ (rd_T70 l i).f1 ∧ (rd_T70 l i).f1 ≤ 1000
        · rw [if_pos c3]
          by_cases c4 : i = 0
          · subst c4
            rw [if_neg (by omega), w64 (by omega) (by omega)]
            exact .inl ⟨⟨c1, c2, c3, fun h => by omega⟩, rfl⟩
          · rw [if_pos (by omega), w64 (n := (i : Int) - 1) (by omega) (by omega), if_pos (by omega), if_pos (by omega)]
            by_cases c5 : (rd_T70 l ((i : Int) - 1)).f0 ≥ (rd_T70 l i).f0
            · rw [if_pos c5]
              refine .inr ⟨fun h => ?_, rfl⟩
              have := h.2.2.2 (by omega)
              omega
            · rw [if_neg c5, w64 (by omega) (by omega)]
              exact .inl ⟨⟨c1, c2, c3, fun _ => by omega⟩, rfl⟩
        · rw [if_neg c3]
          exact .inr ⟨fun h => c3 h.2.2.1, rfl⟩
    · rw [if_neg c1]
      exact .inr ⟨fun h => c1 h.1, rfl⟩
  · intro k hk _
    simp only [spec_LsaOk.l0]
    rw [if_neg (by omega)]
    obtain ⟨e', f1, f2⟩ := spec_stubs o s a l h (k := k) (by omega)
    have : e' = e := by rw [Bool.eq_iff_iff, f2, e2]
    rw [f1, this]
theorem spec_Lok (o s a : Int) {l : List S70} (hl : l.length ≤ 1048576) {t : List S74} (h : t.length ≤ 1048576) {k : Nat} (hk : l.length + t.length + 2 < k) :
    ∃ b, spec_LsaOk.f k o s a l t = some b ∧ (b = true ↔ Lok o s a l t) := by
  obtain ⟨k, rfl⟩ : ∃ m, k = m + 1 := ⟨k - 1, by omega⟩
  unfold spec_LsaOk.f Lok
  rw [spec_In, spec_In, spec_In]
  simp only [Option.bind_some, decide_eq_true_eq, spec_LsaOk.j0]
  by_cases c1 : 0 ≤ o ∧ o ≤ 9
  · rw [if_pos c1]
    by_cases c2 : 1 ≤ s ∧ s ≤ 1000000
    · rw [if_pos c2]
      by_cases c3 : 0 ≤ a ∧ a ≤ 60
      · rw [if_pos c3]
        by_cases c4 : (l.length : Int) > 10
        · rw [if_pos c4, if_pos trivial]
          exact ⟨false, rfl, (fun z => by cases z), fun z => by have := links_few z.2.2.2.1; omega⟩
        · rw [if_neg c4]
          by_cases c5 : (t.length : Int) > 6
          · rw [if_pos c5]
            exact ⟨false, rfl, (fun z => by cases z), fun z => by have := z.2.2.2.2.2; omega⟩
          · rw [if_neg c5]
            obtain ⟨b, h1, h2⟩ := spec_links o s a hl h (k := k) (by omega)
            exact ⟨b, h1, by rw [h2]; exact ⟨fun z => ⟨c1, c2, c3, z.1, z.2, by omega⟩, fun z => ⟨z.2.2.2.1, z.2.2.2.2.1⟩⟩⟩
      · rw [if_neg c3, if_pos trivial]
        exact ⟨false, rfl, (fun z => by cases z), fun z => absurd z.2.2.1 c3⟩
    · rw [if_neg c2, if_pos trivial]
      exact ⟨false, rfl, (fun z => by cases z), fun z => absurd z.2.1 c2⟩
  · rw [if_neg c1, if_pos trivial]
    exact ⟨false, rfl, (fun z => by cases z), fun z => absurd z.1 c1⟩
theorem impl_links (o : Int) {l : List S70} (hl : l.length ≤ 1048576) {k : Nat} (hk : l.length < k) : ∃ b, impl_areLinks.f k o l = some b ∧ (b = true ↔ ∀ j, j < l.length → Lat o l j) := by
  unfold impl_areLinks.f
  have x := all_loop (F := fun k i => impl_areLinks.l0 k o l l l.length i) (n := l.length) (P := Lat o l) (e := true) ?_ ?_ l.length k 0 (by omega) hk (fun j hj => by omega)
  · obtain ⟨b, h1, h2⟩ := x
    exact ⟨b, h1, by simpa using h2⟩
  · intro k i hi hp
    simp only [impl_areLinks.l0]
    rw [if_pos (by omega), if_pos (by omega), if_pos (by omega), impl_In, impl_In]
    simp only [Option.bind_some, decide_eq_true_eq]
    by_cases c1 : 0 ≤ (rd_T70 l i).f0 ∧ (rd_T70 l i).f0 ≤ 9
    · rw [if_pos c1]
      by_cases c3 : 1 ≤ (rd_T70 l i).f1 ∧ (rd_T70 l i).f1 ≤ 1000
      · rw [if_pos c3]
        by_cases c2 : (rd_T70 l i).f0 = o
        · rw [if_pos c2]
          exact .inr ⟨fun h => h.2.1 c2, rfl⟩
        · rw [if_neg c2]
          by_cases c4 : i = 0
          · subst c4
            rw [if_neg (by omega), w64 (by omega) (by omega)]
            exact .inl ⟨⟨c1, c2, c3, fun h => by omega⟩, rfl⟩
          · rw [if_pos (by omega), w64 (n := (i : Int) - 1) (by omega) (by omega), if_pos (by omega), if_pos (by omega)]
            by_cases c5 : (rd_T70 l i).f0 ≤ (rd_T70 l ((i : Int) - 1)).f0
            · rw [if_pos c5]
              refine .inr ⟨fun h => ?_, rfl⟩
              have := h.2.2.2 (by omega)
              omega
            · rw [if_neg c5, w64 (by omega) (by omega)]
              exact .inl ⟨⟨c1, c2, c3, fun _ => by omega⟩, rfl⟩
      · rw [if_neg c3]
        exact .inr ⟨fun h => c3 h.2.2.1, rfl⟩
    · rw [if_neg c1]
      exact .inr ⟨fun h => c1 h.1, rfl⟩
  · intro k _
    simp only [impl_areLinks.l0]
    rw [if_neg (by omega)]
theorem impl_stubs {t : List S74} (h : t.length ≤ 1048576) {k : Nat} (hk : t.length < k) : ∃ b, impl_areStubs.f k t = some b ∧ (b = true ↔ (∀ j, j < t.length → Sat t j) ∧ t.length ≤ 6) := by
  unfold impl_areStubs.f
  have x := all_loop (F := fun k i => impl_areStubs.l0 k t t t.length i) (n := t.length) (P := Sat t) (e := decide (t.length ≤ 6)) ?_ ?_ t.length k 0 (by omega) hk (fun j hj => by omega)
  · obtain ⟨b, h1, h2⟩ := x
    exact ⟨b, h1, by simpa using h2⟩
  · intro k i hi hp
    simp only [impl_areStubs.l0]
    rw [if_pos (by omega), if_pos (by omega), if_pos (by omega), impl_Pok, impl_In]
    simp only [Option.bind_some, decide_eq_true_eq]
    by_cases c1 : Pok (rd_T74 t i).f0.f0 (rd_T74 t i).f0.f1
    · rw [if_pos c1]
      by_cases c2 : 1 ≤ (rd_T74 t i).f1 ∧ (rd_T74 t i).f1 ≤ 1000
      · rw [if_pos c2]
        by_cases c3 : i = 0
        · subst c3
          rw [if_neg (by omega), w64 (by omega) (by omega)]
          exact .inl ⟨⟨c1, c2, fun h => by omega⟩, rfl⟩
        · rw [if_pos (by omega), w64 (n := (i : Int) - 1) (by omega) (by omega), if_pos (by omega), if_pos (by omega)]
          have e1 : (((i - 1 : Nat) : Int)) = (i : Int) - 1 := by omega
          have pv := (hp (i - 1) (by omega)).1
          rw [e1] at pv
          obtain ⟨b, hb, hb2⟩ := impl_Compare pv c1
          rw [hb]
          simp only [Option.bind_some]
          by_cases c4 : b ≥ 0
          · rw [if_pos c4]
            exact .inr ⟨fun h => hb2.2 (h.2.2 (by omega)) c4, rfl⟩
          · rw [if_neg c4, w64 (by omega) (by omega)]
            exact .inl ⟨⟨c1, c2, fun _ => hb2.1 c4⟩, rfl⟩
      · rw [if_neg c2]
        exact .inr ⟨fun h => c2 h.2.1, rfl⟩
    · rw [if_neg c1]
      exact .inr ⟨fun h => c1 h.1, rfl⟩
  · intro k _
    simp only [impl_areStubs.l0]
    rw [if_neg (by omega)]
    congr 1
    rw [decide_eq_decide]; omega
theorem impl_Lok (o s a : Int) {l : List S70} (hl : l.length ≤ 1048576) {t : List S74} (h : t.length ≤ 1048576) {k : Nat} (hk : l.length + t.length < k) :
    ∃ b, impl_LsaOk.f k o s a l t = some b ∧ (b = true ↔ Lok o s a l t) := by
  unfold impl_LsaOk.f Lok
  obtain ⟨b1, h1, h2⟩ := impl_links o hl (k := k) (by omega)
  obtain ⟨b2, h3, h4⟩ := impl_stubs h (k := k) (by omega)
  rw [impl_In, impl_In, impl_In, h1, h3]
  simp only [Option.bind_some, decide_eq_true_eq]
  by_cases c1 : 0 ≤ o ∧ o ≤ 9
  · rw [if_pos c1]
    by_cases c2 : 1 ≤ s ∧ s ≤ 1000000
    · rw [if_pos c2]
      by_cases c3 : 0 ≤ a ∧ a ≤ 60
      · rw [if_pos c3]
        by_cases c4 : b1 = true
        · rw [if_pos c4]
          exact ⟨b2, rfl, fun z => ⟨c1, c2, c3, h2.1 c4, (h4.1 z).1, (h4.1 z).2⟩, fun z => h4.2 z.2.2.2.2⟩
        · rw [if_neg c4]
          exact ⟨false, rfl, (fun z => by cases z), fun z => absurd (h2.2 z.2.2.2.1) c4⟩
      · rw [if_neg c3]
        exact ⟨false, rfl, (fun z => by cases z), fun z => absurd z.2.2.1 c3⟩
    · rw [if_neg c2]
      exact ⟨false, rfl, (fun z => by cases z), fun z => absurd z.2.1 c2⟩
  · rw [if_neg c1]
    exact ⟨false, rfl, (fun z => by cases z), fun z => absurd z.1 c1⟩
/-- Both ask the same of an advertisement. -/
theorem both_Lok (o s a : Int) {l : List S70} (hl : l.length ≤ 1048576) {t : List S74} (h : t.length ≤ 1048576) {k : Nat} (hk : l.length + t.length + 2 < k) :
    ∃ b, spec_LsaOk.f k o s a l t = some b ∧ impl_LsaOk.f k o s a l t = some b ∧ (b = true ↔ Lok o s a l t) := by
  obtain ⟨b1, s1, s2⟩ := spec_Lok o s a hl h hk
  obtain ⟨b2, i1, i2⟩ := impl_Lok o s a hl h (k := k) (by omega)
  have e : b2 = b1 := by rw [Bool.eq_iff_iff, i2, s2]
  exact ⟨b1, s1, by rw [i1, e], s2⟩
theorem i64_and255 {x : Int} (h0 : 0 ≤ x) (h1 : x < 2147483648) : Go.bits .and .i64 x 255 = x % 256 :=
  bits_mask .i64 31 (by decide) (fun n a b => by rw [IntKind.wrap_i64]; omega) 8 (by decide) x h0 h1
/-- A byte of a number. -/
def wb (x s : Int) : Int := (shr .i64 x s) % 256
theorem wide_digit {x : Int} (s : Int) (h0 : 0 ≤ x) (h1 : x ≤ 16777215) : (Go.bits .and .i64 (shr .i64 x s) 255) % 256 = wb x s := by
  have a : 0 ≤ shr .i64 x s := by unfold shr; exact Int.ediv_nonneg h0 (Int.le_of_lt (Int.pow_pos (by decide)))
  have b : shr .i64 x s ≤ x := by unfold shr; exact Int.ediv_le_self _ h0
  rw [i64_and255 a (by omega)]
  unfold wb; omega
def w2 (x : Int) : List Int := [wb x (8 * 1), wb x (8 * 0)]
def w3 (x : Int) : List Int := [wb x (8 * 2), wb x (8 * 1), wb x (8 * 0)]
theorem spec_wide_step {k : Nat} {x i : Int} {acc : List Int} (hi : i = 0 ∨ i = 1 ∨ i = 2) (h0 : 0 ≤ x) (h1 : x ≤ 16777215) (ha : acc.length ≤ 1048576) :
    spec_l05Wide.l0 (k + 1) x acc i = spec_l05Wide.l0 k x (acc ++ [wb x (8 * i)]) (i - 1) := by
  have e : IntKind.u64.wrap (wrap64 (8 * i)) = 8 * i := by rw [w64 (by omega) (by omega), u64w (by omega) (by omega)]
  simp only [spec_l05Wide.l0]
  rw [e, wide_digit _ h0 h1, if_pos (by omega), if_pos (by omega), if_pos (by omega), w64 (by omega) (by omega)]
theorem spec_wide_end {k : Nat} {x : Int} {acc : List Int} : spec_l05Wide.l0 (k + 1) x acc (-1) = some acc := by
  simp only [spec_l05Wide.l0]
  rw [if_neg (by omega)]
theorem spec_wide2 {k : Nat} {x : Int} (h0 : 0 ≤ x) (h1 : x ≤ 16777215) (hk : 5 < k) : spec_l05Wide.f k x 2 = some (w2 x) := by
  obtain ⟨k, rfl⟩ : ∃ m, k = m + 1 + 1 + 1 := ⟨k - 3, by omega⟩
  unfold spec_l05Wide.f
  have a : wrap64 (2 - 1) = 1 := w64 (by omega) (by omega)
  have b : (1 : Int) - 1 = 0 := rfl
  have c : (0 : Int) - 1 = -1 := rfl
  rw [a, spec_wide_step (.inr (.inl rfl)) h0 h1 (by simp), b, spec_wide_step (.inl rfl) h0 h1 (by simp), c, spec_wide_end]; rfl
theorem spec_wide3 {k : Nat} {x : Int} (h0 : 0 ≤ x) (h1 : x ≤ 16777215) (hk : 5 < k) : spec_l05Wide.f k x 3 = some (w3 x) := by
  obtain ⟨k, rfl⟩ : ∃ m, k = m + 1 + 1 + 1 + 1 := ⟨k - 4, by omega⟩
  unfold spec_l05Wide.f
  have a : wrap64 (3 - 1) = 2 := w64 (by omega) (by omega)
  have b2 : (2 : Int) - 1 = 1 := rfl
  have b : (1 : Int) - 1 = 0 := rfl
  have c : (0 : Int) - 1 = -1 := rfl
  rw [a, spec_wide_step (.inr (.inr rfl)) h0 h1 (by simp), b2, spec_wide_step (.inr (.inl rfl)) h0 h1 (by simp), b, spec_wide_step (.inl rfl) h0 h1 (by simp), c, spec_wide_end]; rfl
theorem impl_big_step {k : Nat} {x i : Int} {acc : List Int} (hi : i = 0 ∨ i = 1 ∨ i = 2) (ha : acc.length ≤ 1048576) :
    impl_big.l0 (k + 1) acc x i = impl_big.l0 k (acc ++ [wb x (8 * i)]) x (i - 1) := by
  have e : wrap64 (8 * i) = 8 * i := w64 (by omega) (by omega)
  simp only [impl_big.l0]
  rw [e, if_pos (by omega), if_pos (by omega), if_pos (by omega), w64 (by omega) (by omega)]; rfl
theorem impl_big_end {k : Nat} {x : Int} {acc : List Int} : impl_big.l0 (k + 1) acc x (-1) = some acc := by
  simp only [impl_big.l0]
  rw [if_neg (by omega)]
theorem impl_big2 {k : Nat} {x : Int} {l : List Int} (hl : l.length ≤ 1000) (hk : 5 < k) : impl_big.f k l x 2 = some (l ++ w2 x) := by
  obtain ⟨k, rfl⟩ : ∃ m, k = m + 1 + 1 + 1 := ⟨k - 3, by omega⟩
  unfold impl_big.f
  have a : wrap64 (2 - 1) = 1 := w64 (by omega) (by omega)
  have b : (1 : Int) - 1 = 0 := rfl
  have c : (0 : Int) - 1 = -1 := rfl
  rw [a, impl_big_step (.inr (.inl rfl)) (by omega), b, impl_big_step (.inl rfl) (by simp; omega), c, impl_big_end, List.append_assoc]; rfl
theorem impl_big3 {k : Nat} {x : Int} {l : List Int} (hl : l.length ≤ 1000) (hk : 5 < k) : impl_big.f k l x 3 = some (l ++ w3 x) := by
  obtain ⟨k, rfl⟩ : ∃ m, k = m + 1 + 1 + 1 + 1 := ⟨k - 4, by omega⟩
  unfold impl_big.f
  have a : wrap64 (3 - 1) = 2 := w64 (by omega) (by omega)
  have b2 : (2 : Int) - 1 = 1 := rfl
  have b : (1 : Int) - 1 = 0 := rfl
  have c : (0 : Int) - 1 = -1 := rfl
  rw [a, impl_big_step (.inr (.inr rfl)) (by omega), b2, impl_big_step (.inr (.inl rfl)) (by simp; omega), b, impl_big_step (.inl rfl) (by simp; omega), c, impl_big_end, List.append_assoc, List.append_assoc]; rfl
theorem app_loop {F : Nat → List Int → List Int → Int → Option (List Int)} (x : List Int) (hx : x.length ≤ 1000)
    (hs : ∀ (k i : Nat) (acc : List Int), i < x.length → acc.length ≤ 10000 → F (k + 1) x acc i = F k x (acc ++ [rd x i]) ((i : Int) + 1))
    (he : ∀ (k : Nat) (acc : List Int), F (k + 1) x acc x.length = some acc) : ∀ (d k i : Nat) (acc : List Int), i + d = x.length → d < k → acc.length ≤ 1000 + i → F k x acc i = some (acc ++ x.drop i) := by
  intro d
  induction d with
  | zero =>
    intro k i acc hi hk ha
    obtain ⟨k, rfl⟩ : ∃ m, k = m + 1 := ⟨k - 1, by omega⟩
    obtain rfl : i = x.length := by omega
    rw [he, List.drop_length, List.append_nil]
  | succ d ih =>
    intro k i acc hi hk ha
    obtain ⟨k, rfl⟩ : ∃ m, k = m + 1 := ⟨k - 1, by omega⟩
    have e1 : (i : Int) + 1 = ((i + 1 : Nat) : Int) := by omega
    have hil : i < x.length := by omega
    rw [hs k i acc hil (by omega), e1, ih k (i + 1) _ (by omega) (by omega) (by simp; omega), drop_getD x 0 hil, ← rd_getI, List.append_assoc]; rfl
theorem spec_bytes {x : List Int} (hx : x.length ≤ 1000) {k : Nat} (hk : x.length < k) : spec_l01Bytes.f k x = some x := by
  have z := app_loop (F := fun k x acc i => spec_l01Bytes.l0 k x acc i) x hx ?_ ?_ x.length k 0 [] (by omega) hk (by simp)
  · exact z
  · intro k i acc hi ha
    simp only [spec_l01Bytes.l0]
    rw [if_pos (by omega), if_pos (by omega), if_pos (by omega), w64 (by omega) (by omega)]
  · intro k acc
    simp only [spec_l01Bytes.l0]
    rw [if_neg (by omega)]
theorem spec_join {a x : List Int} (ha : a.length ≤ 1000) (hx : x.length ≤ 1000) {k : Nat} (hk : a.length + x.length < k) : spec_l01Join.f k a x = some (a ++ x) := by
  have z := app_loop (F := fun k x acc i => spec_l01Join.l0 k x acc i) x hx ?_ ?_ x.length k 0 a (by omega) (by omega) (by omega)
  · unfold spec_l01Join.f
    rw [spec_bytes ha (by omega)]
    exact z
  · intro k i acc hi ha
    simp only [spec_l01Join.l0]
    rw [if_pos (by omega), if_pos (by omega), if_pos (by omega), w64 (by omega) (by omega)]
  · intro k acc
    simp only [spec_l01Join.l0]
    rw [if_neg (by omega)]
/-- The bytes of a link, of a stub, of an advertisement. -/
def linkB (x : S70) : List Int := (x.f0 % 256) :: w2 x.f1
def stubB (x : S74) : List Int := w2 x.f0.f0 ++ (x.f0.f1 % 256) :: w2 x.f1
def lsaB (o s : Int) (l : List S70) (t : List S74) : List Int :=
  (o % 256) :: (w3 s ++ ((l.length : Int) % 256) :: (l.flatMap linkB ++ ((t.length : Int) % 256) :: t.flatMap stubB))
theorem rd_getL (l : List S70) (i : Nat) : rd_T70 l i = l.getD i z70 := by simp [rd_T70]
theorem rd_getT (l : List S74) (i : Nat) : rd_T74 l i = l.getD i z74 := by simp [rd_T74]
theorem spec_stubB (o s a : Int) (l : List S70) {t : List S74} (h : ∀ j, j < t.length → Sat t j) (h6 : t.length ≤ 6) : ∀ (d k i : Nat) (acc : List Int), i + d = t.length → d + 1000 < k → acc.length ≤ 100 + 5 * i →
    spec_LsaBytes.l1 k acc i o s a l t = some (acc ++ (t.drop i).flatMap stubB) := by
  intro d
  induction d with
  | zero =>
    intro k i acc hi hk ha
    obtain ⟨k, rfl⟩ : ∃ m, k = m + 1 := ⟨k - 1, by omega⟩
    obtain rfl : i = t.length := by omega
    simp only [spec_LsaBytes.l1]
    rw [if_neg (by omega), List.drop_length]
    simp
  | succ d ih =>
    intro k i acc hi hk ha
    obtain ⟨k, rfl⟩ : ∃ m, k = m + 1 := ⟨k - 1, by omega⟩
    have e1 : (i : Int) + 1 = ((i + 1 : Nat) : Int) := by omega
    have hil : i < t.length := by omega
    obtain ⟨⟨p1, p2, p3, p4, _⟩, ⟨q1, q2⟩, _⟩ := h i hil
    simp only [spec_LsaBytes.l1]
    rw [if_pos (by omega), if_pos (by omega), spec_wide2 p3 (by omega) (by omega)]
    simp only [Option.bind_some]
    rw [spec_join (by omega) (by simp [w2]) (by simp [w2]; omega)]
    simp only [Option.bind_some]
    rw [if_pos (by simp [w2]; omega), spec_wide2 (by omega) (by omega) (by omega)]
    simp only [Option.bind_some]
    rw [spec_join (by simp [w2]; omega) (by simp [w2]) (by simp [w2]; omega)]
    simp only [Option.bind_some]
    rw [w64 (by omega) (by omega), e1, ih k (i + 1) _ (by omega) (by omega) (by simp [w2]; omega), drop_getD t z74 hil, ← rd_getT]
    simp [stubB]
theorem impl_stubB {t : List S74} (h6 : t.length ≤ 6) : ∀ (d k i : Nat) (acc : List Int), i + d = t.length → d + 1000 < k → acc.length ≤ 100 + 5 * i →
    impl_Lsa_bytes.l1 k acc t t.length i = some (acc ++ (t.drop i).flatMap stubB) := by
  intro d
  induction d with
  | zero =>
    intro k i acc hi hk ha
    obtain ⟨k, rfl⟩ : ∃ m, k = m + 1 := ⟨k - 1, by omega⟩
    obtain rfl : i = t.length := by omega
    simp only [impl_Lsa_bytes.l1]
    rw [if_neg (by omega), List.drop_length]
    simp
  | succ d ih =>
    intro k i acc hi hk ha
    obtain ⟨k, rfl⟩ : ∃ m, k = m + 1 := ⟨k - 1, by omega⟩
    have e1 : (i : Int) + 1 = ((i + 1 : Nat) : Int) := by omega
    have hil : i < t.length := by omega
    simp only [impl_Lsa_bytes.l1]
    rw [if_pos (by omega), if_pos (by omega), if_pos (by omega), impl_big2 (by omega) (by omega)]
    simp only [Option.bind_some]
    rw [if_pos (by simp [w2]; omega), impl_big2 (by simp [w2]; omega) (by omega)]
    simp only [Option.bind_some]
    rw [w64 (by omega) (by omega), e1, ih k (i + 1) _ (by omega) (by omega) (by simp [w2]; omega), drop_getD t z74 hil, ← rd_getT]
    simp [stubB]
theorem spec_linkB (o s a : Int) {l : List S70} (hl : ∀ j, j < l.length → Lat o l j) (h10 : l.length ≤ 10) {t : List S74} (h : ∀ j, j < t.length → Sat t j) (h6 : t.length ≤ 6) : ∀ (d k i : Nat) (acc : List Int), i + d = l.length → d + 1010 < k → acc.length ≤ 10 + 3 * i →
    spec_LsaBytes.l0 k acc i o s a l t = some (acc ++ ((l.drop i).flatMap linkB ++ ((t.length : Int) % 256) :: t.flatMap stubB)) := by
  intro d
  induction d with
  | zero =>
    intro k i acc hi hk ha
    obtain ⟨k, rfl⟩ : ∃ m, k = m + 1 := ⟨k - 1, by omega⟩
    obtain rfl : i = l.length := by omega
    have z := spec_stubB o s a l h h6 t.length k 0 (acc ++ [(t.length : Int) % 256]) (by omega) (by omega) (by simp; omega)
    have z' : spec_LsaBytes.l1 k (acc ++ [(t.length : Int) % 256]) 0 o s a l t = some ((acc ++ [(t.length : Int) % 256]) ++ t.flatMap stubB) := z
    simp only [spec_LsaBytes.l0, Option.bind_some]
    rw [if_neg (by omega), List.drop_length, if_pos (by simp; omega), z']
    simp
  | succ d ih =>
    intro k i acc hi hk ha
    obtain ⟨k, rfl⟩ : ∃ m, k = m + 1 := ⟨k - 1, by omega⟩
    have e1 : (i : Int) + 1 = ((i + 1 : Nat) : Int) := by omega
    have hil : i < l.length := by omega
    obtain ⟨_, _, ⟨q1, q2⟩, _⟩ := hl i hil
    simp only [spec_LsaBytes.l0, Option.bind_some]
    rw [if_pos (by omega), if_pos (by omega), if_pos (by simp; omega), spec_wide2 (by omega) (by omega) (by omega)]
    simp only [Option.bind_some]
    rw [spec_join (by simp; omega) (by simp [w2]) (by simp [w2]; omega)]
    simp only [Option.bind_some]
    rw [w64 (by omega) (by omega), e1, ih k (i + 1) _ (by omega) (by omega) (by simp [w2]; omega), drop_getD l z70 hil, ← rd_getL]
    simp [linkB]
theorem impl_linkB (o s a : Int) {l : List S70} (h10 : l.length ≤ 10) {t : List S74} (h6 : t.length ≤ 6) : ∀ (d k i : Nat) (acc : List Int), i + d = l.length → d + 1010 < k → acc.length ≤ 10 + 3 * i →
    impl_Lsa_bytes.l0 k acc l l.length i o s a l t = some (acc ++ ((l.drop i).flatMap linkB ++ ((t.length : Int) % 256) :: t.flatMap stubB)) := by
  intro d
  induction d with
  | zero =>
    intro k i acc hi hk ha
    obtain ⟨k, rfl⟩ : ∃ m, k = m + 1 := ⟨k - 1, by omega⟩
    obtain rfl : i = l.length := by omega
    have z := impl_stubB h6 t.length k 0 (acc ++ [(t.length : Int) % 256]) (by omega) (by omega) (by simp; omega)
    have z' : impl_Lsa_bytes.l1 k (acc ++ [(t.length : Int) % 256]) t t.length 0 = some ((acc ++ [(t.length : Int) % 256]) ++ t.flatMap stubB) := z
    simp only [impl_Lsa_bytes.l0]
    rw [if_neg (by omega), List.drop_length, if_pos (by omega), z']
    simp
  | succ d ih =>
    intro k i acc hi hk ha
    obtain ⟨k, rfl⟩ : ∃ m, k = m + 1 := ⟨k - 1, by omega⟩
    have e1 : (i : Int) + 1 = ((i + 1 : Nat) : Int) := by omega
    have hil : i < l.length := by omega
    simp only [impl_Lsa_bytes.l0]
    rw [if_pos (by omega), if_pos (by omega), if_pos (by omega), if_pos (by omega), impl_big2 (by simp; omega) (by omega)]
    simp only [Option.bind_some]
    rw [w64 (by omega) (by omega), e1, ih k (i + 1) _ (by omega) (by omega) (by simp [w2]; omega), drop_getD l z70 hil, ← rd_getL]
    simp [linkB]
theorem spec_LsaB {o s a : Int} {l : List S70} {t : List S74} (L : Lok o s a l t) {k : Nat} (hk : 1100 < k) : spec_LsaBytes.f k o s a l t = some (lsaB o s l t) := by
  obtain ⟨h1, h2, h3, h4, h5, h6⟩ := L
  have h10 := links_few h4
  obtain ⟨b, y1, _, y3⟩ := both_Lok o s a (l := l) (by omega) (t := t) (by omega) (k := k) (by omega)
  have z := spec_linkB o s a h4 h10 h5 h6 l.length k 0 (((o % 256) :: w3 s) ++ [(l.length : Int) % 256]) (by omega) (by omega) (by simp [w3])
  have z' : spec_LsaBytes.l0 k (((o % 256) :: w3 s) ++ [(l.length : Int) % 256]) 0 o s a l t = some ((((o % 256) :: w3 s) ++ [(l.length : Int) % 256]) ++ (l.flatMap linkB ++ ((t.length : Int) % 256) :: t.flatMap stubB)) := z
  unfold spec_LsaBytes.f
  rw [y1]
  simp only [Option.bind_some]
  rw [if_pos (y3.2 ⟨h1, h2, h3, h4, h5, h6⟩), spec_wide3 (by omega) (by omega) (by omega)]
  simp only [Option.bind_some]
  rw [spec_join (by simp) (by simp [w3]) (by simp [w3]; omega)]
  simp only [Option.bind_some]
  rw [if_pos (by simp [w3])]
  show spec_LsaBytes.l0 k (((o % 256) :: w3 s) ++ [(l.length : Int) % 256]) 0 o s a l t = _
  rw [z']
  simp [lsaB]
theorem impl_LsaB {o s a : Int} {l : List S70} {t : List S74} (L : Lok o s a l t) {k : Nat} (hk : 1100 < k) : impl_Lsa_bytes.f k o s a l t = some (lsaB o s l t) := by
  obtain ⟨h1, h2, h3, h4, h5, h6⟩ := L
  have h10 := links_few h4
  have z := impl_linkB o s a h10 h6 l.length k 0 (((o % 256) :: w3 s) ++ [(l.length : Int) % 256]) (by omega) (by omega) (by simp [w3])
  have z' : impl_Lsa_bytes.l0 k (((o % 256) :: w3 s) ++ [(l.length : Int) % 256]) l l.length 0 o s a l t = some ((((o % 256) :: w3 s) ++ [(l.length : Int) % 256]) ++ (l.flatMap linkB ++ ((t.length : Int) % 256) :: t.flatMap stubB)) := z
  unfold impl_Lsa_bytes.f
  rw [impl_big3 (by simp) (by omega)]
  simp only [Option.bind_some]
  rw [if_pos (by simp [w3])]
  show impl_Lsa_bytes.l0 k (((o % 256) :: w3 s) ++ [(l.length : Int) % 256]) l l.length 0 o s a l t = _
  rw [z']
  simp [lsaB]
theorem lsaB_len {o s a : Int} {l : List S70} {t : List S74} (L : Lok o s a l t) : (lsaB o s l t).length ≤ 1000 := by
  obtain ⟨h1, h2, h3, h4, h5, h6⟩ := L
  have h10 := links_few h4
  have e1 : (l.flatMap linkB).length = 3 * l.length := by
    clear h4 h10
    induction l with
    | nil => rfl
    | cons x l ih => rw [List.flatMap_cons, List.length_append, ih]; simp [linkB, w2]; omega
  have e2 : (t.flatMap stubB).length = 5 * t.length := by
    clear h5 h6
    induction t with
    | nil => rfl
    | cons x t ih => rw [List.flatMap_cons, List.length_append, ih]; simp [stubB, w2]; omega
  unfold lsaB
  simp only [List.length_cons, List.length_append, e1, e2]
  simp [w3]; omega
theorem lsaB_len2 {o s a : Int} {l : List S70} {t : List S74} (L : Lok o s a l t) : (lsaB o s l t).length ≤ 900 := by
  obtain ⟨h1, h2, h3, h4, h5, h6⟩ := L
  have h10 := links_few h4
  have e1 : (l.flatMap linkB).length = 3 * l.length := by
    clear h4 h10
    induction l with
    | nil => rfl
    | cons x l ih => rw [List.flatMap_cons, List.length_append, ih]; simp [linkB, w2]; omega
  have e2 : (t.flatMap stubB).length = 5 * t.length := by
    clear h5 h6
    induction t with
    | nil => rfl
    | cons x t ih => rw [List.flatMap_cons, List.length_append, ih]; simp [stubB, w2]; omega
  unfold lsaB
  simp only [List.length_cons, List.length_append, e1, e2]
  simp [w3]; omega
theorem rd_mem0 {o : List Int} {i : Nat} (h : i < o.length) : rd o i ∈ o := by
  rw [rd_getI, List.getD_eq_getElem?_getD, List.getElem?_eq_getElem h]
  exact List.getElem_mem h
theorem both_sum2 (B : List Int) (hB : B.length ≤ 1000) (hb : ∀ b ∈ B, 0 ≤ b ∧ b < 256) : ∀ (d i : Nat) (s : Int), i + d = B.length → 0 ≤ s → s ≤ 1000002 →
    ∃ v, (0 ≤ v ∧ v ≤ 1000002) ∧ ∀ k, d < k → spec_LsaSum.l0 k s B i = some v ∧ impl_Lsa_sum.l0 k s B B.length i = some v := by
  intro d
  induction d with
  | zero =>
    intro i s hi h0 h1
    refine ⟨s, ⟨h0, h1⟩, fun k hk => ?_⟩
    obtain ⟨k, rfl⟩ : ∃ m, k = m + 1 := ⟨k - 1, by omega⟩
    simp only [spec_LsaSum.l0, impl_Lsa_sum.l0]
    rw [if_neg (by omega), if_neg (by omega)]
    exact ⟨rfl, rfl⟩
  | succ d ih =>
    intro i s hi h0 h1
    have e1 : (i : Int) + 1 = ((i + 1 : Nat) : Int) := by omega
    obtain ⟨b0, b1⟩ := hb _ (rd_mem0 (o := B) (i := i) (by omega))
    have hw : wrap64 ((wrap64 ((wrap64 (257 * s)) + (wrap64 (rd B i)))) + 1) = 257 * s + rd B i + 1 := by
      rw [w64 (n := 257 * s) (by omega) (by omega), w64 (n := rd B i) (by omega) (by omega), w64 (n := 257 * s + rd B i) (by omega) (by omega), w64 (by omega) (by omega)]
    have t0 : 0 ≤ Int.tmod (257 * s + rd B i + 1) 1000003 := Int.tmod_nonneg _ (by omega)
    have t1 : Int.tmod (257 * s + rd B i + 1) 1000003 < 1000003 := Int.tmod_lt_of_pos _ (by omega)
    obtain ⟨v, hv0, hv⟩ := ih (i + 1) (Int.tmod (257 * s + rd B i + 1) 1000003) (by omega) t0 (by omega)
    refine ⟨v, hv0, fun k hk => ?_⟩
    obtain ⟨k, rfl⟩ : ∃ m, k = m + 1 := ⟨k - 1, by omega⟩
    simp only [spec_LsaSum.l0, impl_Lsa_sum.l0]
    clear t0 t1
    rw [hw]
    clear hw
    rw [if_pos (by omega), if_pos (by omega), if_pos (by omega), if_pos (by omega), if_pos (by omega), w64 (n := (i : Int) + 1) (by omega) (by omega), e1]
    exact hv k (by omega)
theorem lsaB_byte {o s : Int} {l : List S70} {t : List S74} : ∀ b ∈ lsaB o s l t, 0 ≤ b ∧ b < 256 := by
  intro b hb
  simp only [lsaB, w3, w2, linkB, stubB, wb, List.mem_cons, List.mem_append, List.mem_flatMap, List.cons_append, List.nil_append, List.not_mem_nil, or_false] at hb
  rcases hb with h | h | h | h | h | h | h | h
  · omega
  · omega
  · omega
  · omega
  · omega
  · obtain ⟨x, _, h⟩ := h; omega
  · omega
  · obtain ⟨x, _, h⟩ := h; omega
theorem both_LsaSumL {o s a : Int} {l : List S70} {t : List S74} (L : Lok o s a l t) :
    ∃ v, (0 ≤ v ∧ v ≤ 1000002) ∧ ∀ k, 1200 < k → spec_LsaSum.f k o s a l t = some v ∧ impl_Lsa_sum.f k o s a l t = some v := by
  have hB := lsaB_len L
  obtain ⟨v, hv0, hv⟩ := both_sum2 (lsaB o s l t) hB lsaB_byte (lsaB o s l t).length 0 1 (by omega) (by omega) (by omega)
  refine ⟨v, hv0, fun k hk => ?_⟩
  have hl := links_few L.2.2.2.1
  have ht := L.2.2.2.2.2
  obtain ⟨b, y1, y2, y3⟩ := both_Lok o s a (l := l) (t := t) (by omega) (by omega) (k := k) (by omega)
  obtain ⟨v1, v2⟩ := hv k (by omega)
  have v1' : spec_LsaSum.l0 k 1 (lsaB o s l t) 0 = some v := v1
  have v2' : impl_Lsa_sum.l0 k 1 (lsaB o s l t) ((lsaB o s l t).length : Int) 0 = some v := v2
  unfold spec_LsaSum.f impl_Lsa_sum.f
  rw [y1]
  simp only [Option.bind_some]
  rw [if_pos (y3.2 L), spec_LsaB L (by omega), impl_LsaB L (by omega)]
  simp only [Option.bind_some]
  rw [v1', v2']
  exact ⟨rfl, rfl⟩
theorem sz_LinkS {l : List S85} {a : Int} (h : l.length ≤ 9223372036854775807) (h0 : 0 ≤ a) (h1 : a ≤ 1048576) :
    ∃ r, laws_szLinkS.f l a = some r ∧ r ≤ 1048576 ∧ (¬ r < 0 → l.length ≤ 1048576) := by
  unfold laws_szLinkS.f
  rw [w64 (by omega) (by omega)]
  by_cases c : a - l.length < 0
  · rw [if_pos c]; exact ⟨-1, rfl, by omega, fun z => absurd (by omega : (-1 : Int) < 0) z⟩
  · rw [if_neg c]; exact ⟨_, rfl, by omega, fun _ => by omega⟩
theorem sz_StubS {l : List S89} {a : Int} (h : l.length ≤ 9223372036854775807) (h0 : 0 ≤ a) (h1 : a ≤ 1048576) :
    ∃ r, laws_szStubS.f l a = some r ∧ r ≤ 1048576 ∧ (¬ r < 0 → l.length ≤ 1048576) := by
  unfold laws_szStubS.f
  rw [w64 (by omega) (by omega)]
  by_cases c : a - l.length < 0
  · rw [if_pos c]; exact ⟨-1, rfl, by omega, fun z => absurd (by omega : (-1 : Int) < 0) z⟩
  · rw [if_neg c]; exact ⟨_, rfl, by omega, fun _ => by omega⟩
theorem sz_LsaG (o s a n : Int) (n0 : 0 ≤ n) (n1 : n ≤ 1048576) {l : List S85} {t : List S89} (h : l.length ≤ 9223372036854775807) (h2 : t.length ≤ 9223372036854775807) :
    ∃ r, laws_szLsa.f o s a l t n = some r ∧ r ≤ 1048576 ∧ (¬ r < 0 → l.length ≤ 1048576 ∧ t.length ≤ 1048576) := by
  obtain ⟨r, e1, e2, e3⟩ := sz_LinkS (l := l) (a := n) h n0 n1
  unfold laws_szLsa.f
  rw [e1]
  simp only [Option.bind_some]
  by_cases c : r < 0
  · rw [if_pos c]; exact ⟨-1, rfl, by omega, fun z => absurd (by omega : (-1 : Int) < 0) z⟩
  · rw [if_neg c]
    obtain ⟨r2, f1, f2, f3⟩ := sz_StubS (l := t) (a := r) h2 (by omega) e2
    rw [f1]
    simp only [Option.bind_some]
    by_cases c2 : r2 < 0
    · rw [if_pos c2]; exact ⟨-1, rfl, by omega, fun z => absurd (by omega : (-1 : Int) < 0) z⟩
    · rw [if_neg c2]; exact ⟨_, rfl, f2, fun _ => ⟨e3 c, f3 c2⟩⟩
/-- The sign of a number. -/
def sg (x : Int) : Int := if x > 0 then 1 else if x < 0 then -1 else 0
theorem spec_sign (x : Int) : spec_l05Sign.f x = some (sg x) := by
  unfold spec_l05Sign.f sg
  split
  · rfl
  · split <;> rfl
theorem impl_cmp (x y : Int) : cmp_Compare_int.f x y = some (sg (x - y)) := by
  unfold cmp_Compare_int.f cmp_isNaN_int.f
  simp only [Option.bind_some, bne_self_eq_false, Bool.false_eq_true, if_false]
  unfold sg
  by_cases c : x < y
  · rw [if_pos c, if_neg (by omega), if_pos (by omega)]
  · rw [if_neg c]
    by_cases d : x > y
    · rw [if_pos d, if_pos (by omega)]
    · rw [if_neg d, if_neg (by omega), if_neg (by omega)]
theorem impl_or (x y : Int) {k : Nat} (hk : 3 < k) : cmp_Or_int.f k [x, y] = some (if x = 0 then y else x) := by
  obtain ⟨k, rfl⟩ : ∃ m, k = m + 3 := ⟨k - 3, by omega⟩
  unfold cmp_Or_int.f
  have e0 : rd [x, y] 0 = x := rfl
  have e1 : rd [x, y] 1 = y := rfl
  have w0 : wrap64 1 = 1 := w64 (by omega) (by omega)
  have w1 : wrap64 2 = 2 := w64 (by omega) (by omega)
  by_cases c : x = 0
  · by_cases d : y = 0
    · subst c d; simp [cmp_Or_int.l0, e0, e1, w0, w1, rd]
    · subst c; simp [cmp_Or_int.l0, e0, e1, w0, w1, rd, d]
  · simp [cmp_Or_int.l0, e0, e1, w0, w1, rd, c]
/-- Which of two valid advertisements of one origin is the newer one. -/
def nw (s a v s' a' v' : Int) : Int :=
  if s = s' then (if v = v' then (if a = a' then 0 else if a = 60 ∨ a' = 60 then sg (a - a') else if a - a' > 10 then -1 else if a' - a > 10 then 1 else 0) else sg (v - v')) else sg (s - s')
theorem both_Newer (o s a o' s' a' : Int) {l m : List S70} {t u : List S74} (hl : l.length ≤ 1048576) (ht : t.length ≤ 1048576) (hm : m.length ≤ 1048576) (hu : u.length ≤ 1048576) {k : Nat} (hk : l.length + t.length + m.length + u.length + 1300 < k) :
    ∃ b, spec_Newer.f k o s a l t o' s' a' m u = some b ∧ impl_Newer.f k o s a l t o' s' a' m u = some b := by
  obtain ⟨k, rfl⟩ : ∃ m, k = m + 2 := ⟨k - 2, by omega⟩
  obtain ⟨b1, y1, y2, y3⟩ := both_Lok o s a hl ht (k := k + 2) (by omega)
  obtain ⟨b2, z1, z2, z3⟩ := both_Lok o' s' a' hm hu (k := k + 2) (by omega)
  have hj : spec_Newer.j0 (k + 2) true o s a l t o' s' a' m u = some (-2) := by
    simp only [spec_Newer.j0, if_true]
  unfold spec_Newer.f impl_Newer.f
  rw [y1, y2, z1, z2, hj]
  simp only [Option.bind_some]
  by_cases c1 : b1 = true
  · rw [if_pos c1, if_pos c1]
    by_cases c2 : b2 = true
    · rw [if_pos c2, if_pos c2]
      by_cases c3 : o = o'
      · subst c3
        have L := y3.1 c1
        have L' := z3.1 c2
        obtain ⟨v, ⟨v0, v1⟩, hv⟩ := both_LsaSumL L
        obtain ⟨v', ⟨v0', v1'⟩, hv'⟩ := both_LsaSumL L'
        have a1 := (hv (k + 1) (by omega)).1
        have a2 := (hv (k + 2) (by omega)).2
        have a1' := (hv' (k + 1) (by omega)).1
        have a2' := (hv' (k + 2) (by omega)).2
        have hs := L.2.1
        have hs' := L'.2.1
        have ha := L.2.2.1
        have ha' := L'.2.2.1
        refine ⟨nw s a v s' a' v', ?_, ?_⟩
        · rw [bne_self_eq_false]
          simp only [spec_Newer.j0, Bool.false_eq_true, if_false]
          rw [a1, a1']
          simp only [Option.bind_some]
          unfold nw
          by_cases d1 : s = s'
          · rw [if_pos d1, if_pos d1]
            by_cases d2 : v = v'
            · rw [if_pos d2, if_pos d2]
              by_cases d3 : a = a'
              · rw [if_pos d3, if_pos d3]
              · rw [if_neg d3, if_neg d3]
                have hj1 : ∀ b : Bool, (b = true ↔ (a = 60 ∨ a' = 60)) → spec_Newer.j1 (k + 1) b o s a l t o s' a' m u = some (if a = 60 ∨ a' = 60 then sg (a - a') else if a - a' > 10 then -1 else if a' - a > 10 then 1 else 0) := by
                  intro b hb
                  simp only [spec_Newer.j1]
                  rw [spec_sign, spec_sign, w64 (n := a - a') (by omega) (by omega), w64 (n := a' - a) (by omega) (by omega)]
                  simp only [Option.bind_some]
                  by_cases d4 : b = true
                  · rw [if_pos d4, if_pos (hb.1 d4)]
                  · rw [if_neg d4, if_neg (fun z => d4 (hb.2 z))]
                    by_cases d5 : a - a' > 10
                    · rw [if_pos d5, if_pos d5]
                      unfold sg
                      rw [if_neg (by omega), if_pos (by omega)]
                    · rw [if_neg d5, if_neg d5]
                      by_cases d6 : a' - a > 10
                      · rw [if_pos d6, if_pos d6]
                        unfold sg
                        rw [if_pos (by omega)]
                      · rw [if_neg d6, if_neg d6]
                by_cases d7 : a = 60
                · rw [if_pos d7]
                  exact hj1 true ⟨fun _ => .inl d7, fun _ => rfl⟩
                · rw [if_neg d7]
                  exact hj1 _ (by rw [beq_iff_eq]; exact ⟨fun z => .inr z, fun z => z.resolve_left d7⟩)
            · rw [if_neg d2, if_neg d2, spec_sign, w64 (by omega) (by omega)]
              rfl
          · rw [if_neg d1, if_neg d1, spec_sign, w64 (by omega) (by omega)]
            rfl
        · rw [if_pos rfl]
          unfold impl_newer.f
          rw [impl_cmp, a2, a2']
          simp only [Option.bind_some]
          rw [impl_cmp]
          simp only [Option.bind_some]
          rw [impl_or _ _ (by omega)]
          unfold impl_newer_1.f
          simp only [Option.bind_some]
          rw [w64 (n := a - a') (by omega) (by omega), w64 (n := a' - a) (by omega) (by omega)]
          unfold nw
          by_cases d1 : s = s'
          · have e1 : sg (s - s') = 0 := by unfold sg; rw [if_neg (by omega), if_neg (by omega)]
            rw [e1, if_pos rfl, if_pos d1]
            by_cases d2 : v = v'
            · have e2 : sg (v - v') = 0 := by unfold sg; rw [if_neg (by omega), if_neg (by omega)]
              rw [e2, if_pos rfl, if_pos d2]
              by_cases d7 : a = 60
              · by_cases d8 : a' = 60
                · subst d7; subst d8; simp
                · have : (a' == 60) = false := by rw [beq_eq_false_iff_ne]; exact d8
                  have e3 : sg (a - a') = 1 := by unfold sg; rw [if_pos (by omega)]
                  rw [if_neg (by omega : ¬ a = a'), if_pos (Or.inl d7), e3, this, d7]
                  rfl
              · have h7 : (a == 60) = false := by rw [beq_eq_false_iff_ne]; exact d7
                by_cases d8 : a' = 60
                · have e3 : sg (a - a') = -1 := by unfold sg; rw [if_neg (by omega), if_pos (by omega)]
                  rw [if_neg (by omega : ¬ a = a'), if_pos (Or.inr d8), e3, h7, d8]
                  rfl
                · have : (a' == 60) = false := by rw [beq_eq_false_iff_ne]; exact d8
                  rw [h7, this, if_neg (show ¬ (a = 60 ∨ a' = 60) by omega)]
                  simp only [bne_self_eq_false, Bool.false_eq_true, if_false, Option.bind_some]
                  by_cases d3 : a = a'
                  · rw [if_neg (by omega), if_neg (by omega), if_pos d3]; rfl
                  · rw [if_neg d3]
                    by_cases d5 : a - a' > 10
                    · rw [if_pos d5, if_pos d5]; rfl
                    · rw [if_neg d5, if_neg d5]
                      by_cases d6 : a' - a > 10
                      · rw [if_pos d6, if_pos d6]; rfl
                      · rw [if_neg d6, if_neg d6]; rfl
            · have e2 : sg (v - v') ≠ 0 := by unfold sg; split; omega; split <;> omega
              rw [if_neg e2, if_neg d2]
              rfl
          · have e1 : sg (s - s') ≠ 0 := by unfold sg; split; omega; split <;> omega
            rw [if_neg e1, if_neg e1, if_neg d1]
            rfl
      · have : (o != o') = true := bne_iff_ne.2 c3
        rw [this, if_neg c3]
        exact ⟨-2, hj, rfl⟩
    · rw [if_neg c2, if_neg c2]
      exact ⟨-2, rfl, rfl⟩
  · rw [if_neg c1, if_neg c1]
    exact ⟨-2, rfl, rfl⟩
theorem FnExactNewer : FnExactNewer.Pure := by
  intro o s a l t o' s' a' m u _ _ _ hw hv _ _ _ hw2 hv2
  have hx : l.length ≤ 9223372036854775807 := hw.1
  have hx2 : t.length ≤ 9223372036854775807 := hv.1
  have hx3 : m.length ≤ 9223372036854775807 := hw2.1
  have hx4 : u.length ≤ 9223372036854775807 := hv2.1
  obtain ⟨r, z1, zz, z2⟩ := sz_LsaG o s a 1048576 (by omega) (by omega) hx hx2
  obtain ⟨K, hK⟩ : ∃ K, K = l.length + t.length + m.length + u.length + 1400 := ⟨_, rfl⟩
  refine ⟨K, ?_⟩
  unfold laws_FnExactNewer.f
  rw [z1]
  simp only [Option.bind_some]
  by_cases c : r < 0
  · rw [if_pos c]
  · rw [if_neg c]
    obtain ⟨r2, z3, zz2, z4⟩ := sz_LsaG o' s' a' r (by omega) zz hx3 hx4
    rw [z3]
    simp only [Option.bind_some]
    by_cases c2 : r2 < 0
    · rw [if_pos c2]
    · rw [if_neg c2]
      obtain ⟨hl, ht⟩ := z2 c
      obtain ⟨hm, hu⟩ := z4 c2
      have hn : (l.map cvL).length = l.length := List.length_map ..
      have hn2 : (t.map cvT).length = t.length := List.length_map ..
      have hn3 : (m.map cvL).length = m.length := List.length_map ..
      have hn4 : (u.map cvT).length = u.length := List.length_map ..
      obtain ⟨b, h1, h2⟩ := both_Newer o s a o' s' a' (l := l.map cvL) (t := t.map cvT) (m := m.map cvL) (u := u.map cvT) (by omega) (by omega) (by omega) (by omega) (k := K) (by omega)
      rw [to_Lsa o s a hl ht (by omega), to_Lsa o' s' a' hm hu (by omega)]
      simp only [Option.bind_some]
      rw [h1]
      simp only [Option.bind_some]
      rw [h2]
      simp only [Option.bind_some, if_true]
      rw [eq_Lsa o s a (by omega) (by omega) (by omega)]
      simp only [Option.bind_some, if_true]
      rw [eq_Lsa o' s' a' (by omega) (by omega) (by omega)]
      simp only [Option.bind_some, if_true]

end Go.Proofs.Ytiikcfaodkiakaa.Pure
