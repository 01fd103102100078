/- The plain law of FnExactPrefixText: the program's answer is the reference's. -/
import Derived.Test.YtmbaemcnjdgemaaDoorStmtFnExactPrefixText
namespace Go.Proofs.YtmbaemcnjdgemaaDoor.Pure
open Go.RowKit Go.Proofs.YtmbaemcnjdgemaaDoor.QFnExactPrefixText Go.Proofs.YtmbaemcnjdgemaaDoorA.PrintWords Go.Proofs.YtmbaemcnjdgemaaDoorA.PrintLast Go.Proofs.YtmbaemcnjdgemaaDoorA.PrintMore
set_option linter.unusedVariables false
set_option linter.unusedSimpArgs false

theorem len17 {l : Int} (h0 : 0 ≤ l) (h1 : l ≤ 16) : l = 0 ∨ l = 1 ∨ l = 2 ∨ l = 3 ∨ l = 4 ∨ l = 5 ∨ l = 6 ∨ l = 7 ∨ l = 8 ∨ l = 9 ∨ l = 10 ∨ l = 11 ∨ l = 12 ∨ l = 13 ∨ l = 14 ∨ l = 15 ∨ l = 16 := by omega
/-- How many addresses a prefix of length l has. -/
def psz (l : Int) : Int := 2 ^ (16 - l).toNat
theorem psz_pos (l : Int) : 0 < psz l := Int.pow_pos (by decide)
theorem psz_le {l : Int} (h0 : 0 ≤ l) (h1 : l ≤ 16) : psz l ≤ 65536 := by
  rcases len17 h0 h1 with rfl | rfl | rfl | rfl | rfl | rfl | rfl | rfl | rfl | rfl | rfl | rfl | rfl | rfl | rfl | rfl | rfl <;> decide
theorem psz_half {l : Int} (h0 : 0 ≤ l) (h1 : l ≤ 15) : psz l = 2 * psz (l + 1) := by
  rcases len17 h0 (by omega) with rfl | rfl | rfl | rfl | rfl | rfl | rfl | rfl | rfl | rfl | rfl | rfl | rfl | rfl | rfl | rfl | rfl <;> first | decide | omega
theorem psz_top {l : Int} (h0 : 0 ≤ l) (h1 : l ≤ 16) : 65536 = psz l * 2 ^ l.toNat := by
  rcases len17 h0 h1 with rfl | rfl | rfl | rfl | rfl | rfl | rfl | rfl | rfl | rfl | rfl | rfl | rfl | rfl | rfl | rfl | rfl <;> decide
theorem w64 {n : Int} (h0 : -9223372036854775808 ≤ n) (h1 : n ≤ 9223372036854775807) : wrap64 n = n := by unfold wrap64; omega
theorem shl_psz {l : Int} (h0 : 0 ≤ l) (h1 : l ≤ 16) : shl .i64 1 (16 - l) = psz l := by
  rcases len17 h0 h1 with rfl | rfl | rfl | rfl | rfl | rfl | rfl | rfl | rfl | rfl | rfl | rfl | rfl | rfl | rfl | rfl | rfl <;> decide
theorem u64w {n : Int} (h0 : 0 ≤ n) (h1 : n ≤ 16) : IntKind.u64.wrap n = n := by
  rcases len17 h0 h1 with rfl | rfl | rfl | rfl | rfl | rfl | rfl | rfl | rfl | rfl | rfl | rfl | rfl | rfl | rfl | rfl | rfl <;> decide
/-- A valid prefix. -/
def Pok (n l : Int) : Prop := 0 ≤ l ∧ l ≤ 16 ∧ 0 ≤ n ∧ n ≤ 65535 ∧ n % psz l = 0
instance (n l : Int) : Decidable (Pok n l) := by unfold Pok; infer_instance
theorem Pok.top {n l : Int} (h : Pok n l) : n + psz l ≤ 65536 := by
  obtain ⟨h0, h1, h2, h3, h4⟩ := h
  have e := psz_top h0 h1
  have p := psz_pos l
  have d := Int.emod_add_mul_ediv n (psz l)
  rw [h4, Int.zero_add] at d
  have q : n / psz l < 2 ^ l.toNat := by
    apply Int.ediv_lt_of_lt_mul p
    rw [Int.mul_comm]; omega
  have m : psz l * (n / psz l + 1) ≤ psz l * 2 ^ l.toNat := Int.mul_le_mul_of_nonneg_left (by omega) (by omega)
  rw [Int.mul_add] at m
  omega
theorem spec_In (a b c : Int) : spec_l01In.f a b c = some (decide (b ≤ a ∧ a ≤ c)) := by
  unfold spec_l01In.f
  by_cases h : b ≤ a <;> simp [h]
theorem spec_Addr (a : Int) : spec_l01Addr.f a = some (decide (0 ≤ a ∧ a ≤ 65535)) := by
  unfold spec_l01Addr.f; rw [spec_In]; rfl
theorem spec_Size {l : Int} (h0 : 0 ≤ l) (h1 : l ≤ 16) : spec_l01Size2.f l = some (psz l) := by
  unfold spec_l01Size2.f
  rw [w64 (by omega) (by omega), u64w (by omega) (by omega), if_pos (by omega), shl_psz h0 h1]
theorem spec_Pok (n l : Int) : spec_PrefixOk.f n l = some (decide (Pok n l)) := by
  unfold spec_PrefixOk.f
  rw [spec_In, spec_Addr]
  simp only [Option.bind_some, decide_eq_true_eq]
  by_cases hl : 0 ≤ l ∧ l ≤ 16
  · rw [if_pos hl]
    by_cases hn : 0 ≤ n ∧ n ≤ 65535
    · rw [if_pos hn, spec_Size hl.1 hl.2]
      have p := psz_pos l
      simp only [Option.bind_some]
      rw [if_neg (by omega), Int.tmod_eq_emod_of_nonneg hn.1]
      congr 1
      by_cases e : n % psz l = 0
      · rw [e]; simp [Pok, hl, hn, e]
      · simp [Pok, hl, hn, e]
    · rw [if_neg hn]; congr 1; symm; rw [decide_eq_false_iff_not]; unfold Pok; omega
  · rw [if_neg hl]; congr 1; symm; rw [decide_eq_false_iff_not]; unfold Pok; omega
theorem impl_In (a b c : Int) : impl_within.f a b c = some (decide (b ≤ a ∧ a ≤ c)) := by
  unfold impl_within.f
  by_cases h : b ≤ a <;> simp [h]
theorem impl_Addr (a : Int) : impl_isAddr.f a = some (decide (0 ≤ a ∧ a ≤ 65535)) := by
  unfold impl_isAddr.f; rw [impl_In]; rfl
theorem impl_Size (n : Int) {l : Int} (h0 : 0 ≤ l) (h1 : l ≤ 16) : impl_Prefix_size.f n l = some (psz l) := by
  unfold impl_Prefix_size.f
  rw [w64 (by omega) (by omega), if_pos (by omega), shl_psz h0 h1]
theorem impl_Pok (n l : Int) : impl_PrefixOk.f n l = some (decide (Pok n l)) := by
  unfold impl_PrefixOk.f
  rw [impl_In, impl_Addr]
  simp only [Option.bind_some, decide_eq_true_eq]
  by_cases hl : 0 ≤ l ∧ l ≤ 16
  · rw [if_pos hl]
    by_cases hn : 0 ≤ n ∧ n ≤ 65535
    · rw [if_pos hn, impl_Size n hl.1 hl.2]
      have p := psz_pos l
      simp only [Option.bind_some]
      rw [if_neg (by omega), Int.tmod_eq_emod_of_nonneg hn.1]
      congr 1
      by_cases e : n % psz l = 0
      · rw [e]; simp [Pok, hl, hn, e]
      · simp [Pok, hl, hn, e]
    · rw [if_neg hn]; congr 1; symm; rw [decide_eq_false_iff_not]; unfold Pok; omega
  · rw [if_neg hl]; congr 1; symm; rw [decide_eq_false_iff_not]; unfold Pok; omega
theorem ba_app (l : List UInt8) (m : List UInt8) : (⟨l.toArray⟩ : ByteArray) ++ (⟨m.toArray⟩ : ByteArray) = ⟨(l ++ m).toArray⟩ := by
  apply ByteArray.ext
  rw [ByteArray.data_append]
  simp
theorem ba_size (l : List UInt8) : (⟨l.toArray⟩ : ByteArray).size = l.length := by
  show l.toArray.size = l.length
  simp
theorem dig_str (d : Nat) (hd : d < 10) : strOfNums [(wrap64 (48 + (d : Int))) % 256] = ⟨[UInt8.ofNat (48 + d)].toArray⟩ := by
  rw [w64 (by omega) (by omega)]
  rcases (show d = 0 ∨ d = 1 ∨ d = 2 ∨ d = 3 ∨ d = 4 ∨ d = 5 ∨ d = 6 ∨ d = 7 ∨ d = 8 ∨ d = 9 by omega) with rfl | rfl | rfl | rfl | rfl | rfl | rfl | rfl | rfl | rfl <;> rfl
theorem num_loop : ∀ (m : Nat), 0 < m → m ≤ 1000000 → ∀ (k : Nat) (o : List UInt8), m < k → o.length + m ≤ 2000000 → spec_l01Num.l0 (k + 1) m ⟨o.toArray⟩ false = some ⟨(Lib.decDigits m ++ o).toArray⟩ := by
  intro m
  induction m using Nat.strongRecOn with
  | _ m ih =>
    intro h0 h1 k o hk ho
    have td : Int.tdiv (m : Int) 10 = ((m / 10 : Nat) : Int) := by rw [Int.tdiv_eq_ediv_of_nonneg (by omega)]; omega
    have tm : Int.tmod (m : Int) 10 = ((m % 10 : Nat) : Int) := by rw [Int.tmod_eq_emod_of_nonneg (by omega)]; omega
    simp only [spec_l01Num.l0]
    rw [if_neg (by omega), tm, if_neg (by omega)]
    simp only [Option.bind_some]
    rw [dig_str (m % 10) (by omega), ba_size, ba_size, if_pos (by simp; omega), ba_app, td, w64 (n := ((m / 10 : Nat) : Int)) (by omega) (by omega)]
    obtain ⟨k, rfl⟩ : ∃ q, k = q + 1 := ⟨k - 1, by omega⟩
    by_cases c : m < 10
    · have e : m / 10 = 0 := by omega
      have e2 : m % 10 = m := by omega
      rw [e, e2, Lib.decDigits_one c]
      simp only [spec_l01Num.l0]
      rw [if_pos (show ((0 : Nat) : Int) = 0 from rfl), if_neg (by decide)]
    · rw [ih (m / 10) (by omega) (by omega) (by omega) k _ (by omega) (by simp; omega)]
      have e : Lib.decDigits m = Lib.decDigits (m / 10) ++ [UInt8.ofNat (48 + m % 10)] := by rw [Lib.decDigits, dif_neg c]
      rw [e, List.append_assoc]
theorem num_ok {n : Nat} (h : n ≤ 1000000) {k : Nat} (hk : n + 1 < k) : spec_l01Num.f k n = some ⟨(Lib.decDigits n).toArray⟩ := by
  unfold spec_l01Num.f
  by_cases c : n = 0
  · subst c
    rw [if_pos (show ((0 : Nat) : Int) = 0 from rfl), Lib.decDigits_one (by omega)]
    rfl
  · obtain ⟨k, rfl⟩ : ∃ q, k = q + 1 := ⟨k - 1, by omega⟩
    have z := num_loop n (by omega) h k [] (by omega) (by simp; omega)
    rw [if_neg (by omega), decide_eq_false (by omega)]
    rw [List.append_nil] at z
    exact z
theorem itoa_ok {n : Nat} (h : n ≤ 1000000) : strconv_Itoa_46.f n = some ⟨(Lib.decDigits n).toArray⟩ := by
  unfold strconv_Itoa_46.f Lib.itoa
  rw [if_pos (by omega), if_neg (by omega), Int.toNat_natCast]
theorem dec_len (n : Nat) (h : n ≤ 1000000) : (Lib.decDigits n).length ≤ 20 := by
  have key : ∀ (d n : Nat), n < 10 ^ d → 0 < d → (Lib.decDigits n).length ≤ d := by
    intro d
    induction d with
    | zero => exact fun n _ h => absurd h (Nat.lt_irrefl 0)
    | succ d ih =>
      intro n hn _
      by_cases c : n < 10
      · rw [Lib.decDigits_one c]; simp
      · rw [Lib.decDigits, dif_neg c, List.length_append, List.length_singleton]
        have hd : 0 < d := by
          rcases Nat.eq_zero_or_pos d with rfl | h
          · simp at hn; omega
          · exact h
        have := ih (n / 10) (by rw [Nat.pow_succ] at hn; omega) hd
        omega
  exact key 20 n (Nat.lt_of_le_of_lt h (by decide)) (by decide)
/-- The text of a prefix. -/
def ptxt (n l : Nat) : List UInt8 := (((Lib.decDigits (n / 256) ++ [46]) ++ Lib.decDigits (n % 256)) ++ [47]) ++ Lib.decDigits l
theorem spec_text {n l : Int} (h : Pok n l) {k : Nat} (hk : 1000000 < k) : spec_PrefixText.f k n l = some ⟨(ptxt n.toNat l.toNat).toArray⟩ := by
  have h' := h
  obtain ⟨b0, b1, b2, b3, b4⟩ := h'
  obtain ⟨n, rfl⟩ := Int.eq_ofNat_of_zero_le b2
  obtain ⟨l, rfl⟩ := Int.eq_ofNat_of_zero_le b0
  have td : Int.tdiv (n : Int) 256 = ((n / 256 : Nat) : Int) := by rw [Int.tdiv_eq_ediv_of_nonneg (by omega)]; omega
  have tm : Int.tmod (n : Int) 256 = ((n % 256 : Nat) : Int) := by rw [Int.tmod_eq_emod_of_nonneg (by omega)]; omega
  have l1 := dec_len (n / 256) (by omega)
  have l2 := dec_len (n % 256) (by omega)
  have l3 := dec_len l (by omega)
  have d46 : (⟨#[46]⟩ : ByteArray) = ⟨[(46 : UInt8)].toArray⟩ := rfl
  have d47 : (⟨#[47]⟩ : ByteArray) = ⟨[(47 : UInt8)].toArray⟩ := rfl
  unfold spec_PrefixText.f
  rw [spec_Pok, decide_eq_true h]
  rw [Option.bind_some, if_pos rfl, td, tm, w64 (n := ((n / 256 : Nat) : Int)) (by omega) (by omega), num_ok (by omega) (by omega)]
  rw [Option.bind_some, ba_size, if_pos (by omega), num_ok (by omega) (by omega)]
  rw [Option.bind_some, d46, d47, ba_app, ba_size, ba_size, if_pos (by simp; omega), ba_app, ba_size, if_pos (by simp; omega), num_ok (by omega) (by omega)]
  rw [Option.bind_some, ba_app, ba_size, ba_size, if_pos (by simp; omega), ba_app]
  rfl
theorem impl_text {n l : Int} (h : Pok n l) : impl_Prefix_text.f n l = some ⟨(ptxt n.toNat l.toNat).toArray⟩ := by
  have h' := h
  obtain ⟨b0, b1, b2, b3, b4⟩ := h'
  obtain ⟨n, rfl⟩ := Int.eq_ofNat_of_zero_le b2
  obtain ⟨l, rfl⟩ := Int.eq_ofNat_of_zero_le b0
  have td : Int.tdiv (n : Int) 256 = ((n / 256 : Nat) : Int) := by rw [Int.tdiv_eq_ediv_of_nonneg (by omega)]; omega
  have tm : Int.tmod (n : Int) 256 = ((n % 256 : Nat) : Int) := by rw [Int.tmod_eq_emod_of_nonneg (by omega)]; omega
  have l1 := dec_len (n / 256) (by omega)
  have l2 := dec_len (n % 256) (by omega)
  have l3 := dec_len l (by omega)
  have d46 : (⟨#[46]⟩ : ByteArray) = ⟨[(46 : UInt8)].toArray⟩ := rfl
  have d47 : (⟨#[47]⟩ : ByteArray) = ⟨[(47 : UInt8)].toArray⟩ := rfl
  unfold impl_Prefix_text.f
  rw [td, tm, w64 (n := ((n / 256 : Nat) : Int)) (by omega) (by omega), itoa_ok (by omega)]
  rw [Option.bind_some, ba_size, if_pos (by omega), itoa_ok (by omega)]
  rw [Option.bind_some, d46, d47, ba_app, ba_size, ba_size, if_pos (by simp; omega), ba_app, ba_size, if_pos (by simp; omega), itoa_ok (by omega)]
  rw [Option.bind_some, ba_app, ba_size, ba_size, if_pos (by simp; omega), ba_app]
  rfl
theorem both_text (n l : Int) : ∃ s, impl_PrefixText.f n l = some s ∧ ∀ k, 1000000 < k → spec_PrefixText.f k n l = some s := by
  by_cases c : Pok n l
  · refine ⟨⟨(ptxt n.toNat l.toNat).toArray⟩, ?_, fun k hk => spec_text c hk⟩
    unfold impl_PrefixText.f
    rw [impl_Pok, decide_eq_true c]
    rw [Option.bind_some, if_pos rfl, impl_text c]
    rfl
  · refine ⟨⟨#[]⟩, ?_, fun k hk => ?_⟩
    · unfold impl_PrefixText.f
      rw [impl_Pok, decide_eq_false c]
      rfl
    · unfold spec_PrefixText.f
      rw [spec_Pok, decide_eq_false c]
      rfl
theorem FnExactPrefixText : FnExactPrefixText.Pure := by
  intro a b _ _
  obtain ⟨s, h1, h2⟩ := both_text a b
  obtain ⟨K, hK⟩ : ∃ K, K = 2000000 := ⟨_, rfl⟩
  refine ⟨K, ?_⟩
  unfold laws_FnExactPrefixText.f laws_toPrefix.f
  simp only [Option.bind_some]
  rw [h2 K (by omega)]
  simp only [Option.bind_some]
  rw [h1]
  simp only [Option.bind_some]
  rw [if_pos trivial]

end Go.Proofs.YtmbaemcnjdgemaaDoor.Pure
