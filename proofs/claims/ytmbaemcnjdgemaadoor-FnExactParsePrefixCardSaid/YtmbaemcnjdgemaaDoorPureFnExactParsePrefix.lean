/- The plain law of FnExactParsePrefix: the program's answer is the reference's. -/
import Derived.Test.YtmbaemcnjdgemaaDoorStmtFnExactParsePrefix
namespace Go.Proofs.YtmbaemcnjdgemaaDoor.Pure
open Go.RowKit Go.Proofs.YtmbaemcnjdgemaaDoor.QFnExactParsePrefix Go.Proofs.YtmbaemcnjdgemaaDoorD.PrintWords Go.Proofs.YtmbaemcnjdgemaaDoorD.PrintLast Go.Proofs.YtmbaemcnjdgemaaDoorD.PrintMore
set_option linter.unusedVariables false
set_option linter.unusedSimpArgs false

theorem len17 {l : Int} (h0 : 0 ≤ l) (h1 : l ≤ 16) : l = 0 ∨ l = 1 ∨ l = 2 ∨ l = 3 ∨ l = 4 ∨ l = 5 ∨ l = 6 ∨ l = 7 ∨ l = 8 ∨ l = 9 ∨ l = 10 ∨ l = 11 ∨ l = 12 ∨ l = 13 ∨ l = 14 ∨ l = 15 ∨ l = 16 := by omega
/-- How many addresses a prefix of length l has. -/
def psz (l : Int) : Int := 2 ^ (16 - l).toNat
theorem psz_pos (l : Int) : 0 < psz l := Int.pow_pos (by decide)
theorem psz_le {l : Int} (h0 : 0 ≤ l) (h1 : l ≤ 16) : psz l ≤ 65536 := by
  rcases len17 h0 h1 with rfl | rfl | rfl | rfl | rfl | rfl | rfl | rfl | rfl | rfl | rfl | rfl | rfl | rfl | rfl | rfl | rfl <;> decide
theorem psz_half {l : Int} (h0 : 0 ≤ l) (h1 : l ≤ 15) : psz l = 2 * psz (l + 1) := by
  rcases len17 h0 (by omega) with rfl | rfl | rfl | rfl | rfl | rfl | rfl | rfl | rfl | rfl | rfl | rfl | rfl | rfl | rfl | rfl | rfl <;> first | decide | omega
theorem psz_top {l : Int} (h0 : 0 ≤ l) (h1 : l ≤ 16) : 65536 = psz l * 2 ^ l.toNat := by
  rcases len17 h0 h1 with rfl | rfl | rfl | rfl | rfl | rfl | rfl | rfl | rfl | rfl | rfl | rfl | rfl | rfl | rfl | rfl | rfl <;> decide
theorem w64 {n : Int} (h0 : -9223372036854775808 ≤ n) (h1 : n ≤ 9223372036854775807) : wrap64 n = n := by unfold wrap64; omega
theorem shl_psz {l : Int} (h0 : 0 ≤ l) (h1 : l ≤ 16) : shl .i64 1 (16 - l) = psz l := by
  rcases len17 h0 h1 with rfl | rfl | rfl | rfl | rfl | rfl | rfl | rfl | rfl | rfl | rfl | rfl | rfl | rfl | rfl | rfl | rfl <;> decide
theorem u64w {n : Int} (h0 : 0 ≤ n) (h1 : n ≤ 16) : IntKind.u64.wrap n = n := by
  rcases len17 h0 h1 with rfl | rfl | rfl | rfl | rfl | rfl | rfl | rfl | rfl | rfl | rfl | rfl | rfl | rfl | rfl | rfl | rfl <;> decide
/-- A valid prefix. -/
def Pok (n l : Int) : Prop := 0 ≤ l ∧ l ≤ 16 ∧ 0 ≤ n ∧ n ≤ 65535 ∧ n % psz l = 0
instance (n l : Int) : Decidable (Pok n l) := by unfold Pok; infer_instance
theorem Pok.top {n l : Int} (h : Pok n l) : n + psz l ≤ 65536 := by
  obtain ⟨h0, h1, h2, h3, h4⟩ := h
  have e := psz_top h0 h1
  have p := psz_pos l
  have d := Int.emod_add_mul_ediv n (psz l)
  rw [h4, Int.zero_add] at d
  have q : n / psz l < 2 ^ l.toNat := by
    apply Int.ediv_lt_of_lt_mul p
    rw [Int.mul_comm]; omega
  have m : psz l * (n / psz l + 1) ≤ psz l * 2 ^ l.toNat := Int.mul_le_mul_of_nonneg_left (by omega) (by omega)
  rw [Int.mul_add] at m
  omega
theorem spec_In (a b c : Int) : spec_l01In.f a b c = some (decide (b ≤ a ∧ a ≤ c)) := by
  unfold spec_l01In.f
  by_cases h : b ≤ a <;> simp [h]
theorem spec_Addr (a : Int) : spec_l01Addr.f a = some (decide (0 ≤ a ∧ a ≤ 65535)) := by
  unfold spec_l01Addr.f; rw [spec_In]; rfl
theorem spec_Size {l : Int} (h0 : 0 ≤ l) (h1 : l ≤ 16) : spec_l01Size2.f l = some (psz l) := by
  unfold spec_l01Size2.f
  rw [w64 (by omega) (by omega), u64w (by omega) (by omega), if_pos (by omega), shl_psz h0 h1]
theorem spec_Pok (n l : Int) : spec_PrefixOk.f n l = some (decide (Pok n l)) := by
  unfold spec_PrefixOk.f
  rw [spec_In, spec_Addr]
  simp only [Option.bind_some, decide_eq_true_eq]
  by_cases hl : 0 ≤ l ∧ l ≤ 16
  · rw [if_pos hl]
    by_cases hn : 0 ≤ n ∧ n ≤ 65535
    · rw [if_pos hn, spec_Size hl.1 hl.2]
      have p := psz_pos l
      simp only [Option.bind_some]
      rw [if_neg (by omega), Int.tmod_eq_emod_of_nonneg hn.1]
      congr 1
      by_cases e : n % psz l = 0
      · rw [e]; simp [Pok, hl, hn, e]
      · simp [Pok, hl, hn, e]
    · rw [if_neg hn]; congr 1; symm; rw [decide_eq_false_iff_not]; unfold Pok; omega
  · rw [if_neg hl]; congr 1; symm; rw [decide_eq_false_iff_not]; unfold Pok; omega
theorem impl_In (a b c : Int) : impl_within.f a b c = some (decide (b ≤ a ∧ a ≤ c)) := by
  unfold impl_within.f
  by_cases h : b ≤ a <;> simp [h]
theorem impl_Addr (a : Int) : impl_isAddr.f a = some (decide (0 ≤ a ∧ a ≤ 65535)) := by
  unfold impl_isAddr.f; rw [impl_In]; rfl
theorem impl_Size (n : Int) {l : Int} (h0 : 0 ≤ l) (h1 : l ≤ 16) : impl_Prefix_size.f n l = some (psz l) := by
  unfold impl_Prefix_size.f
  rw [w64 (by omega) (by omega), if_pos (by omega), shl_psz h0 h1]
theorem impl_Pok (n l : Int) : impl_PrefixOk.f n l = some (decide (Pok n l)) := by
  unfold impl_PrefixOk.f
  rw [impl_In, impl_Addr]
  simp only [Option.bind_some, decide_eq_true_eq]
  by_cases hl : 0 ≤ l ∧ l ≤ 16
  · rw [if_pos hl]
    by_cases hn : 0 ≤ n ∧ n ≤ 65535
    · rw [if_pos hn, impl_Size n hl.1 hl.2]
      have p := psz_pos l
      simp only [Option.bind_some]
      rw [if_neg (by omega), Int.tmod_eq_emod_of_nonneg hn.1]
      congr 1
      by_cases e : n % psz l = 0
      · rw [e]; simp [Pok, hl, hn, e]
      · simp [Pok, hl, hn, e]
    · rw [if_neg hn]; congr 1; symm; rw [decide_eq_false_iff_not]; unfold Pok; omega
  · rw [if_neg hl]; congr 1; symm; rw [decide_eq_false_iff_not]; unfold Pok; omega
theorem ba_app (l : List UInt8) (m : List UInt8) : (⟨l.toArray⟩ : ByteArray) ++ (⟨m.toArray⟩ : ByteArray) = ⟨(l ++ m).toArray⟩ := by
  apply ByteArray.ext
  rw [ByteArray.data_append]
  simp
theorem ba_size (l : List UInt8) : (⟨l.toArray⟩ : ByteArray).size = l.length := by
  show l.toArray.size = l.length
  simp
theorem dig_str (d : Nat) (hd : d < 10) : strOfNums [(wrap64 (48 + (d : Int))) % 256] = ⟨[UInt8.ofNat (48 + d)].toArray⟩ := by
  rw [w64 (by omega) (by omega)]
  rcases (show d = 0 ∨ d = 1 ∨ d = 2 ∨ d = 3 ∨ d = 4 ∨ d = 5 ∨ d = 6 ∨ d = 7 ∨ d = 8 ∨ d = 9 by omega) with rfl | rfl | rfl | rfl | rfl | rfl | rfl | rfl | rfl | rfl <;> rfl
theorem num_loop : ∀ (m : Nat), 0 < m → m ≤ 2000000000 → ∀ (k : Nat) (o : List UInt8), m < k → o.length + m ≤ 4000000000 → spec_l01Num.l0 (k + 1) m ⟨o.toArray⟩ false = some ⟨(Lib.decDigits m ++ o).toArray⟩ := by
  intro m
  induction m using Nat.strongRecOn with
  | _ m ih =>
    intro h0 h1 k o hk ho
    have td : Int.tdiv (m : Int) 10 = ((m / 10 : Nat) : Int) := by rw [Int.tdiv_eq_ediv_of_nonneg (by omega)]; omega
    have tm : Int.tmod (m : Int) 10 = ((m % 10 : Nat) : Int) := by rw [Int.tmod_eq_emod_of_nonneg (by omega)]; omega
    simp only [spec_l01Num.l0]
    rw [if_neg (by omega), tm, if_neg (by omega)]
    simp only [Option.bind_some]
    rw [dig_str (m % 10) (by omega), ba_size, ba_size, if_pos (by simp; omega), ba_app, td, w64 (n := ((m / 10 : Nat) : Int)) (by omega) (by omega)]
    obtain ⟨k, rfl⟩ : ∃ q, k = q + 1 := ⟨k - 1, by omega⟩
    by_cases c : m < 10
    · have e : m / 10 = 0 := by omega
      have e2 : m % 10 = m := by omega
      rw [e, e2, Lib.decDigits_one c]
      simp only [spec_l01Num.l0]
      rw [if_pos (show ((0 : Nat) : Int) = 0 from rfl), if_neg (by decide)]
    · rw [ih (m / 10) (by omega) (by omega) (by omega) k _ (by omega) (by simp; omega)]
      have e : Lib.decDigits m = Lib.decDigits (m / 10) ++ [UInt8.ofNat (48 + m % 10)] := by rw [Lib.decDigits, dif_neg c]
      rw [e, List.append_assoc]
theorem num_ok {n : Nat} (h : n ≤ 2000000000) {k : Nat} (hk : n + 1 < k) : spec_l01Num.f k n = some ⟨(Lib.decDigits n).toArray⟩ := by
  unfold spec_l01Num.f
  by_cases c : n = 0
  · subst c
    rw [if_pos (show ((0 : Nat) : Int) = 0 from rfl), Lib.decDigits_one (by omega)]
    rfl
  · obtain ⟨k, rfl⟩ : ∃ q, k = q + 1 := ⟨k - 1, by omega⟩
    have z := num_loop n (by omega) h k [] (by omega) (by simp; omega)
    rw [if_neg (by omega), decide_eq_false (by omega)]
    rw [List.append_nil] at z
    exact z
theorem itoa_ok {n : Nat} (h : n ≤ 1000000) : strconv_Itoa_46.f n = some ⟨(Lib.decDigits n).toArray⟩ := by
  unfold strconv_Itoa_46.f Lib.itoa
  rw [if_pos (by omega), if_neg (by omega), Int.toNat_natCast]
theorem dec_len (n : Nat) (h : n ≤ 1000000) : (Lib.decDigits n).length ≤ 20 := by
  have key : ∀ (d n : Nat), n < 10 ^ d → 0 < d → (Lib.decDigits n).length ≤ d := by
    intro d
    induction d with
    | zero => exact fun n _ h => absurd h (Nat.lt_irrefl 0)
    | succ d ih =>
      intro n hn _
      by_cases c : n < 10
      · rw [Lib.decDigits_one c]; simp
      · rw [Lib.decDigits, dif_neg c, List.length_append, List.length_singleton]
        have hd : 0 < d := by
          rcases Nat.eq_zero_or_pos d with rfl | h
          · simp at hn; omega
          · exact h
        have := ih (n / 10) (by rw [Nat.pow_succ] at hn; omega) hd
        omega
  exact key 20 n (Nat.lt_of_le_of_lt h (by decide)) (by decide)
/-- The text of a prefix. -/
def ptxt (n l : Nat) : List UInt8 := (((Lib.decDigits (n / 256) ++ [46]) ++ Lib.decDigits (n % 256)) ++ [47]) ++ Lib.decDigits l
theorem impl_text {n l : Int} (h : Pok n l) : impl_Prefix_text.f n l = some ⟨(ptxt n.toNat l.toNat).toArray⟩ := by
  have h' := h
  obtain ⟨b0, b1, b2, b3, b4⟩ := h'
  obtain ⟨n, rfl⟩ := Int.eq_ofNat_of_zero_le b2
  obtain ⟨l, rfl⟩ := Int.eq_ofNat_of_zero_le b0
  have td : Int.tdiv (n : Int) 256 = ((n / 256 : Nat) : Int) := by rw [Int.tdiv_eq_ediv_of_nonneg (by omega)]; omega
  have tm : Int.tmod (n : Int) 256 = ((n % 256 : Nat) : Int) := by rw [Int.tmod_eq_emod_of_nonneg (by omega)]; omega
  have l1 := dec_len (n / 256) (by omega)
  have l2 := dec_len (n % 256) (by omega)
  have l3 := dec_len l (by omega)
  have d46 : (⟨#[46]⟩ : ByteArray) = ⟨[(46 : UInt8)].toArray⟩ := rfl
  have d47 : (⟨#[47]⟩ : ByteArray) = ⟨[(47 : UInt8)].toArray⟩ := rfl
  unfold impl_Prefix_text.f
  rw [td, tm, w64 (n := ((n / 256 : Nat) : Int)) (by omega) (by omega), itoa_ok (by omega)]
  rw [Option.bind_some, ba_size, if_pos (by omega), itoa_ok (by omega)]
  rw [Option.bind_some, d46, d47, ba_app, ba_size, ba_size, if_pos (by simp; omega), ba_app, ba_size, if_pos (by simp; omega), itoa_ok (by omega)]
  rw [Option.bind_some, ba_app, ba_size, ba_size, if_pos (by simp; omega), ba_app]
  rfl
theorem ba_toList (l : List UInt8) : (⟨l.toArray⟩ : ByteArray).toList = l := by
  rw [ByteArray.toList_eq]
theorem ba_mk (s : ByteArray) : ∃ l : List UInt8, s = ⟨l.toArray⟩ := ⟨s.data.toList, by apply ByteArray.ext; simp⟩
theorem ba_ext (l : List UInt8) (i j : Nat) : (⟨l.toArray⟩ : ByteArray).extract i j = ⟨((l.drop i).take (j - i)).toArray⟩ := by
  apply ByteArray.ext
  rw [ByteArray.data_extract]
  show l.toArray.extract i j = ((l.drop i).take (j - i)).toArray
  rw [List.extract_toArray]
theorem ba_bt (x y : List UInt8) (c : UInt8) : bt (⟨(x ++ c :: y).toArray⟩ : ByteArray) (x.length : Int) = (c.toNat : Int) := by
  have h : (x.length : Int).toNat < (⟨(x ++ c :: y).toArray⟩ : ByteArray).size := by
    rw [ba_size]; simp
  unfold bt
  rw [dif_pos h]
  show (((x ++ c :: y).toArray[(x.length : Int).toNat]'(by simp)).toNat : Int) = _
  simp
theorem u8_eq (c b : UInt8) : ((c.toNat : Int) = (b.toNat : Int)) ↔ c = b := by
  rw [Int.ofNat_inj, UInt8.toNat_inj]
/-- The parts of a row between the places of one byte. -/
def splitB (b : UInt8) : List UInt8 → List UInt8 → List (List UInt8)
  | cur, [] => [cur]
  | cur, c :: r => if c = b then cur :: splitB b [] r else splitB b (cur ++ [c]) r
def mkB (l : List UInt8) : ByteArray := ⟨l.toArray⟩
theorem parts_loop (b : UInt8) : ∀ (rest pre cur : List UInt8) (k : Nat) (out : List ByteArray), (pre ++ cur ++ rest).length ≤ 1000 → rest.length + 3 ≤ k → out.length + rest.length ≤ 1000 →
    spec_l01Parts.l0 k ⟨(pre ++ cur ++ rest).toArray⟩ (b.toNat : Int) out (pre.length : Int) ((pre ++ cur).length : Int) = some (out ++ (splitB b cur rest).map mkB) := by
  intro rest
  induction rest with
  | nil =>
    intro pre cur k out h1 h2 h3
    obtain ⟨k, rfl⟩ : ∃ q, k = q + 1 := ⟨k - 1, by simp at h2; omega⟩
    rw [List.append_nil] at h1 ⊢
    have hl : (pre ++ cur).length = pre.length + cur.length := List.length_append
    simp only [List.length_nil] at h2 h3
    rw [spec_l01Parts.l0, ba_size, if_pos (by omega), if_pos rfl, if_pos (by omega), if_pos (by omega), if_pos (by omega), w64 (by omega) (by omega)]
    obtain ⟨k, rfl⟩ : ∃ q, k = q + 1 := ⟨k - 1, by omega⟩
    rw [spec_l01Parts.l0, ba_size, if_neg (by omega), ba_ext, Int.toNat_natCast, Int.toNat_natCast, hl, show pre.length + cur.length - pre.length = cur.length by omega]
    simp [splitB, mkB]
  | cons c r ih =>
    intro pre cur k out h1 h2 h3
    obtain ⟨k, rfl⟩ : ∃ q, k = q + 1 := ⟨k - 1, by simp at h2; omega⟩
    have hl : (pre ++ cur).length = pre.length + cur.length := List.length_append
    have hl2 : (pre ++ cur ++ c :: r).length = pre.length + cur.length + (r.length + 1) := by rw [List.length_append, hl, List.length_cons]
    simp only [List.length_cons] at h2 h3
    rw [spec_l01Parts.l0, ba_size, if_pos (by omega), if_neg (by omega), if_pos (by omega), if_pos (by omega), ba_bt]
    by_cases e : c = b
    · subst e
      rw [if_pos rfl, if_pos (by omega), if_pos (by omega), if_pos (by omega), w64 (by omega) (by omega), ba_ext, Int.toNat_natCast, Int.toNat_natCast]
      have z := ih (pre ++ cur ++ [c]) [] k (out ++ [mkB cur]) (by simp only [List.length_append, List.length_cons, List.length_nil]; omega) (by omega) (by simp only [List.length_append, List.length_cons, List.length_nil]; omega)
      have e1 : pre ++ cur ++ [c] ++ [] ++ r = pre ++ cur ++ c :: r := by simp
      have e2 : (pre ++ cur ++ [c] ++ []).length = (pre ++ cur).length + 1 := by simp only [List.length_append, List.length_cons, List.length_nil]
      have e4 : (pre ++ cur ++ [c]).length = (pre ++ cur).length + 1 := by simp only [List.length_append, List.length_cons, List.length_nil]
      have e3 : ((pre ++ cur ++ c :: r).drop pre.length).take ((pre ++ cur).length - pre.length) = cur := by
        rw [hl, show pre.length + cur.length - pre.length = cur.length by omega, List.append_assoc, List.drop_left, List.take_left]
      rw [e1, e2, e4] at z
      rw [e3, splitB, if_pos rfl]
      rw [show (((pre ++ cur).length : Nat) : Int) + 1 = (((pre ++ cur).length + 1 : Nat) : Int) by omega]
      rw [show (⟨cur.toArray⟩ : ByteArray) = mkB cur from rfl, z]
      simp
    · rw [if_neg (fun q => e ((u8_eq c b).1 q)), w64 (by omega) (by omega)]
      have z := ih pre (cur ++ [c]) k out (by simp only [List.length_append, List.length_cons, List.length_nil]; omega) (by omega) (by omega)
      have e1 : pre ++ (cur ++ [c]) ++ r = pre ++ cur ++ c :: r := by simp
      have e2 : (pre ++ (cur ++ [c])).length = (pre ++ cur).length + 1 := by simp only [List.length_append, List.length_cons, List.length_nil]; omega
      rw [e1, e2] at z
      rw [show (((pre ++ cur).length : Nat) : Int) + 1 = (((pre ++ cur).length + 1 : Nat) : Int) by omega, splitB, if_neg e]
      exact z
theorem parts_ok (b : UInt8) (L : List UInt8) (h : L.length ≤ 900) {k : Nat} (hk : 1000 < k) : spec_l01Parts.f k ⟨L.toArray⟩ (b.toNat : Int) = some ((splitB b [] L).map mkB) := by
  have z := parts_loop b L [] [] k [] (by simp; omega) (by omega) (by simp; omega)
  unfold spec_l01Parts.f
  exact z
theorem splitB_ne (b : UInt8) : ∀ (l cur : List UInt8), splitB b cur l ≠ []
  | [], _ => by simp [splitB]
  | c :: r, cur => by
    rw [splitB]
    by_cases e : c = b
    · rw [if_pos e]; simp
    · rw [if_neg e]; exact splitB_ne b r _
theorem splitB_one (b : UInt8) : ∀ (l cur y : List UInt8), splitB b cur l = [y] → cur ++ l = y
  | [], cur, y => by simp [splitB]
  | c :: r, cur, y => by
    rw [splitB]
    by_cases e : c = b
    · rw [if_pos e]
      intro h
      injection h with h1 h2
      exact absurd h2 (splitB_ne b r [])
    · rw [if_neg e]
      intro h
      have := splitB_one b r _ y h
      simpa using this
theorem splitB_two (b : UInt8) : ∀ (l cur x y : List UInt8), splitB b cur l = [x, y] → cur ++ l = x ++ b :: y
  | [], cur, x, y => by simp [splitB]
  | c :: r, cur, x, y => by
    rw [splitB]
    by_cases e : c = b
    · rw [if_pos e]
      intro h
      injection h with h1 h2
      have := splitB_one b r [] y h2
      rw [List.nil_append] at this
      rw [h1, this, e]
    · rw [if_neg e]
      intro h
      have := splitB_two b r _ x y h
      simpa using this
theorem splitB_no (b : UInt8) : ∀ (l cur : List UInt8), (∀ c ∈ l, c ≠ b) → splitB b cur l = [cur ++ l]
  | [], cur, _ => by simp [splitB]
  | c :: r, cur, h => by
    rw [splitB, if_neg (h c (by simp)), splitB_no b r _ (fun d hd => h d (by simp [hd]))]
    simp
theorem splitB_app (b : UInt8) (y : List UInt8) : ∀ (x cur : List UInt8), (∀ c ∈ x, c ≠ b) → splitB b cur (x ++ b :: y) = (cur ++ x) :: splitB b [] y
  | [], cur, _ => by rw [List.nil_append, splitB, if_pos rfl, List.append_nil]
  | c :: r, cur, h => by
    rw [List.cons_append, splitB, if_neg (h c (by simp)), splitB_app b y r _ (fun d hd => h d (by simp [hd]))]
    simp
theorem num_loop_neg : ∀ (m : Nat), m ≤ 2000000000 → ∀ (k : Nat) (o : ByteArray), m < k → o.size + m ≤ 4000000000 → ∃ s, spec_l01Num.l0 (k + 1) (-(m : Int)) o true = some s := by
  intro m
  induction m using Nat.strongRecOn with
  | _ m ih =>
    intro h1 k o hk ho
    by_cases c : m = 0
    · subst c
      rw [spec_l01Num.l0, if_pos (by omega), if_pos rfl, if_pos (by omega)]
      exact ⟨_, rfl⟩
    · obtain ⟨k, rfl⟩ : ∃ q, k = q + 1 := ⟨k - 1, by omega⟩
      have td : Int.tdiv (-(m : Int)) 10 = -((m / 10 : Nat) : Int) := by rw [Int.neg_tdiv, Int.tdiv_eq_ediv_of_nonneg (by omega)]; omega
      have tm : Int.tmod (-(m : Int)) 10 = -((m % 10 : Nat) : Int) := by rw [Int.neg_tmod, Int.tmod_eq_emod_of_nonneg (by omega)]; omega
      rw [spec_l01Num.l0, if_neg (by omega), tm, td, w64 (n := -((m / 10 : Nat) : Int)) (by omega) (by omega)]
      have sz : ∀ a : Int, (strOfNums [a]).size = 1 := fun _ => rfl
      by_cases e : -((m % 10 : Nat) : Int) < 0
      · rw [if_pos e, Option.bind_some, sz, if_pos (by omega)]
        exact ih (m / 10) (by omega) (by omega) k _ (by omega) (by rw [ByteArray.size_append, sz]; omega)
      · rw [if_neg e, Option.bind_some, sz, if_pos (by omega)]
        exact ih (m / 10) (by omega) (by omega) k _ (by omega) (by rw [ByteArray.size_append, sz]; omega)
theorem num_neg {m : Nat} (h : m ≤ 2000000000) {k : Nat} (hk : m + 2 < k) : ∃ s, spec_l01Num.f k (-(m : Int)) = some s := by
  unfold spec_l01Num.f
  by_cases c : m = 0
  · subst c
    exact ⟨_, if_pos rfl⟩
  · obtain ⟨k, rfl⟩ : ∃ q, k = q + 1 := ⟨k - 1, by omega⟩
    rw [if_neg (by omega), decide_eq_true (by omega)]
    exact num_loop_neg m h k _ (by omega) (by show 0 + m ≤ _; omega)
theorem decFrom_app (c : UInt8) : ∀ (l : List UInt8) (a : Nat), Lib.decFrom a (l ++ [c]) = (Lib.decFrom a l).bind fun m => (Lib.digitVal c).bind fun d => some (m * 10 + d)
  | [], a => by
    rw [List.nil_append, Lib.decFrom, Lib.decFrom, Option.bind_some]
    cases Lib.digitVal c <;> rfl
  | b :: r, a => by
    rw [List.cons_append, Lib.decFrom, Lib.decFrom]
    cases Lib.digitVal b with
    | none => rfl
    | some d => exact decFrom_app c r _
theorem dig_val (d : Nat) (h : d < 10) : Lib.digitVal (UInt8.ofNat (48 + d)) = some d := by
  rcases (show d = 0 ∨ d = 1 ∨ d = 2 ∨ d = 3 ∨ d = 4 ∨ d = 5 ∨ d = 6 ∨ d = 7 ∨ d = 8 ∨ d = 9 by omega) with rfl | rfl | rfl | rfl | rfl | rfl | rfl | rfl | rfl | rfl <;> rfl
theorem dec_val : ∀ (n : Nat), Lib.decFrom 0 (Lib.decDigits n) = some n := by
  intro n
  induction n using Nat.strongRecOn with
  | _ n ih =>
    by_cases c : n < 10
    · rw [Lib.decDigits_one c, Lib.decFrom, dig_val n c]
      show some (0 * 10 + n) = _
      rw [Nat.zero_mul, Nat.zero_add]
    · rw [Lib.decDigits, dif_neg c, decFrom_app, ih (n / 10) (by omega), Option.bind_some, dig_val _ (by omega), Option.bind_some]
      congr 1
      omega
theorem dec_dig : ∀ (n : Nat), ∀ c ∈ Lib.decDigits n, 48 ≤ c.toNat ∧ c.toNat ≤ 57 := by
  have one : ∀ d, d < 10 → 48 ≤ (UInt8.ofNat (48 + d)).toNat ∧ (UInt8.ofNat (48 + d)).toNat ≤ 57 := by
    intro d h
    rcases (show d = 0 ∨ d = 1 ∨ d = 2 ∨ d = 3 ∨ d = 4 ∨ d = 5 ∨ d = 6 ∨ d = 7 ∨ d = 8 ∨ d = 9 by omega) with rfl | rfl | rfl | rfl | rfl | rfl | rfl | rfl | rfl | rfl <;> decide
  intro n
  induction n using Nat.strongRecOn with
  | _ n ih =>
    by_cases c : n < 10
    · rw [Lib.decDigits_one c]
      intro d hd
      rw [List.mem_singleton] at hd
      subst hd
      exact one n c
    · rw [Lib.decDigits, dif_neg c]
      intro d hd
      rw [List.mem_append, List.mem_singleton] at hd
      rcases hd with hd | hd
      · exact ih (n / 10) (by omega) d hd
      · subst hd
        exact one _ (by omega)
theorem dec_ne (n : Nat) : Lib.decDigits n ≠ [] := by
  by_cases c : n < 10
  · rw [Lib.decDigits_one c]; simp
  · rw [Lib.decDigits, dif_neg c]; simp
theorem dec_no (n : Nat) (b : UInt8) (h : b.toNat < 48) : ∀ c ∈ Lib.decDigits n, c ≠ b := by
  intro c hc e
  subst e
  have := dec_dig n c hc
  omega
theorem dec_lenD : ∀ (d n : Nat), n < 10 ^ d → 0 < d → (Lib.decDigits n).length ≤ d := by
  intro d
  induction d with
  | zero => exact fun n _ h => absurd h (Nat.lt_irrefl 0)
  | succ d ih =>
    intro n hn _
    by_cases c : n < 10
    · rw [Lib.decDigits_one c]; simp
    · rw [Lib.decDigits, dif_neg c, List.length_append, List.length_singleton]
      have hd : 0 < d := by
        rcases Nat.eq_zero_or_pos d with rfl | h
        · simp at hn; omega
        · exact h
      have := ih (n / 10) (by rw [Nat.pow_succ] at hn; omega) hd
      omega
/-- What the reference reads of a word's digits. -/
theorem read_loop (K : Nat) (w ds : List UInt8) (hds : ds.length ≤ 9) : ∀ (rest pre : List UInt8) (k x : Nat), ds = pre ++ rest → x < 10 ^ pre.length → K + rest.length + 1 ≤ k →
    (Lib.decFrom x rest = none ∧ spec_l01Read.l0 k ⟨w.toArray⟩ ⟨ds.toArray⟩ (x : Int) (pre.length : Int) = some (0, false)) ∨
    ∃ v k', Lib.decFrom x rest = some v ∧ v < 1000000000 ∧ K ≤ k' ∧ spec_l01Read.l0 k ⟨w.toArray⟩ ⟨ds.toArray⟩ (x : Int) (pre.length : Int) =
      if ds.length < w.length then (spec_l01Num.f k' (-(v : Int))).bind fun t => some (-(v : Int), (t.toList == w)) else (spec_l01Num.f k' (v : Int)).bind fun t => some ((v : Int), (t.toList == w)) := by
  intro rest
  induction rest with
  | nil =>
    intro pre k x h1 h2 h3
    obtain ⟨k, rfl⟩ : ∃ q, k = q + 1 := ⟨k - 1, by omega⟩
    rw [List.append_nil] at h1
    subst h1
    have hx : x < 1000000000 := Nat.lt_of_lt_of_le h2 (Nat.le_trans (Nat.pow_le_pow_right (by decide) hds) (by decide))
    simp only [List.length_nil] at h3
    refine .inr ⟨x, k, rfl, hx, by omega, ?_⟩
    rw [spec_l01Read.l0, ba_size, ba_size, if_neg (by omega), w64 (n := -(x : Int)) (by omega) (by omega), ba_toList]
    by_cases e : ds.length < w.length
    · rw [if_pos (by omega), if_pos e]
    · rw [if_neg (by omega), if_neg e]
  | cons c r ih =>
    intro pre k x h1 h2 h3
    obtain ⟨k, rfl⟩ : ∃ q, k = q + 1 := ⟨k - 1, by omega⟩
    have hl : ds.length = pre.length + (r.length + 1) := by rw [h1, List.length_append, List.length_cons]
    simp only [List.length_cons] at h3
    have hc := c.toNat_lt
    have hx : x < 100000000 := Nat.lt_of_lt_of_le h2 (Nat.le_trans (Nat.pow_le_pow_right (by decide) (show pre.length ≤ 8 by omega)) (by decide))
    have hb : bt (⟨ds.toArray⟩ : ByteArray) (pre.length : Int) = (c.toNat : Int) := by rw [h1]; exact ba_bt _ _ _
    rw [spec_l01Read.l0, ba_size, if_pos (by omega), if_pos (by omega), hb]
    by_cases c1 : (c.toNat : Int) < 48
    · rw [if_pos c1]
      refine .inl ⟨?_, rfl⟩
      rw [Lib.decFrom, Lib.digitVal, if_neg (by omega)]
    · by_cases c2 : (c.toNat : Int) > 57
      · rw [if_neg c1, if_pos c2]
        refine .inl ⟨?_, rfl⟩
        rw [Lib.decFrom, Lib.digitVal, if_neg (by omega)]
      · rw [if_neg c1, if_neg c2]
        have e : Lib.decFrom x (c :: r) = Lib.decFrom (x * 10 + (c.toNat - 48)) r := by rw [Lib.decFrom, Lib.digitVal, if_pos (by omega)]
        have z := ih (pre ++ [c]) k (x * 10 + (c.toNat - 48)) (by rw [h1]; simp) (by rw [List.length_append, List.length_singleton, Nat.pow_succ]; omega) (by omega)
        rw [w64 (n := 10 * (x : Int)) (by omega) (by omega), w64 (n := (c.toNat : Int)) (by omega) (by omega), w64 (n := 10 * (x : Int) + (c.toNat : Int)) (by omega) (by omega), w64 (n := 10 * (x : Int) + (c.toNat : Int) - 48) (by omega) (by omega), w64 (n := (pre.length : Int) + 1) (by omega) (by omega), e]
        rw [List.length_append, List.length_singleton, show (((x * 10 + (c.toNat - 48) : Nat)) : Int) = 10 * (x : Int) + (c.toNat : Int) - 48 by omega, show ((pre.length + 1 : Nat) : Int) = (pre.length : Int) + 1 by omega] at z
        exact z
theorem l_beq (a b : List UInt8) : (a == b) = true ↔ a = b := beq_iff_eq
theorem read_tail (K : Nat) (hK : 4000000000 < K) (w ds : List UInt8) (hw : ds.length < w.length → ∃ r, w = 45 :: r) {k : Nat} (hk : K + 1000 < k) (hl : ds.length ≤ 900) (hd : ¬ ds.length < w.length → ds = w) :
    ∃ x b, spec_l01Read.j1 k ⟨w.toArray⟩ ⟨ds.toArray⟩ = some (x, b) ∧ -1000000000 < x ∧ x < 1000000000 ∧ (b = true → 0 ≤ x → w = Lib.decDigits x.toNat) := by
  obtain ⟨k, rfl⟩ : ∃ q, k = q + 1 := ⟨k - 1, by omega⟩
  rw [spec_l01Read.j1, ba_size, spec_In, Option.bind_some]
  by_cases c : (1 : Int) ≤ (ds.length : Int) ∧ (ds.length : Int) ≤ 9
  · rw [decide_eq_true c, if_pos rfl]
    rcases read_loop K w ds (by omega) ds [] k 0 rfl (by decide) (by omega) with ⟨-, h⟩ | ⟨v, k', h1, h2, h3, h⟩
    · exact ⟨0, false, h, by omega, by omega, fun q => by cases q⟩
    · have h' : spec_l01Read.l0 k ⟨w.toArray⟩ ⟨ds.toArray⟩ 0 0 = _ := h
      rw [h']
      by_cases e : ds.length < w.length
      · rw [if_pos e]
        obtain ⟨s, hs⟩ := num_neg (m := v) (by omega) (k := k') (by omega)
        rw [hs, Option.bind_some]
        refine ⟨_, _, rfl, by omega, by omega, fun q z => ?_⟩
        have v0 : v = 0 := by omega
        subst v0
        have n0 := num_ok (n := 0) (by omega) (k := k') (by omega)
        rw [l_beq] at q
        have es : s = ⟨(Lib.decDigits 0).toArray⟩ := by
          have := hs.symm.trans n0
          exact Option.some.inj this
        rw [es, ba_toList] at q
        exact q.symm
      · rw [if_neg e, num_ok (n := v) (by omega) (by omega), Option.bind_some]
        refine ⟨_, _, rfl, by omega, by omega, fun q z => ?_⟩
        rw [l_beq, ba_toList] at q
        rw [Int.toNat_natCast]
        exact q.symm
  · rw [decide_eq_false c, if_neg (by decide)]
    exact ⟨0, false, rfl, by omega, by omega, fun q => by cases q⟩
theorem read_total (K : Nat) (hK : 4000000000 < K) (w : List UInt8) (hl : w.length ≤ 900) {k : Nat} (hk : K + 2000 < k) :
    ∃ x b, spec_l01Read.f k ⟨w.toArray⟩ = some (x, b) ∧ -1000000000 < x ∧ x < 1000000000 ∧ (b = true → 0 ≤ x → w = Lib.decDigits x.toNat) := by
  obtain ⟨k, rfl⟩ : ∃ q, k = q + 1 := ⟨k - 1, by omega⟩
  unfold spec_l01Read.f
  cases w with
  | nil =>
    rw [ba_size, if_neg (by simp), spec_l01Read.j0, if_neg (by decide)]
    exact read_tail K hK [] [] (fun h => by simp at h) (by omega) (by simp) (fun _ => rfl)
  | cons c r =>
    have hb : bt (⟨(c :: r).toArray⟩ : ByteArray) 0 = (c.toNat : Int) := ba_bt [] r c
    have hc : (c :: r).length = r.length + 1 := List.length_cons
    rw [ba_size, if_pos (by omega), if_pos (by omega), hb]
    by_cases e : c = 45
    · subst e
      rw [show ((((45 : UInt8).toNat : Nat) : Int) == 45) = true from rfl, spec_l01Read.j0, if_pos rfl, ba_size, if_pos (by omega), ba_ext]
      have ex : ((45 :: r : List UInt8).drop 1).take ((45 :: r : List UInt8).length - 1) = r := by simp
      rw [ex]
      exact read_tail K hK (45 :: r) r (fun _ => ⟨r, rfl⟩) (by omega) (by omega) (fun h => by omega)
    · have e2 : (((c.toNat : Nat) : Int) == 45) = false := by
        rw [beq_eq_false_iff_ne]
        exact fun q => e ((u8_eq c 45).1 q)
      rw [e2, spec_l01Read.j0, if_neg (by decide)]
      exact read_tail K hK (c :: r) (c :: r) (fun h => by omega) (by omega) hl (fun _ => rfl)
theorem read_dec (K : Nat) (hK : 4000000000 < K) (n : Nat) (hn : n < 1000) {k : Nat} (hk : K + 2000 < k) : spec_l01Read.f k ⟨(Lib.decDigits n).toArray⟩ = some ((n : Int), true) := by
  obtain ⟨k, rfl⟩ : ∃ q, k = q + 1 := ⟨k - 1, by omega⟩
  have hl := dec_lenD 3 n hn (by decide)
  have hv := dec_val n
  have hne := dec_ne n
  have hno := dec_no n 45 (by decide)
  obtain ⟨w, ew⟩ : ∃ w, Lib.decDigits n = w := ⟨_, rfl⟩
  rw [ew] at hl hv hne hno ⊢
  unfold spec_l01Read.f
  cases w with
  | nil => exact absurd rfl hne
  | cons c r =>
    have hb : bt (⟨(c :: r).toArray⟩ : ByteArray) 0 = (c.toNat : Int) := ba_bt [] r c
    have hc : (c :: r).length = r.length + 1 := List.length_cons
    have e : c ≠ 45 := hno c (by simp)
    have e2 : (((c.toNat : Nat) : Int) == 45) = false := by
      rw [beq_eq_false_iff_ne]
      exact fun q => e ((u8_eq c 45).1 q)
    rw [ba_size, if_pos (by omega), if_pos (by omega), hb, e2, spec_l01Read.j0, if_neg (by decide)]
    obtain ⟨k, rfl⟩ : ∃ q, k = q + 1 := ⟨k - 1, by omega⟩
    rw [spec_l01Read.j1, ba_size, spec_In, Option.bind_some, decide_eq_true (by omega), if_pos rfl]
    rcases read_loop K (c :: r) (c :: r) (by omega) (c :: r) [] k 0 rfl (by decide) (by omega) with ⟨h, -⟩ | ⟨v, k', h1, h2, h3, h⟩
    · rw [hv] at h
      cases h
    · rw [hv] at h1
      obtain rfl := Option.some.inj h1
      have h' : spec_l01Read.l0 k ⟨(c :: r).toArray⟩ ⟨(c :: r).toArray⟩ 0 0 = _ := h
      rw [h', if_neg (by omega), num_ok (by omega) (by omega), Option.bind_some, ew, ba_toList]
      rw [(l_beq _ _).2 rfl]
theorem sj0 (k : Nat) (x y n : Int) (c : Bool) : spec_ParsePrefix.j0 (k + 1) x y n c = if c = true then some (0, 0, false) else if Pok (wrap64 (wrap64 (256 * x) + y)) n then some (wrap64 (wrap64 (256 * x) + y), n, true) else some (0, 0, false) := by
  rw [spec_ParsePrefix.j0, spec_Pok, Option.bind_some]
  by_cases h : c = true
  · rw [if_pos h, if_pos h]
  · rw [if_neg h, if_neg h]
    by_cases p : Pok (wrap64 (wrap64 (256 * x) + y)) n
    · rw [decide_eq_true p, if_pos rfl, if_pos p]
    · rw [decide_eq_false p, if_neg (by decide), if_neg p]
/-- A text is a prefix's. -/
def IsP (L : List UInt8) (n l : Int) : Prop := Pok n l ∧ L = ptxt n.toNat l.toNat
theorem spec_pp (K : Nat) (hK : 4000000000 < K) (L : List UInt8) (hl : L.length ≤ 12) {k : Nat} (hk : K + 9000 < k) :
    spec_ParsePrefix.f k ⟨L.toArray⟩ = some (0, 0, false) ∨ ∃ n l, IsP L n l ∧ spec_ParsePrefix.f k ⟨L.toArray⟩ = some (n, l, true) := by
  unfold spec_ParsePrefix.f
  have p1 : spec_l01Parts.f k ⟨L.toArray⟩ 47 = _ := parts_ok 47 L (by omega) (by omega)
  rw [ba_size, if_neg (by omega), p1, Option.bind_some]
  obtain ⟨S, hS⟩ : ∃ S, splitB 47 [] L = S := ⟨_, rfl⟩
  rw [hS]
  rcases S with _ | ⟨s0, _ | ⟨s1, _ | ⟨s2, S⟩⟩⟩
  · exact .inl (if_neg (by simp))
  · exact .inl (if_neg (by simp))
  · have h2 := splitB_two 47 L [] s0 s1 hS
    rw [List.nil_append] at h2
    have hl2 : s0.length + (s1.length + 1) = L.length := by rw [h2, List.length_append, List.length_cons]
    have r0 : rdOf ByteArray.empty (List.map mkB [s0, s1]) 0 = ⟨s0.toArray⟩ := rfl
    have r1 : rdOf ByteArray.empty (List.map mkB [s0, s1]) 1 = ⟨s1.toArray⟩ := rfl
    have ll : (List.map mkB [s0, s1]).length = 2 := rfl
    have p2 : spec_l01Parts.f k ⟨s0.toArray⟩ 46 = _ := parts_ok 46 s0 (by omega) (by omega)
    rw [r0, r1, ll, if_pos (by omega), if_pos (by omega), p2, Option.bind_some]
    obtain ⟨Q, hQ⟩ : ∃ Q, splitB 46 [] s0 = Q := ⟨_, rfl⟩
    rw [hQ]
    rcases Q with _ | ⟨q0, _ | ⟨q1, _ | ⟨q2, Q⟩⟩⟩
    · exact .inl (if_neg (by simp))
    · exact .inl (if_neg (by simp))
    · have h3 := splitB_two 46 s0 [] q0 q1 hQ
      rw [List.nil_append] at h3
      have hl3 : q0.length + (q1.length + 1) = s0.length := by rw [h3, List.length_append, List.length_cons]
      have r2 : rdOf ByteArray.empty (List.map mkB [q0, q1]) 0 = ⟨q0.toArray⟩ := rfl
      have r3 : rdOf ByteArray.empty (List.map mkB [q0, q1]) 1 = ⟨q1.toArray⟩ := rfl
      have lm : (List.map mkB [q0, q1]).length = 2 := rfl
      obtain ⟨x, bx, ex, x1, x2, x3⟩ := read_total K hK q0 (by omega) (k := k) (by omega)
      obtain ⟨y, bY, ey, y1, y2, y3⟩ := read_total K hK q1 (by omega) (k := k) (by omega)
      obtain ⟨z, bz, ez, z1, z2, z3⟩ := read_total K hK s1 (by omega) (k := k) (by omega)
      rw [r2, r3, lm, if_pos (by omega), if_pos (by omega), ex, Option.bind_some, if_pos (by omega), ey, Option.bind_some, if_pos (by omega), ez, Option.bind_some]
      obtain ⟨k, rfl⟩ : ∃ q, k = q + 1 := ⟨k - 1, by omega⟩
      dsimp only
      by_cases c1 : bx = true
      · rw [if_pos c1]
        by_cases c2 : bY = true
        · rw [if_pos c2]
          by_cases c3 : bz = true
          · rw [if_pos c3, spec_In, Option.bind_some]
            by_cases c4 : 0 ≤ x ∧ x ≤ 255
            · rw [decide_eq_true c4, if_pos rfl, spec_In, Option.bind_some]
              by_cases c5 : 0 ≤ y ∧ y ≤ 255
              · rw [decide_eq_true c5, sj0, if_neg (by decide), w64 (n := 256 * x) (by omega) (by omega), w64 (n := 256 * x + y) (by omega) (by omega)]
                by_cases c6 : Pok (256 * x + y) z
                · rw [if_pos c6]
                  refine .inr ⟨256 * x + y, z, ⟨c6, ?_⟩, rfl⟩
                  obtain ⟨g1, g2, -⟩ := c6
                  have ea := x3 c1 c4.1
                  have eb := y3 c2 c5.1
                  have ec := z3 c3 g1
                  unfold ptxt
                  rw [show (256 * x + y).toNat / 256 = x.toNat by omega, show (256 * x + y).toNat % 256 = y.toNat by omega, ← ea, ← eb, ← ec, h2, h3]
                  simp
                · rw [if_neg c6]
                  exact .inl rfl
              · rw [decide_eq_false c5, sj0]
                exact .inl (if_pos rfl)
            · rw [decide_eq_false c4, if_neg (by decide), sj0]
              exact .inl (if_pos rfl)
          · rw [if_neg c3, sj0]
            exact .inl (if_pos rfl)
        · rw [if_neg c2, sj0]
          exact .inl (if_pos rfl)
      · rw [if_neg c1, sj0]
        exact .inl (if_pos rfl)
    · exact .inl (if_neg (by simp; omega))
  · exact .inl (if_neg (by simp; omega))
theorem spec_pp2 (K : Nat) (hK : 4000000000 < K) (L : List UInt8) (hl : L.length ≤ 12) {k : Nat} (hk : K + 9000 < k) {n l : Int} (h : IsP L n l) : spec_ParsePrefix.f k ⟨L.toArray⟩ = some (n, l, true) := by
  obtain ⟨hp, hL⟩ := h
  have hp' := hp
  obtain ⟨b0, b1, b2, b3, b4⟩ := hp'
  unfold spec_ParsePrefix.f
  have p1 : spec_l01Parts.f k ⟨L.toArray⟩ 47 = _ := parts_ok 47 L (by omega) (by omega)
  rw [ba_size, if_neg (by omega), p1, Option.bind_some]
  obtain ⟨q0, e0⟩ : ∃ x, Lib.decDigits (n.toNat / 256) = x := ⟨_, rfl⟩
  obtain ⟨q1, e1⟩ : ∃ x, Lib.decDigits (n.toNat % 256) = x := ⟨_, rfl⟩
  obtain ⟨s1, e2⟩ : ∃ x, Lib.decDigits l.toNat = x := ⟨_, rfl⟩
  have n0 := dec_no (n.toNat / 256) 47 (by decide)
  have n1 := dec_no (n.toNat % 256) 47 (by decide)
  have n2 := dec_no l.toNat 47 (by decide)
  have m0 := dec_no (n.toNat / 256) 46 (by decide)
  have m1 := dec_no (n.toNat % 256) 46 (by decide)
  have t0 := read_dec K hK (n.toNat / 256) (by omega) (k := k) (by omega)
  have t1 := read_dec K hK (n.toNat % 256) (by omega) (k := k) (by omega)
  have t2 := read_dec K hK l.toNat (by omega) (k := k) (by omega)
  unfold ptxt at hL
  rw [e0] at n0 m0 t0 hL
  rw [e1] at n1 m1 t1 hL
  rw [e2] at n2 t2 hL
  have hL2 : L = (q0 ++ 46 :: q1) ++ 47 :: s1 := by rw [hL]; simp
  have hS : splitB 47 [] L = [q0 ++ 46 :: q1, s1] := by
    rw [hL2, splitB_app 47 s1 _ [] (by
      intro c hc
      rw [List.mem_append, List.mem_cons] at hc
      rcases hc with hc | rfl | hc
      · exact n0 c hc
      · decide
      · exact n1 c hc), splitB_no 47 s1 [] n2]
    rfl
  have hQ : splitB 46 [] (q0 ++ 46 :: q1) = [q0, q1] := by
    rw [splitB_app 46 q1 q0 [] m0, splitB_no 46 q1 [] m1]
    rfl
  have hl2 : (q0 ++ 46 :: q1).length ≤ 12 := by
    have : L.length = (q0 ++ 46 :: q1).length + (s1.length + 1) := by rw [hL2, List.length_append, List.length_cons]
    omega
  have r0 : rdOf ByteArray.empty (List.map mkB [q0 ++ 46 :: q1, s1]) 0 = ⟨(q0 ++ 46 :: q1).toArray⟩ := rfl
  have r1 : rdOf ByteArray.empty (List.map mkB [q0 ++ 46 :: q1, s1]) 1 = ⟨s1.toArray⟩ := rfl
  have ll : (List.map mkB [q0 ++ 46 :: q1, s1]).length = 2 := rfl
  have p2 : spec_l01Parts.f k ⟨(q0 ++ 46 :: q1).toArray⟩ 46 = _ := parts_ok 46 (q0 ++ 46 :: q1) (by omega) (by omega)
  rw [hS, r0, r1, ll, if_pos (by omega), if_pos (by omega), p2, Option.bind_some, hQ]
  have r2 : rdOf ByteArray.empty (List.map mkB [q0, q1]) 0 = ⟨q0.toArray⟩ := rfl
  have r3 : rdOf ByteArray.empty (List.map mkB [q0, q1]) 1 = ⟨q1.toArray⟩ := rfl
  have lm : (List.map mkB [q0, q1]).length = 2 := rfl
  rw [r2, r3, lm, if_pos (by omega), if_pos (by omega), t0, Option.bind_some, if_pos (by omega), t1, Option.bind_some, if_pos (by omega), t2, Option.bind_some]
  obtain ⟨k, rfl⟩ : ∃ q, k = q + 1 := ⟨k - 1, by omega⟩
  dsimp only
  rw [if_pos rfl, if_pos rfl, if_pos rfl, spec_In, Option.bind_some, decide_eq_true (by omega), if_pos rfl, spec_In, Option.bind_some, decide_eq_true (by omega), sj0, if_neg (by decide)]
  rw [w64 (n := 256 * ((n.toNat / 256 : Nat) : Int)) (by omega) (by omega), w64 (n := 256 * ((n.toNat / 256 : Nat) : Int) + ((n.toNat % 256 : Nat) : Int)) (by omega) (by omega)]
  rw [show 256 * ((n.toNat / 256 : Nat) : Int) + ((n.toNat % 256 : Nat) : Int) = n by omega, show ((l.toNat : Nat) : Int) = l by omega, if_pos hp]
theorem cut_len (s p : List UInt8) : (Lib.cut s p).1.length ≤ s.length ∧ (Lib.cut s p).2.1.length ≤ s.length := by
  unfold Lib.cut
  by_cases h : 0 ≤ Lib.index s p
  · rw [if_pos h]
    simp only [List.length_take, List.length_drop]
    omega
  · rw [if_neg h]
    simp
theorem cutA_eq (L : List UInt8) (b : UInt8) : cutA ⟨L.toArray⟩ ⟨#[b]⟩ = ⟨(Lib.cut L [b]).1.toArray⟩ := rfl
theorem cutB_eq (L : List UInt8) (b : UInt8) : cutB ⟨L.toArray⟩ ⟨#[b]⟩ = ⟨(Lib.cut L [b]).2.1.toArray⟩ := rfl
theorem ppG_ok (L : List UInt8) (h : L.length ≤ 12) : ppG ⟨L.toArray⟩ = true := by
  have c1 := cut_len L [46]
  have c2 := cut_len (Lib.cut L [46]).2.1 [47]
  unfold ppG ppLow ppLong ppHigh ppRest
  rw [decide_eq_true_eq, cutA_eq, cutB_eq, cutA_eq, cutB_eq, ba_size, ba_size, ba_size, ba_size]
  omega
instance (L : List UInt8) (n l : Int) : Decidable (IsP L n l) := by
  unfold IsP
  infer_instance
theorem impl_g (L : List UInt8) (h l n : Int) : impl_ParsePrefix.g ⟨L.toArray⟩ h l n = if IsP L (wrap64 (wrap64 (256 * h) + l)) n then some (wrap64 (wrap64 (256 * h) + l), n, true) else some (0, 0, false) := by
  unfold impl_ParsePrefix.g
  obtain ⟨N, eN⟩ : ∃ N, wrap64 (wrap64 (256 * h) + l) = N := ⟨_, rfl⟩
  rw [eN, impl_Pok, Option.bind_some]
  by_cases p : Pok N n
  · rw [decide_eq_true p, if_pos rfl, impl_text p, Option.bind_some, ba_toList, ba_toList]
    by_cases q : ptxt N.toNat n.toNat = L
    · rw [if_pos q, if_pos ⟨p, q.symm⟩]
    · rw [if_neg q, if_neg (fun z => q z.2.symm)]
  · rw [decide_eq_false p, if_neg (by decide), if_neg (fun z => p z.1)]
theorem impl_pp (L : List UInt8) (hl : L.length ≤ 12) : impl_ParsePrefix.f ⟨L.toArray⟩ = some (0, 0, false) ∨ ∃ n l, IsP L n l ∧ impl_ParsePrefix.f ⟨L.toArray⟩ = some (n, l, true) := by
  unfold impl_ParsePrefix.f
  rw [ba_size, if_neg (by omega), if_pos (ppG_ok L hl), impl_g]
  by_cases p : IsP L (wrap64 (wrap64 (256 * atoiV (ppHigh ⟨L.toArray⟩)) + atoiV (ppLow ⟨L.toArray⟩))) (atoiV (ppLong ⟨L.toArray⟩))
  · rw [if_pos p]
    exact .inr ⟨_, _, p, rfl⟩
  · rw [if_neg p]
    exact .inl rfl
theorem index_hit (b : UInt8) (y : List UInt8) : ∀ (x : List UInt8), (∀ c ∈ x, c ≠ b) → Lib.index (x ++ b :: y) [b] = (x.length : Int)
  | [], _ => by
    rw [List.nil_append, Lib.index, if_pos (by simp [List.isPrefixOf])]
    rfl
  | c :: r, h => by
    have e : c ≠ b := h c (by simp)
    have z := index_hit b y r (fun d hd => h d (by simp [hd]))
    rw [List.cons_append, Lib.index, if_neg (by simp [List.isPrefixOf] <;> exact fun q => e q.symm), z, if_neg (by simp <;> omega), List.length_cons]
    omega
theorem cut_hit (b : UInt8) (x y : List UInt8) (h : ∀ c ∈ x, c ≠ b) : Lib.cut (x ++ b :: y) [b] = (x, y, true) := by
  unfold Lib.cut
  rw [index_hit b y x h, if_pos (by omega), Int.toNat_natCast]
  have e1 : (x ++ b :: y).take x.length = x := List.take_left
  have e2 : (x ++ b :: y).drop (x.length + [b].length) = y := by
    rw [List.length_singleton, List.drop_append]
    simp
  rw [e1, e2]
theorem atoi_dec (n : Nat) : atoiV ⟨(Lib.decDigits n).toArray⟩ = (n : Int) := by
  have hv := dec_val n
  have hne := dec_ne n
  have h1 := dec_no n 45 (by decide)
  have h2 := dec_no n 43 (by decide)
  unfold atoiV
  show (Lib.atoi (Lib.decDigits n)).getD 0 = _
  obtain ⟨w, ew⟩ : ∃ w, Lib.decDigits n = w := ⟨_, rfl⟩
  rw [ew] at hv hne h1 h2 ⊢
  cases w with
  | nil => exact absurd rfl hne
  | cons c r =>
    have e1 : c ≠ 45 := h1 c (by simp)
    have e2 : c ≠ 43 := h2 c (by simp)
    have e3 : Lib.decNat (c :: r) = some n := by
      unfold Lib.decNat
      rw [if_neg (by simp)]
      exact hv
    rw [Lib.atoi, if_neg (by simpa using e1), if_neg (by simpa using e2), e3]
    rfl
theorem impl_pp2 (L : List UInt8) (hl : L.length ≤ 12) {n l : Int} (h : IsP L n l) : impl_ParsePrefix.f ⟨L.toArray⟩ = some (n, l, true) := by
  have h0 := h
  obtain ⟨hp, hL⟩ := h
  obtain ⟨b0, b1, b2, b3, b4⟩ := hp
  have hL2 : L = Lib.decDigits (n.toNat / 256) ++ 46 :: (Lib.decDigits (n.toNat % 256) ++ 47 :: Lib.decDigits l.toNat) := by rw [hL]; unfold ptxt; simp
  have k1 := cut_hit 46 _ (Lib.decDigits (n.toNat % 256) ++ 47 :: Lib.decDigits l.toNat) (dec_no (n.toNat / 256) 46 (by decide))
  have k2 := cut_hit 47 _ (Lib.decDigits l.toNat) (dec_no (n.toNat % 256) 47 (by decide))
  rw [← hL2] at k1
  have a1 : ppHigh ⟨L.toArray⟩ = ⟨(Lib.decDigits (n.toNat / 256)).toArray⟩ := by unfold ppHigh; rw [cutA_eq, k1]
  have a2 : ppRest ⟨L.toArray⟩ = ⟨(Lib.decDigits (n.toNat % 256) ++ 47 :: Lib.decDigits l.toNat).toArray⟩ := by unfold ppRest; rw [cutB_eq, k1]
  have a3 : ppLow ⟨L.toArray⟩ = ⟨(Lib.decDigits (n.toNat % 256)).toArray⟩ := by unfold ppLow; rw [a2, cutA_eq, k2]
  have a4 : ppLong ⟨L.toArray⟩ = ⟨(Lib.decDigits l.toNat).toArray⟩ := by unfold ppLong; rw [a2, cutB_eq, k2]
  unfold impl_ParsePrefix.f
  rw [ba_size, if_neg (by omega), if_pos (ppG_ok L hl), a1, a3, a4, atoi_dec, atoi_dec, atoi_dec, impl_g]
  rw [w64 (n := 256 * ((n.toNat / 256 : Nat) : Int)) (by omega) (by omega), w64 (n := 256 * ((n.toNat / 256 : Nat) : Int) + ((n.toNat % 256 : Nat) : Int)) (by omega) (by omega)]
  rw [show 256 * ((n.toNat / 256 : Nat) : Int) + ((n.toNat % 256 : Nat) : Int) = n by omega, show ((l.toNat : Nat) : Int) = l by omega, if_pos h0]
theorem both_pp (K : Nat) (hK : 4000000000 < K) (s : ByteArray) {k : Nat} (hk : K + 9000 < k) : ∃ n l b, spec_ParsePrefix.f k s = some (n, l, b) ∧ impl_ParsePrefix.f s = some (n, l, b) := by
  obtain ⟨L, rfl⟩ := ba_mk s
  by_cases hl : L.length ≤ 12
  · by_cases c : ∃ n l, IsP L n l
    · obtain ⟨n, l, h⟩ := c
      exact ⟨n, l, true, spec_pp2 K hK L hl hk h, impl_pp2 L hl h⟩
    · refine ⟨0, 0, false, ?_, ?_⟩
      · rcases spec_pp K hK L hl hk with h | ⟨n, l, h, -⟩
        · exact h
        · exact absurd ⟨n, l, h⟩ c
      · rcases impl_pp L hl with h | ⟨n, l, h, -⟩
        · exact h
        · exact absurd ⟨n, l, h⟩ c
  · refine ⟨0, 0, false, ?_, ?_⟩
    · unfold spec_ParsePrefix.f
      rw [ba_size, if_pos (by omega)]
    · unfold impl_ParsePrefix.f
      rw [ba_size, if_pos (by omega)]
theorem FnExactParsePrefix : FnExactParsePrefix.Pure := by
  intro s _
  obtain ⟨K, hK⟩ : ∃ K, K = 4000000001 := ⟨_, rfl⟩
  refine ⟨K + 9001, ?_⟩
  unfold laws_FnExactParsePrefix.f
  by_cases c : (s.size : Int) > 1048576
  · rw [if_pos c]
  · obtain ⟨n, l, b, h1, h2⟩ := both_pp K (by omega) s (k := K + 9001) (by omega)
    rw [if_neg c, h1, Option.bind_some, h2, Option.bind_some]
    unfold laws_eqPrefix.f
    dsimp only
    rw [if_pos rfl, if_pos rfl, Option.bind_some, if_pos rfl, bne_self_eq_false, if_neg (by decide)]

end Go.Proofs.YtmbaemcnjdgemaaDoor.Pure
