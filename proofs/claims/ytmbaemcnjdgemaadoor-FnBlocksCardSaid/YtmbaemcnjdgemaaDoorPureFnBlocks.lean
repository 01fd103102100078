/- The plain law of FnBlocks: the program's answer is the reference's. -/
import Derived.Test.YtmbaemcnjdgemaaDoorStmtFnBlocks
namespace Go.Proofs.YtmbaemcnjdgemaaDoor.Pure
open Go.RowKit Go.Proofs.YtmbaemcnjdgemaaDoor.QFnBlocks Go.Proofs.YtmbaemcnjdgemaaDoorF.PrintWords Go.Proofs.YtmbaemcnjdgemaaDoorF.PrintLast Go.Proofs.YtmbaemcnjdgemaaDoorF.PrintMore
set_option linter.unusedVariables false
set_option linter.unusedSimpArgs false

theorem len17 {l : Int} (h0 : 0 ≤ l) (h1 : l ≤ 16) : l = 0 ∨ l = 1 ∨ l = 2 ∨ l = 3 ∨ l = 4 ∨ l = 5 ∨ l = 6 ∨ l = 7 ∨ l = 8 ∨ l = 9 ∨ l = 10 ∨ l = 11 ∨ l = 12 ∨ l = 13 ∨ l = 14 ∨ l = 15 ∨ l = 16 := by omega
/-- How many addresses a prefix of length l has. -/
def psz (l : Int) : Int := 2 ^ (16 - l).toNat
theorem psz_pos (l : Int) : 0 < psz l := Int.pow_pos (by decide)
theorem psz_le {l : Int} (h0 : 0 ≤ l) (h1 : l ≤ 16) : psz l ≤ 65536 := by
  rcases len17 h0 h1 with rfl | rfl | rfl | rfl | rfl | rfl | rfl | rfl | rfl | rfl | rfl | rfl | rfl | rfl | rfl | rfl | rfl <;> decide
theorem psz_half {l : Int} (h0 : 0 ≤ l) (h1 : l ≤ 15) : psz l = 2 * psz (l + 1) := by
  rcases len17 h0 (by omega) with rfl | rfl | rfl | rfl | rfl | rfl | rfl | rfl | rfl | rfl | rfl | rfl | rfl | rfl | rfl | rfl | rfl <;> first | decide | omega
theorem psz_top {l : Int} (h0 : 0 ≤ l) (h1 : l ≤ 16) : 65536 = psz l * 2 ^ l.toNat := by
  rcases len17 h0 h1 with rfl | rfl | rfl | rfl | rfl | rfl | rfl | rfl | rfl | rfl | rfl | rfl | rfl | rfl | rfl | rfl | rfl <;> decide
theorem w64 {n : Int} (h0 : -9223372036854775808 ≤ n) (h1 : n ≤ 9223372036854775807) : wrap64 n = n := by unfold wrap64; omega
theorem shl_psz {l : Int} (h0 : 0 ≤ l) (h1 : l ≤ 16) : shl .i64 1 (16 - l) = psz l := by
  rcases len17 h0 h1 with rfl | rfl | rfl | rfl | rfl | rfl | rfl | rfl | rfl | rfl | rfl | rfl | rfl | rfl | rfl | rfl | rfl <;> decide
theorem u64w {n : Int} (h0 : 0 ≤ n) (h1 : n ≤ 16) : IntKind.u64.wrap n = n := by
  rcases len17 h0 h1 with rfl | rfl | rfl | rfl | rfl | rfl | rfl | rfl | rfl | rfl | rfl | rfl | rfl | rfl | rfl | rfl | rfl <;> decide
/-- A valid prefix. -/
def Pok (n l : Int) : Prop := 0 ≤ l ∧ l ≤ 16 ∧ 0 ≤ n ∧ n ≤ 65535 ∧ n % psz l = 0
instance (n l : Int) : Decidable (Pok n l) := by unfold Pok; infer_instance
theorem Pok.top {n l : Int} (h : Pok n l) : n + psz l ≤ 65536 := by
  obtain ⟨h0, h1, h2, h3, h4⟩ := h
  have e := psz_top h0 h1
  have p := psz_pos l
  have d := Int.emod_add_mul_ediv n (psz l)
  rw [h4, Int.zero_add] at d
  have q : n / psz l < 2 ^ l.toNat := by
    apply Int.ediv_lt_of_lt_mul p
    rw [Int.mul_comm]; omega
  have m : psz l * (n / psz l + 1) ≤ psz l * 2 ^ l.toNat := Int.mul_le_mul_of_nonneg_left (by omega) (by omega)
  rw [Int.mul_add] at m
  omega
theorem spec_In (a b c : Int) : spec_l01In.f a b c = some (decide (b ≤ a ∧ a ≤ c)) := by
  unfold spec_l01In.f
  by_cases h : b ≤ a <;> simp [h]
theorem spec_Addr (a : Int) : spec_l01Addr.f a = some (decide (0 ≤ a ∧ a ≤ 65535)) := by
  unfold spec_l01Addr.f; rw [spec_In]; rfl
theorem spec_Size {l : Int} (h0 : 0 ≤ l) (h1 : l ≤ 16) : spec_l01Size2.f l = some (psz l) := by
  unfold spec_l01Size2.f
  rw [w64 (by omega) (by omega), u64w (by omega) (by omega), if_pos (by omega), shl_psz h0 h1]
theorem spec_Pok (n l : Int) : spec_PrefixOk.f n l = some (decide (Pok n l)) := by
  unfold spec_PrefixOk.f
  rw [spec_In, spec_Addr]
  simp only [Option.bind_some, decide_eq_true_eq]
  by_cases hl : 0 ≤ l ∧ l ≤ 16
  · rw [if_pos hl]
    by_cases hn : 0 ≤ n ∧ n ≤ 65535
    · rw [if_pos hn, spec_Size hl.1 hl.2]
      have p := psz_pos l
      simp only [Option.bind_some]
      rw [if_neg (by omega), Int.tmod_eq_emod_of_nonneg hn.1]
      congr 1
      by_cases e : n % psz l = 0
      · rw [e]; simp [Pok, hl, hn, e]
      · simp [Pok, hl, hn, e]
    · rw [if_neg hn]; congr 1; symm; rw [decide_eq_false_iff_not]; unfold Pok; omega
  · rw [if_neg hl]; congr 1; symm; rw [decide_eq_false_iff_not]; unfold Pok; omega
theorem impl_In (a b c : Int) : impl_within.f a b c = some (decide (b ≤ a ∧ a ≤ c)) := by
  unfold impl_within.f
  by_cases h : b ≤ a <;> simp [h]
theorem impl_Addr (a : Int) : impl_isAddr.f a = some (decide (0 ≤ a ∧ a ≤ 65535)) := by
  unfold impl_isAddr.f; rw [impl_In]; rfl
theorem impl_Size (n : Int) {l : Int} (h0 : 0 ≤ l) (h1 : l ≤ 16) : impl_Prefix_size.f n l = some (psz l) := by
  unfold impl_Prefix_size.f
  rw [w64 (by omega) (by omega), if_pos (by omega), shl_psz h0 h1]
theorem impl_Pok (n l : Int) : impl_PrefixOk.f n l = some (decide (Pok n l)) := by
  unfold impl_PrefixOk.f
  rw [impl_In, impl_Addr]
  simp only [Option.bind_some, decide_eq_true_eq]
  by_cases hl : 0 ≤ l ∧ l ≤ 16
  · rw [if_pos hl]
    by_cases hn : 0 ≤ n ∧ n ≤ 65535
    · rw [if_pos hn, impl_Size n hl.1 hl.2]
      have p := psz_pos l
      simp only [Option.bind_some]
      rw [if_neg (by omega), Int.tmod_eq_emod_of_nonneg hn.1]
      congr 1
      by_cases e : n % psz l = 0
      · rw [e]; simp [Pok, hl, hn, e]
      · simp [Pok, hl, hn, e]
    · rw [if_neg hn]; congr 1; symm; rw [decide_eq_false_iff_not]; unfold Pok; omega
  · rw [if_neg hl]; congr 1; symm; rw [decide_eq_false_iff_not]; unfold Pok; omega
/-- A prefix holds an address. -/
def Phas (n l a : Int) : Prop := n ≤ a ∧ a ≤ n + psz l - 1
instance (n l a : Int) : Decidable (Phas n l a) := by unfold Phas; infer_instance
theorem impl_has {n l : Int} (h : Pok n l) (a : Int) : impl_Prefix_has.f n l a = some (decide (Phas n l a)) := by
  have p := psz_pos l
  have p2 := psz_le h.1 h.2.1
  have h3 := h
  unfold Pok at h3
  unfold impl_Prefix_has.f
  rw [impl_Size n h.1 h.2.1]
  simp only [Option.bind_some]
  rw [w64 (n := n + psz l) (by omega) (by omega), w64 (by omega) (by omega), impl_In]
  rfl
theorem ba_app (l : List UInt8) (m : List UInt8) : (⟨l.toArray⟩ : ByteArray) ++ (⟨m.toArray⟩ : ByteArray) = ⟨(l ++ m).toArray⟩ := by
  apply ByteArray.ext
  rw [ByteArray.data_append]
  simp
theorem ba_size (l : List UInt8) : (⟨l.toArray⟩ : ByteArray).size = l.length := by
  show l.toArray.size = l.length
  simp
theorem itoa_ok {n : Nat} (h : n ≤ 1000000) : strconv_Itoa_46.f n = some ⟨(Lib.decDigits n).toArray⟩ := by
  unfold strconv_Itoa_46.f Lib.itoa
  rw [if_pos (by omega), if_neg (by omega), Int.toNat_natCast]
theorem dec_len (n : Nat) (h : n ≤ 1000000) : (Lib.decDigits n).length ≤ 20 := by
  have key : ∀ (d n : Nat), n < 10 ^ d → 0 < d → (Lib.decDigits n).length ≤ d := by
    intro d
    induction d with
    | zero => exact fun n _ h => absurd h (Nat.lt_irrefl 0)
    | succ d ih =>
      intro n hn _
      by_cases c : n < 10
      · rw [Lib.decDigits_one c]; simp
      · rw [Lib.decDigits, dif_neg c, List.length_append, List.length_singleton]
        have hd : 0 < d := by
          rcases Nat.eq_zero_or_pos d with rfl | h
          · simp at hn; omega
          · exact h
        have := ih (n / 10) (by rw [Nat.pow_succ] at hn; omega) hd
        omega
  exact key 20 n (Nat.lt_of_le_of_lt h (by decide)) (by decide)
/-- The text of a prefix. -/
def ptxt (n l : Nat) : List UInt8 := (((Lib.decDigits (n / 256) ++ [46]) ++ Lib.decDigits (n % 256)) ++ [47]) ++ Lib.decDigits l
theorem impl_text {n l : Int} (h : Pok n l) : impl_Prefix_text.f n l = some ⟨(ptxt n.toNat l.toNat).toArray⟩ := by
  have h' := h
  obtain ⟨b0, b1, b2, b3, b4⟩ := h'
  obtain ⟨n, rfl⟩ := Int.eq_ofNat_of_zero_le b2
  obtain ⟨l, rfl⟩ := Int.eq_ofNat_of_zero_le b0
  have td : Int.tdiv (n : Int) 256 = ((n / 256 : Nat) : Int) := by rw [Int.tdiv_eq_ediv_of_nonneg (by omega)]; omega
  have tm : Int.tmod (n : Int) 256 = ((n % 256 : Nat) : Int) := by rw [Int.tmod_eq_emod_of_nonneg (by omega)]; omega
  have l1 := dec_len (n / 256) (by omega)
  have l2 := dec_len (n % 256) (by omega)
  have l3 := dec_len l (by omega)
  have d46 : (⟨#[46]⟩ : ByteArray) = ⟨[(46 : UInt8)].toArray⟩ := rfl
  have d47 : (⟨#[47]⟩ : ByteArray) = ⟨[(47 : UInt8)].toArray⟩ := rfl
  unfold impl_Prefix_text.f
  rw [td, tm, w64 (n := ((n / 256 : Nat) : Int)) (by omega) (by omega), itoa_ok (by omega)]
  rw [Option.bind_some, ba_size, if_pos (by omega), itoa_ok (by omega)]
  rw [Option.bind_some, d46, d47, ba_app, ba_size, ba_size, if_pos (by simp; omega), ba_app, ba_size, if_pos (by simp; omega), itoa_ok (by omega)]
  rw [Option.bind_some, ba_app, ba_size, ba_size, if_pos (by simp; omega), ba_app]
  rfl
theorem ba_toList (l : List UInt8) : (⟨l.toArray⟩ : ByteArray).toList = l := by
  rw [ByteArray.toList_eq]
theorem ba_mk (s : ByteArray) : ∃ l : List UInt8, s = ⟨l.toArray⟩ := ⟨s.data.toList, by apply ByteArray.ext; simp⟩
theorem decFrom_app (c : UInt8) : ∀ (l : List UInt8) (a : Nat), Lib.decFrom a (l ++ [c]) = (Lib.decFrom a l).bind fun m => (Lib.digitVal c).bind fun d => some (m * 10 + d)
  | [], a => by
    rw [List.nil_append, Lib.decFrom, Lib.decFrom, Option.bind_some]
    cases Lib.digitVal c <;> rfl
  | b :: r, a => by
    rw [List.cons_append, Lib.decFrom, Lib.decFrom]
    cases Lib.digitVal b with
    | none => rfl
    | some d => exact decFrom_app c r _
theorem dig_val (d : Nat) (h : d < 10) : Lib.digitVal (UInt8.ofNat (48 + d)) = some d := by
  rcases (show d = 0 ∨ d = 1 ∨ d = 2 ∨ d = 3 ∨ d = 4 ∨ d = 5 ∨ d = 6 ∨ d = 7 ∨ d = 8 ∨ d = 9 by omega) with rfl | rfl | rfl | rfl | rfl | rfl | rfl | rfl | rfl | rfl <;> rfl
theorem dec_val : ∀ (n : Nat), Lib.decFrom 0 (Lib.decDigits n) = some n := by
  intro n
  induction n using Nat.strongRecOn with
  | _ n ih =>
    by_cases c : n < 10
    · rw [Lib.decDigits_one c, Lib.decFrom, dig_val n c]
      show some (0 * 10 + n) = _
      rw [Nat.zero_mul, Nat.zero_add]
    · rw [Lib.decDigits, dif_neg c, decFrom_app, ih (n / 10) (by omega), Option.bind_some, dig_val _ (by omega), Option.bind_some]
      congr 1
      omega
theorem dec_dig : ∀ (n : Nat), ∀ c ∈ Lib.decDigits n, 48 ≤ c.toNat ∧ c.toNat ≤ 57 := by
  have one : ∀ d, d < 10 → 48 ≤ (UInt8.ofNat (48 + d)).toNat ∧ (UInt8.ofNat (48 + d)).toNat ≤ 57 := by
    intro d h
    rcases (show d = 0 ∨ d = 1 ∨ d = 2 ∨ d = 3 ∨ d = 4 ∨ d = 5 ∨ d = 6 ∨ d = 7 ∨ d = 8 ∨ d = 9 by omega) with rfl | rfl | rfl | rfl | rfl | rfl | rfl | rfl | rfl | rfl <;> decide
  intro n
  induction n using Nat.strongRecOn with
  | _ n ih =>
    by_cases c : n < 10
    · rw [Lib.decDigits_one c]
      intro d hd
      rw [List.mem_singleton] at hd
      subst hd
      exact one n c
    · rw [Lib.decDigits, dif_neg c]
      intro d hd
      rw [List.mem_append, List.mem_singleton] at hd
      rcases hd with hd | hd
      · exact ih (n / 10) (by omega) d hd
      · subst hd
        exact one _ (by omega)
theorem dec_ne (n : Nat) : Lib.decDigits n ≠ [] := by
  by_cases c : n < 10
  · rw [Lib.decDigits_one c]; simp
  · rw [Lib.decDigits, dif_neg c]; simp
theorem dec_no (n : Nat) (b : UInt8) (h : b.toNat < 48) : ∀ c ∈ Lib.decDigits n, c ≠ b := by
  intro c hc e
  subst e
  have := dec_dig n c hc
  omega
theorem dec_lenD : ∀ (d n : Nat), n < 10 ^ d → 0 < d → (Lib.decDigits n).length ≤ d := by
  intro d
  induction d with
  | zero => exact fun n _ h => absurd h (Nat.lt_irrefl 0)
  | succ d ih =>
    intro n hn _
    by_cases c : n < 10
    · rw [Lib.decDigits_one c]; simp
    · rw [Lib.decDigits, dif_neg c, List.length_append, List.length_singleton]
      have hd : 0 < d := by
        rcases Nat.eq_zero_or_pos d with rfl | h
        · simp at hn; omega
        · exact h
      have := ih (n / 10) (by rw [Nat.pow_succ] at hn; omega) hd
      omega
/-- A text is a prefix's. -/
def IsP (L : List UInt8) (n l : Int) : Prop := Pok n l ∧ L = ptxt n.toNat l.toNat
theorem cut_len (s p : List UInt8) : (Lib.cut s p).1.length ≤ s.length ∧ (Lib.cut s p).2.1.length ≤ s.length := by
  unfold Lib.cut
  by_cases h : 0 ≤ Lib.index s p
  · rw [if_pos h]
    simp only [List.length_take, List.length_drop]
    omega
  · rw [if_neg h]
    simp
theorem cutA_eq (L : List UInt8) (b : UInt8) : cutA ⟨L.toArray⟩ ⟨#[b]⟩ = ⟨(Lib.cut L [b]).1.toArray⟩ := rfl
theorem cutB_eq (L : List UInt8) (b : UInt8) : cutB ⟨L.toArray⟩ ⟨#[b]⟩ = ⟨(Lib.cut L [b]).2.1.toArray⟩ := rfl
theorem ppG_ok (L : List UInt8) (h : L.length ≤ 12) : ppG ⟨L.toArray⟩ = true := by
  have c1 := cut_len L [46]
  have c2 := cut_len (Lib.cut L [46]).2.1 [47]
  unfold ppG ppLow ppLong ppHigh ppRest
  rw [decide_eq_true_eq, cutA_eq, cutB_eq, cutA_eq, cutB_eq, ba_size, ba_size, ba_size, ba_size]
  omega
instance (L : List UInt8) (n l : Int) : Decidable (IsP L n l) := by
  unfold IsP
  infer_instance
theorem impl_g (L : List UInt8) (h l n : Int) : impl_ParsePrefix.g ⟨L.toArray⟩ h l n = if IsP L (wrap64 (wrap64 (256 * h) + l)) n then some (wrap64 (wrap64 (256 * h) + l), n, true) else some (0, 0, false) := by
  unfold impl_ParsePrefix.g
  obtain ⟨N, eN⟩ : ∃ N, wrap64 (wrap64 (256 * h) + l) = N := ⟨_, rfl⟩
  rw [eN, impl_Pok, Option.bind_some]
  by_cases p : Pok N n
  · rw [decide_eq_true p, if_pos rfl, impl_text p, Option.bind_some, ba_toList, ba_toList]
    by_cases q : ptxt N.toNat n.toNat = L
    · rw [if_pos q, if_pos ⟨p, q.symm⟩]
    · rw [if_neg q, if_neg (fun z => q z.2.symm)]
  · rw [decide_eq_false p, if_neg (by decide), if_neg (fun z => p z.1)]
theorem impl_pp (L : List UInt8) (hl : L.length ≤ 12) : impl_ParsePrefix.f ⟨L.toArray⟩ = some (0, 0, false) ∨ ∃ n l, IsP L n l ∧ impl_ParsePrefix.f ⟨L.toArray⟩ = some (n, l, true) := by
  unfold impl_ParsePrefix.f
  rw [ba_size, if_neg (by omega), if_pos (ppG_ok L hl), impl_g]
  by_cases p : IsP L (wrap64 (wrap64 (256 * atoiV (ppHigh ⟨L.toArray⟩)) + atoiV (ppLow ⟨L.toArray⟩))) (atoiV (ppLong ⟨L.toArray⟩))
  · rw [if_pos p]
    exact .inr ⟨_, _, p, rfl⟩
  · rw [if_neg p]
    exact .inl rfl
theorem index_hit (b : UInt8) (y : List UInt8) : ∀ (x : List UInt8), (∀ c ∈ x, c ≠ b) → Lib.index (x ++ b :: y) [b] = (x.length : Int)
  | [], _ => by
    rw [List.nil_append, Lib.index, if_pos (by simp [List.isPrefixOf])]
    rfl
  | c :: r, h => by
    have e : c ≠ b := h c (by simp)
    have z := index_hit b y r (fun d hd => h d (by simp [hd]))
    rw [List.cons_append, Lib.index, if_neg (by simp [List.isPrefixOf] <;> exact fun q => e q.symm), z, if_neg (by simp <;> omega), List.length_cons]
    omega
theorem cut_hit (b : UInt8) (x y : List UInt8) (h : ∀ c ∈ x, c ≠ b) : Lib.cut (x ++ b :: y) [b] = (x, y, true) := by
  unfold Lib.cut
  rw [index_hit b y x h, if_pos (by omega), Int.toNat_natCast]
  have e1 : (x ++ b :: y).take x.length = x := List.take_left
  have e2 : (x ++ b :: y).drop (x.length + [b].length) = y := by
    rw [List.length_singleton, List.drop_append]
    simp
  rw [e1, e2]
theorem atoi_dec (n : Nat) : atoiV ⟨(Lib.decDigits n).toArray⟩ = (n : Int) := by
  have hv := dec_val n
  have hne := dec_ne n
  have h1 := dec_no n 45 (by decide)
  have h2 := dec_no n 43 (by decide)
  unfold atoiV
  show (Lib.atoi (Lib.decDigits n)).getD 0 = _
  obtain ⟨w, ew⟩ : ∃ w, Lib.decDigits n = w := ⟨_, rfl⟩
  rw [ew] at hv hne h1 h2 ⊢
  cases w with
  | nil => exact absurd rfl hne
  | cons c r =>
    have e1 : c ≠ 45 := h1 c (by simp)
    have e2 : c ≠ 43 := h2 c (by simp)
    have e3 : Lib.decNat (c :: r) = some n := by
      unfold Lib.decNat
      rw [if_neg (by simp)]
      exact hv
    rw [Lib.atoi, if_neg (by simpa using e1), if_neg (by simpa using e2), e3]
    rfl
theorem impl_pp2 (L : List UInt8) (hl : L.length ≤ 12) {n l : Int} (h : IsP L n l) : impl_ParsePrefix.f ⟨L.toArray⟩ = some (n, l, true) := by
  have h0 := h
  obtain ⟨hp, hL⟩ := h
  obtain ⟨b0, b1, b2, b3, b4⟩ := hp
  have hL2 : L = Lib.decDigits (n.toNat / 256) ++ 46 :: (Lib.decDigits (n.toNat % 256) ++ 47 :: Lib.decDigits l.toNat) := by rw [hL]; unfold ptxt; simp
  have k1 := cut_hit 46 _ (Lib.decDigits (n.toNat % 256) ++ 47 :: Lib.decDigits l.toNat) (dec_no (n.toNat / 256) 46 (by decide))
  have k2 := cut_hit 47 _ (Lib.decDigits l.toNat) (dec_no (n.toNat % 256) 47 (by decide))
  rw [← hL2] at k1
  have a1 : ppHigh ⟨L.toArray⟩ = ⟨(Lib.decDigits (n.toNat / 256)).toArray⟩ := by unfold ppHigh; rw [cutA_eq, k1]
  have a2 : ppRest ⟨L.toArray⟩ = ⟨(Lib.decDigits (n.toNat % 256) ++ 47 :: Lib.decDigits l.toNat).toArray⟩ := by unfold ppRest; rw [cutB_eq, k1]
  have a3 : ppLow ⟨L.toArray⟩ = ⟨(Lib.decDigits (n.toNat % 256)).toArray⟩ := by unfold ppLow; rw [a2, cutA_eq, k2]
  have a4 : ppLong ⟨L.toArray⟩ = ⟨(Lib.decDigits l.toNat).toArray⟩ := by unfold ppLong; rw [a2, cutB_eq, k2]
  unfold impl_ParsePrefix.f
  rw [ba_size, if_neg (by omega), if_pos (ppG_ok L hl), a1, a3, a4, atoi_dec, atoi_dec, atoi_dec, impl_g]
  rw [w64 (n := 256 * ((n.toNat / 256 : Nat) : Int)) (by omega) (by omega), w64 (n := 256 * ((n.toNat / 256 : Nat) : Int) + ((n.toNat % 256 : Nat) : Int)) (by omega) (by omega)]
  rw [show 256 * ((n.toNat / 256 : Nat) : Int) + ((n.toNat % 256 : Nat) : Int) = n by omega, show ((l.toNat : Nat) : Int) = l by omega, if_pos h0]
theorem wr1 {i : Nat} (h : i ≤ 1048576) : wrap64 ((i : Int) + 1) = ((i + 1 : Nat) : Int) := by rw [w64 (by omega) (by omega)]; omega
theorem rd_mem {o : List Int} {i : Int} (h0 : 0 ≤ i) (h : i < o.length) : rd o i ∈ o := by
  unfold rd
  rw [List.getD_eq_getElem?_getD, List.getElem?_eq_getElem (by omega)]
  exact List.getElem_mem _
theorem and255 (x : Int) : 0 ≤ Go.bits .and .i64 x 255 ∧ Go.bits .and .i64 x 255 ≤ 255 := by
  have e : Go.bits .and .i64 x 255 = IntKind.i64.wrap (((BitVec.ofInt 64 x).toNat &&& (BitVec.ofInt 64 255).toNat : Nat) : Int) := by
    simp only [Go.bits]
    rw [← BitVec.toNat_and]
    rfl
  have h : (BitVec.ofInt 64 x).toNat &&& (BitVec.ofInt 64 255).toNat ≤ 255 := Nat.and_le_right
  generalize (BitVec.ofInt 64 x).toNat &&& (BitVec.ofInt 64 255).toNat = m at e h
  rw [e, IntKind.wrap_i64]
  omega
theorem byte_ok (b : List Int) {i : Int} (h : Int) (hi : 0 ≤ i) (hb : b.length ≤ 1048576) : ∃ r i' h', spec_l01Byte.f b i h = some (r, i', h') ∧ (0 ≤ r ∧ r ≤ 255) ∧ 0 ≤ i' := by
  unfold spec_l01Byte.f
  by_cases c : i < (b.length : Int)
  · rw [if_pos c, if_pos hi]
    exact ⟨_, _, _, rfl, and255 _, by rw [w64 (by omega) (by omega)]; omega⟩
  · rw [if_neg c]
    exact ⟨_, _, _, rfl, and255 _, hi⟩
theorem tmod_ok {a n : Int} (h0 : 0 ≤ a) (h1 : 0 < n) : 0 ≤ Int.tmod a n ∧ Int.tmod a n < n := by
  rw [Int.tmod_eq_emod_of_nonneg h0]
  exact ⟨Int.emod_nonneg _ (by omega), Int.emod_lt_of_pos _ h1⟩
theorem below_ok (b : List Int) {i : Int} (h : Int) (hi : 0 ≤ i) (hb : b.length ≤ 1048576) (n : Int) : ∃ r i' h', spec_l01Below.f b i h n = some (r, i', h') ∧ 0 ≤ i' ∧ 0 ≤ r ∧ (0 < n → r < n) ∧ (n ≤ 0 → r = 0) := by
  unfold spec_l01Below.f
  by_cases c : n ≤ 0
  · rw [if_pos c]
    exact ⟨_, _, _, rfl, hi, Int.le_refl _, fun h => by omega, fun _ => rfl⟩
  · rw [if_neg c]
    obtain ⟨r1, i1, h1, e1, p1, q1⟩ := byte_ok b h hi hb
    rw [e1]
    simp only [Option.bind_some]
    by_cases c2 : n ≤ 256
    · rw [if_pos c2, if_neg (by omega)]
      have z := tmod_ok p1.1 (show 0 < n by omega)
      exact ⟨_, _, _, rfl, q1, z.1, fun _ => z.2, fun h => by omega⟩
    · rw [if_neg c2]
      obtain ⟨r2, i2, h2, e2, p2, q2⟩ := byte_ok b h1 q1 hb
      rw [e2]
      simp only [Option.bind_some]
      obtain ⟨r3, i3, h3, e3, p3, q3⟩ := byte_ok b h2 q2 hb
      rw [e3]
      simp only [Option.bind_some]
      have z := tmod_ok (a := r1 * 65536 + r2 * 256 + r3) (by omega) (show 0 < n by omega)
      rw [if_neg (by omega), w64 (n := r1 * 65536) (by omega) (by omega), w64 (n := r2 * 256) (by omega) (by omega), w64 (n := r1 * 65536 + r2 * 256) (by omega) (by omega), w64 (n := r1 * 65536 + r2 * 256 + r3) (by omega) (by omega)]
      exact ⟨_, _, _, rfl, q3, z.1, fun _ => z.2, fun h => by omega⟩
theorem pick_ok (b : List Int) {i : Int} (h : Int) (hi : 0 ≤ i) (hb : b.length ≤ 1048576) {l : List Int} (hl : 0 < l.length) : ∃ r i' h', spec_l01PickInt.f b i h l = some (r, i', h') ∧ 0 ≤ i' ∧ r ∈ l := by
  unfold spec_l01PickInt.f
  obtain ⟨r, i', h', e, p, q0, q, -⟩ := below_ok b h hi hb (l.length : Int)
  rw [e]
  simp only [Option.bind_some]
  have q1 := q (by omega)
  rw [if_pos q0, if_pos q1]
  exact ⟨_, _, _, rfl, p, rd_mem q0 q1⟩
theorem once_ok (b : List Int) {i : Int} (h : Int) (hi : 0 ≤ i) (hb : b.length ≤ 1048576) (n : Int) : ∃ r i' h', spec_l01Once.f b i h n = some (r, i', h') ∧ 0 ≤ i' := by
  unfold spec_l01Once.f
  obtain ⟨r, i', h', e, p, -⟩ := below_ok b h hi hb n
  rw [e]
  simp only [Option.bind_some]
  exact ⟨_, _, _, rfl, p⟩
theorem new_ok {l : List Int} (hl : l.length ≤ 1048576) {k : Nat} (hk : 4001 < k) : ∃ h, spec_l01New.f k l = some (l, 0, h) := by
  have key : ∀ (d i k : Nat) (x : Int), i + d = 4000 → d < k → ∃ h, spec_l01New.l0 k l x i = some (l, 0, h) := by
    intro d
    induction d with
    | zero =>
      intro i k x hi hk
      obtain ⟨k, rfl⟩ : ∃ m, k = m + 1 := ⟨k - 1, by omega⟩
      simp only [spec_l01New.l0]
      rw [if_neg (c := (i : Int) < 4000) (by omega)]
      by_cases c : (i : Int) < (l.length : Int)
      · rw [if_pos c]; exact ⟨_, rfl⟩
      · rw [if_neg c]; exact ⟨_, rfl⟩
    | succ d ih =>
      intro i k x hi hk
      obtain ⟨k, rfl⟩ : ∃ m, k = m + 1 := ⟨k - 1, by omega⟩
      simp only [spec_l01New.l0]
      rw [if_pos (c := (i : Int) < 4000) (by omega)]
      by_cases c : (i : Int) < (l.length : Int)
      · rw [if_pos c, if_pos (by omega), wr1 (by omega)]
        exact ih (i + 1) k _ (by omega) (by omega)
      · rw [if_neg c]; exact ⟨_, rfl⟩
  exact key 4000 0 k _ (by omega) (by omega)
theorem ex_bind {α β : Type} {o : Option α} {f : α → Option β} {Q : β → Prop} (a : α) (h : o = some a) (h2 : ∃ b, f a = some b ∧ Q b) : ∃ b, o.bind f = some b ∧ Q b := by
  obtain ⟨b, h3, h4⟩ := h2
  exact ⟨b, by rw [h]; exact h3, h4⟩
theorem ex_pos {β : Type} {p : Prop} [Decidable p] {x y : Option β} {Q : β → Prop} (h : p) (h2 : ∃ b, x = some b ∧ Q b) : ∃ b, (if p then x else y) = some b ∧ Q b := by
  rw [if_pos h]; exact h2
theorem ex_neg {β : Type} {p : Prop} [Decidable p] {x y : Option β} {Q : β → Prop} (h : ¬ p) (h2 : ∃ b, y = some b ∧ Q b) : ∃ b, (if p then x else y) = some b ∧ Q b := by
  rw [if_neg h]; exact h2
theorem draw_prefix {b : List Int} (hb : b.length ≤ 1048576) {i : Int} (h : Int) (hi : 0 ≤ i) : ∃ n l i' h', spec_l01DrawPrefix.f b i h = some (n, l, i', h') ∧ 0 ≤ i' := by
  unfold spec_l01DrawPrefix.f
  obtain ⟨r1, i1, h1, e1, p1, a1, b1, -⟩ := below_ok b h hi hb 17
  have b1 := b1 (by omega)
  rw [e1, Option.bind_some]
  obtain ⟨r2, i2, h2, e2, p2, a2, b2, -⟩ := below_ok b h1 p1 hb 9
  have b2 := b2 (by omega)
  rw [e2, Option.bind_some]
  obtain ⟨r3, i3, h3, e3, p3, a3, b3, -⟩ := below_ok b h2 p2 hb 9
  have b3 := b3 (by omega)
  rw [e3, Option.bind_some]
  rw [w64 (n := 8 + r2) (by omega) (by omega), w64 (n := 8 + r3) (by omega) (by omega)]
  obtain ⟨r4, i4, h4, e4, p4, m4⟩ := pick_ok b h3 p3 hb (l := [0, 1, 4, 8, 12, 15, 16, r1, 8 + r2, 8 + r3]) (by simp)
  have m4' : 0 ≤ r4 ∧ r4 ≤ 16 := by
    simp only [List.mem_cons, List.not_mem_nil, or_false] at m4
    omega
  rw [e4, Option.bind_some]
  obtain ⟨r5, i5, h5, e5, p5, -⟩ := below_ok b h4 p4 hb 65536
  rw [e5, Option.bind_some]
  obtain ⟨r6, i6, h6, e6, p6, -⟩ := below_ok b h5 p5 hb 2048
  rw [e6, Option.bind_some]
  obtain ⟨r7, i7, h7, e7, p7, -⟩ := pick_ok b h6 p6 hb (l := [0, 2560, r5, r6]) (by simp)
  have z := psz_pos r4
  rw [e7, Option.bind_some, spec_Size m4'.1 m4'.2, Option.bind_some, if_neg (by omega)]
  obtain ⟨r8, i8, h8, e8, p8⟩ := once_ok b h7 p7 hb 30
  rw [e8, Option.bind_some]
  by_cases c : r8 = true
  · rw [if_pos c]
    obtain ⟨r9, i9, h9, e9, p9, -⟩ := below_ok b h8 p8 hb 3
    rw [e9, Option.bind_some]
    by_cases c0 : r9 = 0
    · rw [if_pos c0]
      obtain ⟨r10, i10, h10, e10, p10, -⟩ := pick_ok b h9 p9 hb (l := [-1, 17, 3]) (by simp)
      rw [e10, Option.bind_some]
      exact ⟨_, _, _, _, rfl, p10⟩
    · rw [if_neg c0]
      by_cases c1 : r9 = 1
      · rw [if_pos c1]
        obtain ⟨r10, i10, h10, e10, p10, -⟩ := pick_ok b h9 p9 hb (l := [-1, 65536, 1, 65535]) (by simp)
        rw [e10, Option.bind_some]
        exact ⟨_, _, _, _, rfl, p10⟩
      · rw [if_neg c1]
        by_cases c2 : r9 = 2
        · rw [if_pos c2]
          exact ⟨_, _, _, _, rfl, p9⟩
        · rw [if_neg c2]
          exact ⟨_, _, _, _, rfl, p9⟩
  · rw [if_neg c]
    exact ⟨_, _, _, _, rfl, p8⟩
theorem ofInt_nat {x : Int} (h0 : 0 ≤ x) (h1 : x < 9223372036854775808) : (BitVec.ofInt 64 x).toNat = x.toNat := by
  rw [BitVec.toNat_ofInt]
  omega
theorem xor_even (q : Nat) : (2 * q) ^^^ 1 = 2 * q + 1 := by
  have h1 : ((2 * q) ^^^ 1) / 2 = q := by rw [Nat.xor_div_two]; simp
  have h2 : ((2 * q) ^^^ 1) % 2 = 1 := by
    rw [Nat.xor_mod_two_eq_one]
    omega
  omega
theorem xor_next (m j : Nat) (h : m % (2 * 2 ^ j) = 0) : m ^^^ 2 ^ j = m + 2 ^ j := by
  obtain ⟨q, hq⟩ : ∃ q, m = 2 * 2 ^ j * q := ⟨m / (2 * 2 ^ j), by rw [Nat.mul_div_cancel' (Nat.dvd_of_mod_eq_zero h)]⟩
  have e1 : m = (2 * q) <<< j := by rw [hq, Nat.shiftLeft_eq, Nat.mul_right_comm]
  have e2 : 2 ^ j = 1 <<< j := by rw [Nat.shiftLeft_eq, Nat.one_mul]
  rw [e2]
  conv => lhs; rw [e1]
  rw [← Nat.shiftLeft_xor_distrib, xor_even, Nat.shiftLeft_eq, Nat.shiftLeft_eq, Nat.add_mul, e1, Nat.shiftLeft_eq]
theorem sib_xor {n p : Int} (j : Nat) (hp : p = 2 ^ j) (hj : j ≤ 16) (a0 : 0 ≤ n) (a1 : n < 65536) (h : n % (2 * p) = 0) : Go.bits .xor .i64 n p = n + p := by
  have p1 : (2 : Nat) ^ j ≤ 2 ^ 16 := Nat.pow_le_pow_right (by decide) hj
  have hpn : p = ((2 ^ j : Nat) : Int) := by rw [hp]; simp
  have pp : 0 ≤ p ∧ p ≤ 65536 := by rw [hpn]; exact ⟨Int.natCast_nonneg _, Int.ofNat_le.2 (Nat.le_trans p1 (show 2 ^ 16 ≤ 65536 by decide))⟩
  have e : Go.bits .xor .i64 n p = IntKind.i64.wrap (((BitVec.ofInt 64 n).toNat ^^^ (BitVec.ofInt 64 p).toNat : Nat) : Int) := by
    simp only [Go.bits]
    rw [← BitVec.toNat_xor]
    rfl
  obtain ⟨m, hm⟩ : ∃ m : Nat, n = m := ⟨n.toNat, by omega⟩
  rw [hm, hpn] at h
  have h' : m % (2 * 2 ^ j) = 0 := by
    have z : ((m % (2 * 2 ^ j) : Nat) : Int) = 0 := by rw [← h]; simp
    exact Int.ofNat_inj.1 z
  rw [ofInt_nat a0 (by omega), ofInt_nat pp.1 (by omega), hpn, Int.toNat_natCast, hm, Int.toNat_natCast, xor_next m j h', IntKind.wrap_i64] at e
  rw [hpn] at pp
  obtain ⟨P, hP⟩ : ∃ P : Nat, 2 ^ j = P := ⟨_, rfl⟩
  rw [hP] at e pp hpn
  rw [hpn, hm, e]
  omega
theorem half_ok {n l : Int} (h : Pok n l) (hl : l ≤ 15) : Pok n (l + 1) ∧ Pok (n + psz (l + 1)) (l + 1) ∧ psz l = 2 * psz (l + 1) ∧ n % (2 * psz (l + 1)) = 0 := by
  have t := Pok.top h
  obtain ⟨b0, b1, b2, b3, b4⟩ := h
  have e := psz_half b0 hl
  have z := psz_pos (l + 1)
  rw [e] at b4 t
  have m1 : n % psz (l + 1) = 0 := by
    have := Int.emod_emod_of_dvd n (show psz (l + 1) ∣ 2 * psz (l + 1) from Int.dvd_mul_left _ _)
    rw [b4] at this
    rw [← this]
    exact Int.zero_emod _
  refine ⟨⟨by omega, by omega, b2, b3, m1⟩, ⟨by omega, by omega, by omega, by omega, ?_⟩, e, b4⟩
  rw [Int.add_emod_right]
  exact m1
theorem halves_is {n l : Int} (h : Pok n l) (hl : l ≤ 15) : impl_Halves.f n l = some (n, l + 1, n + psz (l + 1), l + 1, true) := by
  obtain ⟨-, -, e, -⟩ := half_ok h hl
  have z := psz_pos (l + 1)
  have h3 := h
  obtain ⟨b0, b1, b2, b3, b4⟩ := h3
  have p2 := psz_le b0 b1
  unfold impl_Halves.f impl_Prefix_halves.f
  rw [impl_Pok, decide_eq_true h, Option.bind_some, if_pos rfl, if_neg (by omega), impl_Size n b0 b1, Option.bind_some, Option.bind_some]
  have e2 : Int.tdiv (psz l) 2 = psz (l + 1) := by rw [Int.tdiv_eq_ediv_of_nonneg (by omega)]; omega
  dsimp only
  rw [e2, w64 (n := psz (l + 1)) (by omega) (by omega), w64 (n := l + 1) (by omega) (by omega), w64 (n := n + psz (l + 1)) (by omega) (by omega)]
theorem sib_is {n l : Int} (h : Pok n l) (hl : l ≤ 15) : impl_Sibling.f n (l + 1) = some (n + psz (l + 1), l + 1, true) := by
  obtain ⟨pa, pb, e, m⟩ := half_ok h hl
  obtain ⟨b0, b1, b2, b3, b4⟩ := h
  unfold impl_Sibling.f
  rw [impl_Pok, decide_eq_true pa, Option.bind_some, if_pos rfl, if_neg (by omega), impl_Size n (by omega) (by omega), Option.bind_some, sib_xor (p := psz (l + 1)) (16 - (l + 1)).toNat rfl (by omega) b2 (by omega) m]
theorem covers_ok {a m s l : Int} (p : Pok a m) (q : Pok s l) : impl_CoversPrefix.f a m s l = some (decide (m ≤ l ∧ Phas a m s)) := by
  unfold impl_CoversPrefix.f impl_Prefix_covers.f
  rw [impl_Pok, impl_Pok, decide_eq_true p, decide_eq_true q, Option.bind_some, if_pos rfl, Option.bind_some, if_pos rfl]
  by_cases c : m ≤ l
  · rw [if_pos c, impl_has p, Option.bind_some, Option.bind_some]
    simp [c]
  · rw [if_neg c, Option.bind_some, decide_eq_false (fun z => c z.1)]
theorem addr_is {n l : Int} (h : Pok n l) (x : Int) : impl_HasAddr.f n l x = some (decide (Phas n l x)) := by
  unfold impl_HasAddr.f
  rw [impl_Pok, decide_eq_true h, Option.bind_some, if_pos rfl, impl_has h, Option.bind_some]
theorem at_is {b : List Int} {i : Int} (h : 0 ≤ i) : ∃ r, laws_at.f b i = some r := by
  unfold laws_at.f
  by_cases c : i < (b.length : Int)
  · rw [if_pos c, if_pos h]; exact ⟨_, rfl⟩
  · rw [if_neg c]; exact ⟨_, rfl⟩
theorem addr_loop {b : List Int} {n l : Int} (h : Pok n l) (hl : l ≤ 15) : ∀ (d i k : Nat), i + d = 20 → d < k → laws_FnBlocks.l0 k b (i : Int) n l n (l + 1) (n + psz (l + 1)) (l + 1) = some true := by
  obtain ⟨pa, pb, e, m⟩ := half_ok h hl
  intro d
  induction d with
  | zero =>
    intro i k hi hk
    obtain ⟨k, rfl⟩ : ∃ q, k = q + 1 := ⟨k - 1, by omega⟩
    rw [laws_FnBlocks.l0, if_neg (by omega)]
  | succ d ih =>
    intro i k hi hk
    obtain ⟨k, rfl⟩ : ∃ q, k = q + 1 := ⟨k - 1, by omega⟩
    obtain ⟨u, hu⟩ := at_is (b := b) (i := (i : Int)) (by omega)
    obtain ⟨v, hv⟩ := at_is (b := b) (i := (i : Int) + 1) (by omega)
    have z := ih (i + 1) k (by omega) (by omega)
    rw [show ((i + 1 : Nat) : Int) = (i : Int) + 1 by omega] at z
    rw [laws_FnBlocks.l0, if_pos (by omega), hu, Option.bind_some, w64 (n := (i : Int) + 1) (by omega) (by omega), hv, Option.bind_some]
    obtain ⟨x, hx⟩ : ∃ x, Int.tmod (wrap64 (n + (wrap64 (u * v)))) 65536 = x := ⟨_, rfl⟩
    rw [hx, addr_is h, Option.bind_some, addr_is pa, addr_is pb, Option.bind_some]
    have zp := psz_pos (l + 1)
    by_cases ca : Phas n (l + 1) x
    · have cb : ¬ Phas (n + psz (l + 1)) (l + 1) x := by
        unfold Phas at ca ⊢
        omega
      have cp : Phas n l x := by
        unfold Phas at ca ⊢
        rw [e]
        omega
      rw [decide_eq_true ca, decide_eq_true cp, decide_eq_false cb, if_pos rfl, if_neg (by decide), Option.bind_some, if_pos rfl, Option.bind_some, if_neg (by decide)]
      exact z
    · have cp : Phas n l x ↔ Phas (n + psz (l + 1)) (l + 1) x := by
        unfold Phas at ca ⊢
        rw [e]
        omega
      have cd : decide (Phas n l x) = decide (Phas (n + psz (l + 1)) (l + 1) x) := by
        rw [Bool.eq_iff_iff, decide_eq_true_eq, decide_eq_true_eq]
        exact cp
      rw [decide_eq_false ca, cd, if_neg (by decide), Option.bind_some, bne_self_eq_false, if_neg (by decide), Option.bind_some, if_neg (by decide)]
      exact z
theorem ptxt_len {n l : Int} (h : Pok n l) : (ptxt n.toNat l.toNat).length ≤ 12 := by
  obtain ⟨b0, b1, b2, b3, b4⟩ := h
  have l1 := dec_lenD 3 (n.toNat / 256) (by show _ < 1000; omega) (by decide)
  have l2 := dec_lenD 3 (n.toNat % 256) (by show _ < 1000; omega) (by decide)
  have l3 := dec_lenD 2 l.toNat (by show _ < 100; omega) (by decide)
  unfold ptxt
  simp only [List.length_append, List.length_singleton]
  omega
theorem FnBlocks : FnBlocks.Pure := by
  intro b hw
  obtain ⟨K, hK⟩ : ∃ K, K = 5000 := ⟨_, rfl⟩
  refine ⟨K, ?_⟩
  unfold laws_FnBlocks.f laws_big.f
  rw [Option.bind_some]
  by_cases c : (b.length : Int) > 1048576
  · rw [decide_eq_true c, if_pos rfl]
  rw [decide_eq_false c, if_neg (by decide)]
  have hb : b.length ≤ 1048576 := by omega
  have hd : ∃ n l, spec_DrawHalves.f K b = some (n, l) := by
    unfold spec_DrawHalves.f spec_DrawPrefixOk.f
    obtain ⟨h, e⟩ := new_ok hb (k := K) (by omega)
    rw [e, Option.bind_some]
    obtain ⟨n, l, i', h', e2, -⟩ := draw_prefix hb (i := 0) h (by omega)
    rw [e2, Option.bind_some, Option.bind_some]
    exact ⟨_, _, rfl⟩
  obtain ⟨n, l, e⟩ := hd
  rw [e, Option.bind_some, spec_Pok, Option.bind_some]
  by_cases p : Pok n l
  rotate_left
  · rw [decide_eq_false p, if_neg (by decide)]
  have e1 : impl_PrefixText.f n l = some ⟨(ptxt n.toNat l.toNat).toArray⟩ := by
    unfold impl_PrefixText.f
    rw [impl_Pok, decide_eq_true p]
    rw [Option.bind_some, if_pos rfl, impl_text p]
    rfl
  rw [decide_eq_true p, if_pos rfl, e1, Option.bind_some, impl_pp2 _ (ptxt_len p) ⟨p, rfl⟩, Option.bind_some]
  obtain ⟨k, rfl⟩ : ∃ q, K = q + 2 := ⟨K - 2, by omega⟩
  dsimp only
  rw [if_pos rfl, beq_self_eq_true, beq_self_eq_true, laws_FnBlocks.j0, if_neg (by decide)]
  by_cases c16 : l = 16
  · subst c16
    have eh : impl_Halves.f n 16 = some (0, 0, 0, 0, false) := by
      unfold impl_Halves.f
      rw [impl_Pok, decide_eq_true p, Option.bind_some, if_pos rfl, if_pos rfl]
    rw [eh, Option.bind_some, if_pos rfl]
    rfl
  · have hl : l ≤ 15 := by have := p.2.1; omega
    obtain ⟨pa, pb, eq, m⟩ := half_ok p hl
    have zp := psz_pos (l + 1)
    rw [halves_is p hl, Option.bind_some, if_neg c16]
    dsimp only
    rw [sib_is p hl, Option.bind_some, if_pos rfl]
    dsimp only
    rw [if_pos rfl, beq_self_eq_true, beq_self_eq_true, if_neg (by decide), covers_ok p pa, decide_eq_true (by unfold Phas; omega), Option.bind_some, if_pos rfl, covers_ok p pb, decide_eq_true (by unfold Phas; omega), Option.bind_some, if_pos rfl, covers_ok pa p, decide_eq_false (by omega), Option.bind_some]
    rw [laws_FnBlocks.j1, if_neg (by decide)]
    exact addr_loop p hl 20 0 k (by omega) (by omega)

end Go.Proofs.YtmbaemcnjdgemaaDoor.Pure
