/- The plain law of FnShares: the program's law answers true at every draw. -/
import Derived.Test.YthmahcohcphljaaStmtFnShares
namespace Go.Proofs.Ythmahcohcphljaa.Pure
open Go.RowKit Go.Proofs.Ythmahcohcphljaa.QFnShares Go.Proofs.YthmahcohcphljaaS.PrintWords Go.Proofs.YthmahcohcphljaaS.PrintLast Go.Proofs.YthmahcohcphljaaS.PrintMore
set_option linter.unusedVariables false
set_option linter.unusedSimpArgs false

theorem w64 {n : Int} (h0 : -9223372036854775808 ≤ n) (h1 : n ≤ 9223372036854775807) : wrap64 n = n := by unfold wrap64; omega
theorem wr1 {i : Nat} (h : i ≤ 1048576) : wrap64 ((i : Int) + 1) = ((i + 1 : Nat) : Int) := by rw [w64 (by omega) (by omega)]; omega
theorem spec_In (a b c : Int) : spec_l01In.f a b c = some (decide (b ≤ a ∧ a ≤ c)) := by
  unfold spec_l01In.f
  by_cases h : b ≤ a <;> simp [h]
theorem impl_In (a b c : Int) : impl_within.f a b c = some (decide (b ≤ a ∧ a ≤ c)) := by
  unfold impl_within.f
  by_cases h : b ≤ a <;> simp [h]
/-- A loop that asks each index and ends at the first refusal. -/
theorem all_loop {F : Nat → Int → Option Bool} {n : Nat} {P : Nat → Prop} {e : Bool}
    (hs : ∀ (k i : Nat), i < n → (∀ j, j < i → P j) → (P i ∧ F (k + 1) i = F k ((i : Int) + 1)) ∨ (¬ P i ∧ F (k + 1) i = some false))
    (he : ∀ k : Nat, (∀ j, j < n → P j) → F (k + 1) n = some e) : ∀ (d k i : Nat), i + d = n → d < k → (∀ j, j < i → P j) →
    ∃ b, F k i = some b ∧ (b = true ↔ ((∀ j, j < n → P j) ∧ e = true)) := by
  intro d
  induction d with
  | zero =>
    intro k i hi hk hp
    obtain ⟨k, rfl⟩ : ∃ m, k = m + 1 := ⟨k - 1, by omega⟩
    obtain rfl : i = n := by omega
    exact ⟨e, he k hp, ⟨fun h => ⟨hp, h⟩, fun h => h.2⟩⟩
  | succ d ih =>
    intro k i hi hk hp
    obtain ⟨k, rfl⟩ : ∃ m, k = m + 1 := ⟨k - 1, by omega⟩
    rcases hs k i (by omega) hp with ⟨h1, h2⟩ | ⟨h1, h2⟩
    · have e1 : (i : Int) + 1 = ((i + 1 : Nat) : Int) := by omega
      rw [h2, e1]
      refine ih k (i + 1) (by omega) (by omega) (fun j hj => ?_)
      by_cases hji : j = i
      · rw [hji]; exact h1
      · exact hp j (by omega)
    · refine ⟨false, h2, ⟨(fun h => by cases h), fun h => absurd (h.1 i (by omega)) h1⟩⟩
/-- A loop that copies a list, element by element. -/
theorem copy_loop {α β : Type} {F : Nat → List α → List β → Int → Option (List β)} {cv : α → β} (z : α) {N : Nat}
    (hs : ∀ (k i : Nat) (x : List α) (y : List β), x.length ≤ N → i < x.length → i < y.length → F (k + 1) x y i = F k x (y.set i (cv (x.getD i z))) ((i : Int) + 1))
    (he : ∀ (k : Nat) (x : List α) (y : List β), F (k + 1) x y x.length = some y) (x : List α) (hN : x.length ≤ N) : ∀ (d k i : Nat) (y : List β), i + d = x.length → d < k → y.length = x.length →
    y.take i = (x.take i).map cv → F k x y i = some (x.map cv) := by
  intro d
  induction d with
  | zero =>
    intro k i y hi hk hl ht
    obtain ⟨k, rfl⟩ : ∃ m, k = m + 1 := ⟨k - 1, by omega⟩
    obtain rfl : i = x.length := by omega
    rw [he]
    rw [List.take_of_length_le (by omega), List.take_of_length_le (by omega)] at ht
    rw [ht]
  | succ d ih =>
    intro k i y hi hk hl ht
    obtain ⟨k, rfl⟩ : ∃ m, k = m + 1 := ⟨k - 1, by omega⟩
    have e1 : (i : Int) + 1 = ((i + 1 : Nat) : Int) := by omega
    rw [hs k i x y hN (by omega) (by omega), e1]
    refine ih k (i + 1) _ (by omega) (by omega) (by rw [List.length_set, hl]) ?_
    have hx : i < x.length := by omega
    have hy : i < y.length := by omega
    rw [List.take_succ_eq_append_getElem (by rw [List.length_set]; exact hy), List.take_succ_eq_append_getElem hx, List.map_append, List.take_set, ht]
    congr 1
    · rw [List.set_eq_of_length_le]
      simp; omega
    · simp [List.getD_eq_getElem?_getD, hx]
/-- Two equal lists, compared element by element. -/
theorem same_loop {α : Type} {F : Nat → List α → List α → Int → Option Bool} {N : Nat}
    (hs : ∀ (k i : Nat) (x : List α), x.length ≤ N → i < x.length → F (k + 1) x x i = F k x x ((i : Int) + 1))
    (he : ∀ (k : Nat) (x : List α), F (k + 1) x x x.length = some true) (x : List α) (hN : x.length ≤ N) : ∀ (d k i : Nat), i + d = x.length → d < k → F k x x i = some true := by
  intro d
  induction d with
  | zero =>
    intro k i hi hk
    obtain ⟨k, rfl⟩ : ∃ m, k = m + 1 := ⟨k - 1, by omega⟩
    obtain rfl : i = x.length := by omega
    exact he k x
  | succ d ih =>
    intro k i hi hk
    obtain ⟨k, rfl⟩ : ∃ m, k = m + 1 := ⟨k - 1, by omega⟩
    have e1 : (i : Int) + 1 = ((i + 1 : Nat) : Int) := by omega
    rw [hs k i x hN (by omega), e1]
    exact ih k (i + 1) (by omega) (by omega)
/-- The same where a round costs c + 1 rounds of the count. -/
theorem all_loopc (c : Nat) {F : Nat → Int → Option Bool} {n : Nat} {P : Nat → Prop} {e : Bool}
    (hs : ∀ (k i : Nat), i < n → (∀ j, j < i → P j) → (P i ∧ F (k + (c + 1)) i = F k ((i : Int) + 1)) ∨ (¬ P i ∧ F (k + (c + 1)) i = some false))
    (he : ∀ k : Nat, (∀ j, j < n → P j) → F (k + 1) n = some e) : ∀ (d k i : Nat), i + d = n → d * (c + 1) < k → (∀ j, j < i → P j) →
    ∃ b, F k i = some b ∧ (b = true ↔ ((∀ j, j < n → P j) ∧ e = true)) := by
  intro d
  induction d with
  | zero =>
    intro k i hi hk hp
    obtain ⟨k, rfl⟩ : ∃ m, k = m + 1 := ⟨k - 1, by omega⟩
    obtain rfl : i = n := by omega
    exact ⟨e, he k hp, ⟨fun h => ⟨hp, h⟩, fun h => h.2⟩⟩
  | succ d ih =>
    intro k i hi hk hp
    rw [Nat.add_mul, Nat.one_mul] at hk
    obtain ⟨k, rfl⟩ : ∃ m, k = m + (c + 1) := ⟨k - (c + 1), by omega⟩
    rcases hs k i (by omega) hp with ⟨h1, h2⟩ | ⟨h1, h2⟩
    · have e1 : (i : Int) + 1 = ((i + 1 : Nat) : Int) := by omega
      rw [h2, e1]
      refine ih k (i + 1) (by omega) (by omega) (fun j hj => ?_)
      by_cases hji : j = i
      · rw [hji]; exact h1
      · exact hp j (by omega)
    · refine ⟨false, h2, ⟨(fun h => by cases h), fun h => absurd (h.1 i (by omega)) h1⟩⟩
/-- A loop that looks for something in a list, from an index on. -/
theorem find_loop {α ρ : Type} {F : Nat → Int → Option ρ} {h : List α → ρ} (t : List α)
    (hs : ∀ (k i : Nat), i < t.length → (F (k + 1) i = F k ((i : Int) + 1) ∧ h (t.drop i) = h (t.drop (i + 1))) ∨ F (k + 1) i = some (h (t.drop i)))
    (he : ∀ (k : Nat), F (k + 1) t.length = some (h [])) : ∀ (d k i : Nat), i + d = t.length → d < k → F k i = some (h (t.drop i)) := by
  intro d
  induction d with
  | zero =>
    intro k i hi hk
    obtain ⟨k, rfl⟩ : ∃ m, k = m + 1 := ⟨k - 1, by omega⟩
    obtain rfl : i = t.length := by omega
    rw [he, List.drop_length]
  | succ d ih =>
    intro k i hi hk
    obtain ⟨k, rfl⟩ : ∃ m, k = m + 1 := ⟨k - 1, by omega⟩
    rcases hs k i (by omega) with ⟨h1, h2⟩ | h1
    · have e1 : (i : Int) + 1 = ((i + 1 : Nat) : Int) := by omega
      rw [h1, e1, ih k (i + 1) (by omega) (by omega), h2]
    · exact h1
theorem drop_getD {α : Type} (t : List α) (z : α) {i : Nat} (hi : i < t.length) : t.drop i = t.getD i z :: t.drop (i + 1) := by
  rw [List.drop_eq_getElem_cons hi, List.getD_eq_getElem?_getD, List.getElem?_eq_getElem hi]; rfl
/-- A node of a graph of n nodes. -/
def Node (n x : Int) : Prop := 0 ≤ x ∧ x ≤ n - 1
instance (n x : Int) : Decidable (Node n x) := by unfold Node; infer_instance
def EAhead (a b : S76) : Prop := a.f0 < b.f0 ∨ a.f0 = b.f0 ∧ a.f1 < b.f1
/-- The edge at an index is valid and stands behind the one ahead of it. -/
def Eat (n : Int) (t : List S76) (j : Nat) : Prop :=
  Node n (rd_T76 t j).f0 ∧ Node n (rd_T76 t j).f1 ∧ (rd_T76 t j).f0 ≠ (rd_T76 t j).f1 ∧ (1 ≤ (rd_T76 t j).f2 ∧ (rd_T76 t j).f2 ≤ 1000) ∧
    (0 < j → EAhead (rd_T76 t ((j : Int) - 1)) (rd_T76 t j))
/-- A valid graph. -/
def Gok (n : Int) (t : List S76) : Prop := (1 ≤ n ∧ n ≤ 10) ∧ t.length ≤ 60 ∧ ∀ j, j < t.length → Eat n t j
theorem spec_Node {n : Int} (h : 1 ≤ n ∧ n ≤ 10) (t : List S76) (x : Int) : spec_l03Node.f n t x = some (decide (Node n x)) := by
  unfold spec_l03Node.f
  rw [w64 (by omega) (by omega), spec_In]
  rfl
theorem impl_Node {n : Int} (h : 1 ≤ n ∧ n ≤ 10) (t : List S76) (x : Int) : impl_Graph_isNode.f n t x = some (decide (Node n x)) := by
  unfold impl_Graph_isNode.f
  rw [w64 (by omega) (by omega), impl_In]
  rfl
theorem spec_edges {n : Int} (hn : 1 ≤ n ∧ n ≤ 10) {t : List S76} (h : t.length ≤ 1048576) {k : Nat} (hk : t.length * 2 < k) : ∃ b, spec_GraphOk.l0 k 0 n t = some b ∧ (b = true ↔ ∀ j, j < t.length → Eat n t j) := by
  have x := all_loopc 1 (F := fun k i => spec_GraphOk.l0 k i n t) (n := t.length) (P := Eat n t) (e := true) ?_ ?_ t.length k 0 (by omega) hk (fun j hj => by omega)
  · obtain ⟨b, h1, h2⟩ := x
    exact ⟨b, h1, by simpa using h2⟩
  · intro k i hi hp
    simp only [spec_GraphOk.l0]
    rw [if_pos (by omega), if_pos (by omega), spec_Node hn, spec_Node hn, spec_In]
    simp only [Option.bind_some, decide_eq_true_eq]
    by_cases c1 : Node n (rd_T76 t i).f0
    · rw [if_pos c1]
      by_cases c2 : Node n (rd_T76 t i).f1
      · rw [if_pos c2]
        by_cases c3 : (rd_T76 t i).f0 = (rd_T76 t i).f1
        · rw [if_pos c3]
          simp only [spec_GraphOk.j2]
          exact .inr ⟨fun h => h.2.2.1 c3, rfl⟩
        · rw [if_neg c3]
          simp only [spec_GraphOk.j2]
          by_cases c4 : 1 ≤ (rd_T76 t i).f2 ∧ (rd_T76 t i).f2 ≤ 1000
          · rw [decide_eq_true c4, if_neg (by decide)]
            by_cases c5 : i = 0
            · subst c5
              rw [if_neg (by omega), w64 (by omega) (by omega)]
              exact .inl ⟨⟨c1, c2, c3, c4, fun h => by omega⟩, rfl⟩
            · rw [if_pos (by omega), w64 (n := (i : Int) - 1) (by omega) (by omega), if_pos (by omega), if_pos (by omega), w64 (n := (i : Int) + 1) (by omega) (by omega)]
              by_cases c6 : (rd_T76 t ((i : Int) - 1)).f0 > (rd_T76 t i).f0
              · rw [if_pos c6]
                refine .inr ⟨fun h => ?_, rfl⟩
                have := h.2.2.2.2 (by omega)
                unfold EAhead at this; omega
              · rw [if_neg c6]
                by_cases c7 : (rd_T76 t ((i : Int) - 1)).f0 = (rd_T76 t i).f0
                · rw [if_pos c7]
                  by_cases c8 : (rd_T76 t ((i : Int) - 1)).f1 ≥ (rd_T76 t i).f1
                  · rw [if_pos c8]
                    refine .inr ⟨fun h => ?_, rfl⟩
                    have := h.2.2.2.2 (by omega)
                    unfold EAhead at this; omega
                  · rw [if_neg c8]
                    exact .inl ⟨⟨c1, c2, c3, c4, fun _ => .inr ⟨c7, by omega⟩⟩, rfl⟩
                · rw [if_neg c7]
                  exact .inl ⟨⟨c1, c2, c3, c4, fun _ => .inl (by omega)⟩, rfl⟩
          · rw [decide_eq_false c4]
            exact .inr ⟨fun h => c4 h.2.2.2.1, rfl⟩
      · rw [if_neg c2]
        simp only [spec_GraphOk.j2]
        exact .inr ⟨fun h => c2 h.2.1, rfl⟩
    · rw [if_neg c1]
      simp only [spec_GraphOk.j2]
      exact .inr ⟨fun h => c1 h.1, rfl⟩
  · intro k _
    simp only [spec_GraphOk.l0]
    rw [if_neg (by omega)]
theorem spec_Gok (n : Int) {t : List S76} (h : t.length ≤ 1048576) {k : Nat} (hk : t.length * 2 + 1 < k) : ∃ b, spec_GraphOk.f k n t = some b ∧ (b = true ↔ Gok n t) := by
  obtain ⟨k, rfl⟩ : ∃ m, k = m + 1 := ⟨k - 1, by omega⟩
  unfold spec_GraphOk.f Gok
  rw [spec_In]
  simp only [Option.bind_some, decide_eq_true_eq, spec_GraphOk.j0]
  by_cases hn : 1 ≤ n ∧ n ≤ 10
  · rw [if_pos hn]
    by_cases hl : (t.length : Int) > 60
    · refine ⟨false, by rw [if_pos hl], ⟨(fun h => by cases h), fun h => by omega⟩⟩
    · obtain ⟨b, h1, h2⟩ := spec_edges hn h (k := k) (by omega)
      exact ⟨b, by rw [if_neg hl, h1], by rw [h2]; exact ⟨fun x => ⟨hn, by omega, x⟩, fun x => x.2.2⟩⟩
  · rw [if_neg hn]
    exact ⟨false, rfl, ⟨(fun h => by cases h), fun h => absurd h.1 hn⟩⟩
theorem impl_CompareE {n : Int} {a b : S76} (hn : 1 ≤ n ∧ n ≤ 10) (h1 : Node n a.f0) (h2 : Node n a.f1) (h3 : Node n b.f0) (h4 : Node n b.f1) : ∃ c, impl_compareEdges.f a.f0 a.f1 a.f2 b.f0 b.f1 b.f2 = some c ∧ (¬ c ≥ 0 ↔ EAhead a b) := by
  unfold Node at h1 h2 h3 h4
  unfold impl_compareEdges.f EAhead
  by_cases h : a.f0 = b.f0
  · refine ⟨a.f1 - b.f1, by rw [if_pos h, w64 (by omega) (by omega)], by omega⟩
  · refine ⟨a.f0 - b.f0, by rw [if_neg h, w64 (by omega) (by omega)], by omega⟩
theorem impl_edges {n : Int} (hn : 1 ≤ n ∧ n ≤ 10) {t : List S76} (h : t.length ≤ 1048576) {k : Nat} (hk : t.length < k) : ∃ b, impl_GraphOk.l0 k t t.length 0 n t = some b ∧ (b = true ↔ ∀ j, j < t.length → Eat n t j) := by
  have x := all_loop (F := fun k i => impl_GraphOk.l0 k t t.length i n t) (n := t.length) (P := Eat n t) (e := true) ?_ ?_ t.length k 0 (by omega) hk (fun j hj => by omega)
  · obtain ⟨b, h1, h2⟩ := x
    exact ⟨b, h1, by simpa using h2⟩
  · intro k i hi hp
    simp only [impl_GraphOk.l0]
    rw [if_pos (by omega), if_pos (by omega), if_pos (by omega), impl_Node hn, impl_Node hn, impl_In]
    simp only [Option.bind_some, decide_eq_true_eq]
    by_cases c1 : Node n (rd_T76 t i).f0
    · rw [if_pos c1]
      by_cases c2 : Node n (rd_T76 t i).f1
      · rw [if_pos c2]
        by_cases c3 : (rd_T76 t i).f0 = (rd_T76 t i).f1
        · rw [if_pos c3]
          exact .inr ⟨fun h => h.2.2.1 c3, rfl⟩
        · rw [if_neg c3]
          by_cases c4 : 1 ≤ (rd_T76 t i).f2 ∧ (rd_T76 t i).f2 ≤ 1000
          · rw [if_pos c4]
            by_cases c5 : i = 0
            · subst c5
              rw [if_neg (by omega), w64 (by omega) (by omega)]
              exact .inl ⟨⟨c1, c2, c3, c4, fun h => by omega⟩, rfl⟩
            · rw [if_pos (by omega), w64 (n := (i : Int) - 1) (by omega) (by omega), if_pos (by omega), if_pos (by omega)]
              have e1 : (((i - 1 : Nat) : Int)) = (i : Int) - 1 := by omega
              have pv := hp (i - 1) (by omega)
              unfold Eat at pv
              rw [e1] at pv
              obtain ⟨b, hb, hb2⟩ := impl_CompareE hn pv.1 pv.2.1 c1 c2
              rw [hb]
              simp only [Option.bind_some]
              by_cases c6 : b ≥ 0
              · rw [if_pos c6]
                exact .inr ⟨fun h => hb2.2 (h.2.2.2.2 (by omega)) c6, rfl⟩
              · rw [if_neg c6, w64 (by omega) (by omega)]
                exact .inl ⟨⟨c1, c2, c3, c4, fun _ => hb2.1 c6⟩, rfl⟩
          · rw [if_neg c4]
            exact .inr ⟨fun h => c4 h.2.2.2.1, rfl⟩
      · rw [if_neg c2]
        exact .inr ⟨fun h => c2 h.2.1, rfl⟩
    · rw [if_neg c1]
      exact .inr ⟨fun h => c1 h.1, rfl⟩
  · intro k _
    simp only [impl_GraphOk.l0]
    rw [if_neg (by omega)]
theorem impl_Gok (n : Int) {t : List S76} (h : t.length ≤ 1048576) {k : Nat} (hk : t.length + 1 < k) : ∃ b, impl_GraphOk.f k n t = some b ∧ (b = true ↔ Gok n t) := by
  obtain ⟨k, rfl⟩ : ∃ m, k = m + 1 := ⟨k - 1, by omega⟩
  unfold impl_GraphOk.f Gok
  rw [impl_In]
  simp only [Option.bind_some, decide_eq_true_eq, impl_GraphOk.j0]
  by_cases hn : 1 ≤ n ∧ n ≤ 10
  · rw [if_pos hn]
    by_cases hl : (t.length : Int) > 60
    · refine ⟨false, by rw [if_pos hl], ⟨(fun h => by cases h), fun h => by omega⟩⟩
    · obtain ⟨b, h1, h2⟩ := impl_edges hn h (k := k) (by omega)
      exact ⟨b, by rw [if_neg hl, h1], by rw [h2]; exact ⟨fun x => ⟨hn, by omega, x⟩, fun x => x.2.2⟩⟩
  · rw [if_neg hn]
    exact ⟨false, rfl, ⟨(fun h => by cases h), fun h => absurd h.1 hn⟩⟩
/-- Both ask the same of a graph. -/
theorem both_Gok (n : Int) {t : List S76} (h : t.length ≤ 1048576) {k : Nat} (hk : t.length * 2 + 1 < k) : ∃ b, spec_GraphOk.f k n t = some b ∧ impl_GraphOk.f k n t = some b ∧ (b = true ↔ Gok n t) := by
  obtain ⟨b1, s1, s2⟩ := spec_Gok n h hk
  obtain ⟨b2, i1, i2⟩ := impl_Gok n h (k := k) (by omega)
  have e : b2 = b1 := by rw [Bool.eq_iff_iff, i2, s2]
  exact ⟨b1, s1, by rw [i1, e], s2⟩
/-- The cost of the edge from x to y, far where there is none. -/
def ecost : List S76 → Int → Int → Int
  | [], _, _ => 1000000
  | e :: t, x, y => if e.f0 = x then (if e.f1 = y then e.f2 else ecost t x y) else ecost t x y
def gcost (n : Int) (t : List S76) (x y : Int) : Int := if Node n x ∧ Node n y then (if x = y then 0 else ecost t x y) else 1000000
theorem rdE_get (t : List S76) (i : Nat) : rd_T76 t i = t.getD i z76 := by simp [rd_T76]
theorem Gok.mem {n : Int} {t : List S76} (h : Gok n t) {e : S76} (he : e ∈ t) : Node n e.f0 ∧ Node n e.f1 ∧ e.f0 ≠ e.f1 ∧ 1 ≤ e.f2 ∧ e.f2 ≤ 1000 := by
  obtain ⟨i, hi, rfl⟩ := List.getElem_of_mem he
  have x := h.2.2 i hi
  have e1 : rd_T76 t i = t[i] := by rw [rdE_get, List.getD_eq_getElem?_getD, List.getElem?_eq_getElem hi]; rfl
  unfold Eat at x
  rw [e1] at x
  exact ⟨x.1, x.2.1, x.2.2.1, x.2.2.2.1.1, x.2.2.2.1.2⟩
theorem ecost_mem {t : List S76} {x y : Int} (h : ecost t x y ≠ 1000000) : ∃ e ∈ t, e.f0 = x ∧ e.f1 = y ∧ ecost t x y = e.f2 := by
  induction t with
  | nil => exact absurd rfl h
  | cons e t ih =>
    simp only [ecost] at h ⊢
    by_cases h1 : e.f0 = x
    · by_cases h2 : e.f1 = y
      · rw [if_pos h1, if_pos h2]
        exact ⟨e, List.mem_cons_self, h1, h2, rfl⟩
      · rw [if_pos h1, if_neg h2] at h ⊢
        obtain ⟨e', m, r⟩ := ih h
        exact ⟨e', List.mem_cons_of_mem _ m, r⟩
    · rw [if_neg h1] at h ⊢
      obtain ⟨e', m, r⟩ := ih h
      exact ⟨e', List.mem_cons_of_mem _ m, r⟩
theorem ecost_far {n : Int} {t : List S76} (h : Gok n t) {x y : Int} (hxy : ¬ (Node n x ∧ Node n y ∧ x ≠ y)) : ecost t x y = 1000000 := by
  by_cases c : ecost t x y = 1000000
  · exact c
  · obtain ⟨e, m, h1, h2, _⟩ := ecost_mem c
    have g := h.mem m
    rw [h1, h2] at g
    exact absurd ⟨g.1, g.2.1, g.2.2.1⟩ hxy
theorem gcost_lim {n : Int} {t : List S76} (h : Gok n t) (x y : Int) : gcost n t x y = 1000000 ∨ (0 ≤ gcost n t x y ∧ gcost n t x y ≤ 1000) := by
  unfold gcost
  by_cases c : Node n x ∧ Node n y
  · rw [if_pos c]
    by_cases c2 : x = y
    · rw [if_pos c2]; exact .inr ⟨by omega, by omega⟩
    · rw [if_neg c2]
      by_cases c3 : ecost t x y = 1000000
      · exact .inl c3
      · obtain ⟨e, m, _, _, h3⟩ := ecost_mem c3
        have g := h.mem m
        rw [h3]
        exact .inr ⟨by omega, by omega⟩
  · rw [if_neg c]; exact .inl rfl
theorem spec_Cost {n : Int} (hn : 1 ≤ n ∧ n ≤ 10) {t : List S76} (h : t.length ≤ 1048576) (x y : Int) {k : Nat} (hk : t.length + 1 < k) : spec_l03Cost.f k n t x y = some (gcost n t x y) := by
  obtain ⟨k, rfl⟩ : ∃ m, k = m + 1 := ⟨k - 1, by omega⟩
  unfold spec_l03Cost.f gcost
  rw [spec_Node hn, spec_Node hn]
  simp only [Option.bind_some, decide_eq_true_eq, spec_l03Cost.j0]
  by_cases c1 : Node n x
  · by_cases c2 : Node n y
    · rw [if_pos c1, decide_eq_true c2, if_neg (by decide), if_pos (⟨c1, c2⟩ : Node n x ∧ Node n y)]
      by_cases c3 : x = y
      · rw [if_pos c3, if_pos c3]
      · rw [if_neg c3, if_neg c3]
        have z := find_loop (F := fun k i => spec_l03Cost.l0 k x y i n t) (h := fun l => ecost l x y) t ?_ ?_ t.length k 0 (by omega) (by omega)
        · exact z
        · intro k i hi
          simp only [spec_l03Cost.l0]
          rw [if_pos (by omega), if_pos (by omega), w64 (by omega) (by omega), drop_getD t z76 hi, ← rdE_get]
          simp only [ecost]
          by_cases d1 : (rd_T76 t i).f0 = x
          · by_cases d2 : (rd_T76 t i).f1 = y
            · rw [if_pos d1, if_pos d2, if_pos d1, if_pos d2]; exact .inr rfl
            · rw [if_pos d1, if_neg d2, if_pos d1, if_neg d2]; exact .inl ⟨rfl, rfl⟩
          · rw [if_neg d1, if_neg d1]; exact .inl ⟨rfl, rfl⟩
        · intro k
          simp only [spec_l03Cost.l0]
          rw [if_neg (by omega)]; rfl
    · rw [if_pos c1, decide_eq_false c2, if_pos (by decide), if_neg (c := Node n x ∧ Node n y) (fun z => c2 z.2)]
  · rw [if_neg c1, if_pos trivial, if_neg (c := Node n x ∧ Node n y) (fun z => c1 z.1)]
theorem rd_getI (t : List Int) (i : Nat) : rd t i = t.getD i 0 := by simp [rd]
/-- One edge more: the way over it, where it is shorter. -/
def relax (o : List Int) (e : S76) : List Int := if rd o e.f0 < 1000000 then o.set e.f1.toNat (mn (rd o e.f1) (rd o e.f0 + e.f2)) else o
def relaxAll (t : List S76) (o : List Int) : List Int := t.foldl relax o
def rounds (t : List S76) : Nat → List Int → List Int
  | 0, o => o
  | d + 1, o => rounds t d (relaxAll t o)
/-- The distances from a node. -/
def dist (n : Int) (t : List S76) (x : Int) : List Int := rounds t n.toNat ((List.replicate n.toNat 1000000).set x.toNat 0)
/-- Distances of n nodes: all between 0 and far. -/
def Dok (n : Int) (o : List Int) : Prop := (o.length : Int) = n ∧ ∀ v ∈ o, 0 ≤ v ∧ v ≤ 1000000
theorem rd_mem {o : List Int} {i : Int} (h0 : 0 ≤ i) (h : i < o.length) : rd o i ∈ o := by
  unfold rd
  have hi : i.toNat < o.length := by omega
  rw [List.getD_eq_getElem?_getD, List.getElem?_eq_getElem hi]
  exact List.getElem_mem hi
theorem mn_le (a b : Int) : mn a b ≤ a ∧ mn a b ≤ b := by unfold mn; split <;> omega
theorem Dok.relax {n : Int} {t : List S76} (g : Gok n t) {e : S76} (he : e ∈ t) {o : List Int} (h : Dok n o) : Dok n (relax o e) := by
  obtain ⟨a1, a2, a3, a4, a5⟩ := g.mem he
  unfold Node at a1 a2
  have b1 := h.2 _ (rd_mem (o := o) (i := e.f0) a1.1 (by have := h.1; omega))
  have b2 := h.2 _ (rd_mem (o := o) (i := e.f1) a2.1 (by have := h.1; omega))
  unfold Pure.relax
  by_cases c : rd o e.f0 < 1000000
  · rw [if_pos c]
    refine ⟨by rw [List.length_set]; exact h.1, fun v hv => ?_⟩
    rcases List.mem_or_eq_of_mem_set hv with hv | rfl
    · exact h.2 v hv
    · have := mn_le (rd o e.f1) (rd o e.f0 + e.f2)
      refine ⟨?_, by omega⟩
      unfold mn; split <;> omega
  · rw [if_neg c]; exact h
theorem set_self {o : List Int} {i : Nat} (h : i < o.length) : o.set i (o.getD i 0) = o := by
  apply List.ext_getElem?
  intro j
  rw [List.getElem?_set]
  by_cases c : i = j
  · subst c; rw [if_pos rfl, if_pos h, List.getD_eq_getElem?_getD, List.getElem?_eq_getElem h]; rfl
  · rw [if_neg c]
theorem Dok.all {n : Int} {t : List S76} (g : Gok n t) {o : List Int} (h : Dok n o) : ∀ (s : List S76), (∀ e ∈ s, e ∈ t) → Dok n (s.foldl Pure.relax o) := by
  intro s
  induction s generalizing o with
  | nil => intro _; exact h
  | cons e s ih =>
    intro hs
    exact ih (h.relax g (hs e List.mem_cons_self)) (fun e' he' => hs e' (List.mem_cons_of_mem _ he'))
theorem spec_inner {n : Int} {t : List S76} (g : Gok n t) (k : Nat) (r : Int) : ∀ (d i K : Nat) (o : List Int), i + d = t.length → K = k + d + 1 → Dok n o →
    spec_Distances.l2 K o r i n t = spec_Distances.l1 k ((t.drop i).foldl relax o) (wrap64 (r + 1)) n t := by
  have hl : t.length ≤ 60 := g.2.1
  intro d
  induction d with
  | zero =>
    intro i K o hi hK ho
    obtain rfl : i = t.length := by omega
    obtain rfl : K = k + 1 := by omega
    simp only [spec_Distances.l2]
    rw [if_neg (by omega), List.drop_length]; rfl
  | succ d ih =>
    intro i K o hi hK ho
    obtain ⟨K, rfl⟩ : ∃ m, K = m + 1 := ⟨K - 1, by omega⟩
    have hil : i < t.length := by omega
    have e1 : (i : Int) + 1 = ((i + 1 : Nat) : Int) := by omega
    have hmem : rd_T76 t i ∈ t := by
      rw [rdE_get, List.getD_eq_getElem?_getD, List.getElem?_eq_getElem hil]; exact List.getElem_mem hil
    obtain ⟨a1, a2, a3, a4, a5⟩ := g.mem hmem
    have hd := ho.relax g hmem
    have hlen := ho.1
    unfold Node at a1 a2
    have b1 := ho.2 _ (rd_mem (o := o) (i := (rd_T76 t i).f0) a1.1 (by omega))
    simp only [spec_Distances.l2]
    rw [if_pos (by omega), if_pos (by omega), if_pos a1.1, if_pos (by omega), w64 (n := (i : Int) + 1) (by omega) (by omega), e1, drop_getD t z76 hil, ← rdE_get, List.foldl_cons]
    by_cases c : rd o (rd_T76 t i).f0 < 1000000
    · rw [if_pos c, if_pos a2.1, if_pos (by omega), w64 (by omega) (by omega)]
      by_cases c2 : rd o (rd_T76 t i).f0 + (rd_T76 t i).f2 < rd o (rd_T76 t i).f1
      · have er : Pure.relax o (rd_T76 t i) = o.set (rd_T76 t i).f1.toNat (rd o (rd_T76 t i).f0 + (rd_T76 t i).f2) := by
          unfold Pure.relax mn; rw [if_pos c, if_pos c2]
        rw [if_pos c2, ← er, ih (i + 1) K _ (by omega) (by omega) hd]
      · have er : Pure.relax o (rd_T76 t i) = o := by
          unfold Pure.relax mn
          rw [if_pos c, if_neg c2]
          exact set_self (by omega)
        rw [if_neg c2, er, ih (i + 1) K _ (by omega) (by omega) ho]
    · have er : Pure.relax o (rd_T76 t i) = o := by unfold Pure.relax; rw [if_neg c]
      rw [if_neg c, er, ih (i + 1) K _ (by omega) (by omega) ho]
theorem spec_outer {n : Int} {t : List S76} (g : Gok n t) : ∀ (d k i : Nat) (o : List Int), (i : Int) + d = n → d * (t.length + 2) < k → Dok n o →
    spec_Distances.l1 k o i n t = some (rounds t d o) := by
  have hn := g.1
  intro d
  induction d with
  | zero =>
    intro k i o hi hk ho
    obtain ⟨k, rfl⟩ : ∃ m, k = m + 1 := ⟨k - 1, by omega⟩
    simp only [spec_Distances.l1]
    rw [if_neg (by omega)]; rfl
  | succ d ih =>
    intro k i o hi hk ho
    rw [Nat.add_mul, Nat.one_mul] at hk
    obtain ⟨k, rfl⟩ : ∃ m, k = (m + t.length + 1) + 1 := ⟨k - t.length - 2, by omega⟩
    have e1 : (i : Int) + 1 = ((i + 1 : Nat) : Int) := by omega
    have z := spec_inner g k i t.length 0 (k + t.length + 1) o (by omega) rfl ho
    have z' : spec_Distances.l2 (k + t.length + 1) o i 0 n t = spec_Distances.l1 k (relaxAll t o) (wrap64 ((i : Int) + 1)) n t := z
    simp only [spec_Distances.l1]
    rw [if_pos (by omega), z', w64 (by omega) (by omega), e1, ih k (i + 1) (relaxAll t o) (by omega) (by omega) (ho.all g t (fun e he => he))]
    rfl
theorem Dok.start {n x : Int} (hn : 1 ≤ n ∧ n ≤ 10) : Dok n ((List.replicate n.toNat 1000000).set x.toNat 0) := by
  refine ⟨by rw [List.length_set, List.length_replicate]; omega, fun v hv => ?_⟩
  rcases List.mem_or_eq_of_mem_set hv with hv | rfl
  · rw [List.eq_of_mem_replicate hv]; omega
  · omega
theorem spec_fars {n x : Int} {t : List S76} (g : Gok n t) (hx : Node n x) (k : Nat) : ∀ (d i K : Nat), (i : Int) + d = n → K = k + d + 1 →
    spec_Distances.l0 K x (List.replicate i 1000000) i n t = spec_Distances.l1 k ((List.replicate n.toNat 1000000).set x.toNat 0) 0 n t := by
  have hn := g.1
  unfold Node at hx
  intro d
  induction d with
  | zero =>
    intro i K hi hK
    have e : n.toNat = i := by omega
    obtain rfl : K = k + 1 := by omega
    simp only [spec_Distances.l0]
    rw [if_neg (by omega), if_pos hx.1, List.length_replicate, if_pos (by omega), e]
  | succ d ih =>
    intro i K hi hK
    have e1 : (i : Int) + 1 = ((i + 1 : Nat) : Int) := by omega
    obtain ⟨K, rfl⟩ : ∃ m, K = m + 1 := ⟨K - 1, by omega⟩
    simp only [spec_Distances.l0]
    rw [if_pos (by omega), List.length_replicate, if_pos (by omega), w64 (by omega) (by omega), e1, ← List.replicate_succ', ih (i + 1) K (by omega) (by omega)]
theorem spec_Dist {n : Int} {t : List S76} (h : t.length ≤ 1048576) (x : Int) {k : Nat} (hk : t.length * 12 + 60 < k) :
    ∃ b : Bool, (b = true ↔ (Gok n t ∧ Node n x)) ∧ spec_Distances.f k n t x = some (if b = true then dist n t x else []) := by
  obtain ⟨k, rfl⟩ : ∃ m, k = m + 1 := ⟨k - 1, by omega⟩
  obtain ⟨b, h1, _, h3⟩ := both_Gok n h (k := k + 1) (by omega)
  unfold spec_Distances.f
  rw [h1]
  simp only [Option.bind_some, spec_Distances.j0]
  by_cases c : b = true
  · have g := h3.1 c
    have hn := g.1
    have hl : t.length ≤ 60 := g.2.1
    rw [if_pos c, spec_Node hn]
    simp only [Option.bind_some]
    by_cases c2 : Node n x
    · rw [decide_eq_true c2, if_neg (by decide)]
      refine ⟨true, ⟨fun _ => ⟨g, c2⟩, fun _ => rfl⟩, ?_⟩
      obtain ⟨k, rfl⟩ : ∃ m, k = m + n.toNat + 1 := ⟨k - n.toNat - 1, by omega⟩
      have z := spec_fars g c2 k n.toNat 0 (k + n.toNat + 1) (by omega) rfl
      have hm : n.toNat * (t.length + 2) ≤ 10 * (t.length + 2) := Nat.mul_le_mul_right _ (by omega)
      have z2 := spec_outer g n.toNat k 0 _ (by omega) (by omega) (Dok.start (x := x) hn)
      have z' : spec_Distances.l0 (k + n.toNat + 1) x [] 0 n t = _ := z
      rw [z']
      exact z2
    · rw [decide_eq_false c2, if_pos (by decide)]
      exact ⟨false, ⟨(fun h => by cases h), fun h => absurd h.2 c2⟩, rfl⟩
  · rw [if_neg c, if_pos trivial]
    exact ⟨false, ⟨(fun h => by cases h), fun h => absurd (h3.2 h.1) c⟩, rfl⟩
theorem impl_inner {n : Int} {t : List S76} (g : Gok n t) (k : Nat) (r : Int) : ∀ (d i K : Nat) (o : List Int), i + d = t.length → K = k + d + 1 → Dok n o →
    impl_Graph_distances.l1 K o n r t t.length i n t = impl_Graph_distances.l0 k ((t.drop i).foldl relax o) n (wrap64 (r + 1)) n t := by
  have hl : t.length ≤ 60 := g.2.1
  intro d
  induction d with
  | zero =>
    intro i K o hi hK ho
    obtain rfl : i = t.length := by omega
    obtain rfl : K = k + 1 := by omega
    simp only [impl_Graph_distances.l1]
    rw [if_neg (by omega), List.drop_length]; rfl
  | succ d ih =>
    intro i K o hi hK ho
    obtain ⟨K, rfl⟩ : ∃ m, K = m + 1 := ⟨K - 1, by omega⟩
    have hil : i < t.length := by omega
    have e1 : (i : Int) + 1 = ((i + 1 : Nat) : Int) := by omega
    have hmem : rd_T76 t i ∈ t := by
      rw [rdE_get, List.getD_eq_getElem?_getD, List.getElem?_eq_getElem hil]; exact List.getElem_mem hil
    obtain ⟨a1, a2, a3, a4, a5⟩ := g.mem hmem
    have hd := ho.relax g hmem
    have hlen := ho.1
    unfold Node at a1 a2
    have b1 := ho.2 _ (rd_mem (o := o) (i := (rd_T76 t i).f0) a1.1 (by omega))
    simp only [impl_Graph_distances.l1]
    rw [if_pos (by omega), if_pos (by omega), if_pos (by omega), if_pos a1.1, if_pos (by omega), w64 (n := (i : Int) + 1) (by omega) (by omega), e1, drop_getD t z76 hil, ← rdE_get, List.foldl_cons]
    by_cases c : rd o (rd_T76 t i).f0 < 1000000
    · have er : Pure.relax o (rd_T76 t i) = o.set (rd_T76 t i).f1.toNat (mn (rd o (rd_T76 t i).f1) (rd o (rd_T76 t i).f0 + (rd_T76 t i).f2)) := by
        unfold Pure.relax; rw [if_pos c]
      rw [if_pos c, if_pos a2.1, if_pos (by omega), w64 (by omega) (by omega), ← er, ih (i + 1) K _ (by omega) (by omega) hd]
    · have er : Pure.relax o (rd_T76 t i) = o := by unfold Pure.relax; rw [if_neg c]
      rw [if_neg c, er, ih (i + 1) K _ (by omega) (by omega) ho]
theorem impl_outer {n : Int} {t : List S76} (g : Gok n t) : ∀ (d k i : Nat) (o : List Int), (i : Int) + d = n → d * (t.length + 2) < k → Dok n o →
    impl_Graph_distances.l0 k o n i n t = some (rounds t d o) := by
  have hn := g.1
  intro d
  induction d with
  | zero =>
    intro k i o hi hk ho
    obtain ⟨k, rfl⟩ : ∃ m, k = m + 1 := ⟨k - 1, by omega⟩
    simp only [impl_Graph_distances.l0]
    rw [if_neg (by omega)]; rfl
  | succ d ih =>
    intro k i o hi hk ho
    rw [Nat.add_mul, Nat.one_mul] at hk
    obtain ⟨k, rfl⟩ : ∃ m, k = (m + t.length + 1) + 1 := ⟨k - t.length - 2, by omega⟩
    have e1 : (i : Int) + 1 = ((i + 1 : Nat) : Int) := by omega
    have z := impl_inner g k i t.length 0 (k + t.length + 1) o (by omega) rfl ho
    have z' : impl_Graph_distances.l1 (k + t.length + 1) o n i t t.length 0 n t = impl_Graph_distances.l0 k (relaxAll t o) n (wrap64 ((i : Int) + 1)) n t := z
    simp only [impl_Graph_distances.l0]
    rw [if_pos (by omega), z', w64 (by omega) (by omega), e1, ih k (i + 1) (relaxAll t o) (by omega) (by omega) (ho.all g t (fun e he => he))]
    rfl
theorem impl_dist {n : Int} {t : List S76} (g : Gok n t) {x : Int} (hx : Node n x) {k : Nat} (hk : t.length * 12 + 60 < k) : impl_Graph_distances.f k n t x = some (dist n t x) := by
  have hn := g.1
  have hl : t.length ≤ 60 := g.2.1
  have hx2 := hx
  unfold Node at hx2
  have hm : n.toNat * (t.length + 2) ≤ 10 * (t.length + 2) := Nat.mul_le_mul_right _ (by omega)
  unfold impl_Graph_distances.f slices_Repeat_int_int.f
  have e1 : ([1000000] : List Int).length = 1 := rfl
  rw [if_pos e1, if_pos (by omega), if_pos (by omega)]
  have e2 : rd ([1000000] : List Int) 0 = 1000000 := rfl
  simp only [Option.bind_some, e2]
  rw [if_pos hx2.1, List.length_replicate, if_pos (by omega)]
  exact impl_outer g n.toNat k 0 _ (by omega) (by omega) (Dok.start (x := x) hn)
theorem spec_Dist' {n : Int} {t : List S76} (g : Gok n t) {x : Int} (hx : Node n x) {k : Nat} (hk : t.length * 12 + 60 < k) : spec_Distances.f k n t x = some (dist n t x) := by
  have hl : t.length ≤ 60 := g.2.1
  obtain ⟨b, h1, h2⟩ := spec_Dist (n := n) (t := t) (by omega) x hk
  rw [h2, if_pos (h1.2 ⟨g, hx⟩)]
theorem Dok.rounds {n : Int} {t : List S76} (g : Gok n t) : ∀ (d : Nat) {o : List Int}, Dok n o → Dok n (Pure.rounds t d o) := by
  intro d
  induction d with
  | zero => intro o h; exact h
  | succ d ih => intro o h; exact ih (h.all g t (fun e he => he))
theorem dist_ok {n : Int} {t : List S76} (g : Gok n t) (x : Int) : Dok n (dist n t x) := Dok.rounds g _ (Dok.start g.1)
/-- The distance between two nodes. -/
def D (n : Int) (t : List S76) (x y : Int) : Int := rd (dist n t x) y
theorem D_lim {n : Int} {t : List S76} (g : Gok n t) (x : Int) {y : Int} (hy : Node n y) : 0 ≤ D n t x y ∧ D n t x y ≤ 1000000 := by
  have h := dist_ok g x
  unfold Node at hy
  have := h.1
  exact h.2 _ (rd_mem hy.1 (by omega))
/-- All distances, row by row. -/
def allD (n : Int) (t : List S76) : List (List Int) := (List.range n.toNat).map fun (i : Nat) => dist n t i
theorem allD_len {n : Int} (h : 1 ≤ n ∧ n ≤ 10) (t : List S76) : ((allD n t).length : Int) = n := by
  simp [allD]; omega
theorem allD_rd {n : Int} (t : List S76) {x : Int} (hx : Node n x) : rd_L3 (allD n t) x = dist n t x := by
  unfold Node at hx
  unfold rd_L3 allD
  have h1 : x.toNat < n.toNat := by omega
  rw [List.getD_eq_getElem?_getD, List.getElem?_map, List.getElem?_range h1]
  simp only [Option.map_some, Option.getD_some]
  have e : ((x.toNat : Nat) : Int) = x := by omega
  rw [e]
theorem impl_all {n : Int} {t : List S76} (g : Gok n t) {k : Nat} (hk : t.length * 12 + 80 < k) : impl_Graph_all.f k n t = some (allD n t) := by
  have hn := g.1
  have key : ∀ (d k i : Nat), (i : Int) + d = n → d + (t.length * 12 + 62) < k → impl_Graph_all.l0 k ((List.range i).map fun (j : Nat) => dist n t j) n i n t = some (allD n t) := by
    intro d
    induction d with
    | zero =>
      intro k i hi hk
      obtain ⟨k, rfl⟩ : ∃ m, k = m + 1 := ⟨k - 1, by omega⟩
      simp only [impl_Graph_all.l0]
      rw [if_neg (by omega)]
      unfold allD
      have e : n.toNat = i := by omega
      rw [e]
    | succ d ih =>
      intro k i hi hk
      obtain ⟨k, rfl⟩ : ∃ m, k = m + 1 := ⟨k - 1, by omega⟩
      have e1 : (i : Int) + 1 = ((i + 1 : Nat) : Int) := by omega
      simp only [impl_Graph_all.l0]
      rw [if_pos (by omega), impl_dist g (⟨by omega, by omega⟩ : Node n i) (by omega)]
      simp only [Option.bind_some]
      rw [if_pos (by simp; omega), w64 (by omega) (by omega), e1, ← ih k (i + 1) (by omega) (by omega), List.range_succ, List.map_append]
      rfl
  have z := key n.toNat k 0 (by omega) (by omega)
  exact z
/-- A walk of edges, and what it costs. -/
inductive Walk (t : List S76) (x : Int) : Int → Int → Prop
  | nil : Walk t x x 0
  | snoc {y c : Int} (e : S76) : Walk t x y c → e ∈ t → e.f0 = y → Walk t x e.f1 (c + e.f2)
theorem Walk.nonneg {n : Int} {t : List S76} (g : Gok n t) {x y c : Int} (h : Walk t x y c) : 0 ≤ c := by
  induction h with
  | nil => exact Int.le_refl _
  | snoc e _ he _ ih => have := (g.mem he).2.2.2; omega
theorem Walk.node {n : Int} {t : List S76} (g : Gok n t) {x y c : Int} (hx : Node n x) (h : Walk t x y c) : Node n y := by
  cases h with
  | nil => exact hx
  | snoc e _ he _ => exact (g.mem he).2.1
theorem Walk.trans {t : List S76} {x y z c d : Int} (h : Walk t x y c) (h2 : Walk t y z d) : Walk t x z (c + d) := by
  induction h2 with
  | nil => rw [Int.add_zero]; exact h
  | snoc e _ he h0 ih => rw [← Int.add_assoc]; exact .snoc e ih he h0
theorem Walk.edge {t : List S76} {e : S76} (he : e ∈ t) : Walk t e.f0 e.f1 e.f2 := by
  have := Walk.snoc (x := e.f0) e .nil he rfl
  rwa [Int.zero_add] at this
theorem Walk.least {n : Int} {t : List S76} (g : Gok n t) {x y : Int} : ∀ (N : Nat) (c : Int), c.toNat ≤ N → Walk t x y c → ∃ c0, Walk t x y c0 ∧ c0 ≤ c ∧ ∀ c', Walk t x y c' → c0 ≤ c' := by
  intro N
  induction N with
  | zero =>
    intro c hc h
    exact ⟨c, h, Int.le_refl _, fun c' h' => by have := h'.nonneg g; have := h.nonneg g; omega⟩
  | succ N ih =>
    intro c hc h
    by_cases q : ∃ c', Walk t x y c' ∧ c' < c
    · obtain ⟨c', h', hlt⟩ := q
      have := h'.nonneg g
      obtain ⟨c0, a, b, d⟩ := ih c' (by omega) h'
      exact ⟨c0, a, by omega, d⟩
    · exact ⟨c, h, Int.le_refl _, fun c' h' => Int.not_lt.1 (fun hlt => q ⟨c', h', hlt⟩)⟩
theorem filter_le' {α : Type} (p q : α → Bool) : ∀ l : List α, (∀ a ∈ l, p a = true → q a = true) → (l.filter p).length ≤ (l.filter q).length
  | [], _ => Nat.le_refl _
  | a :: l, h => by
    have ih := filter_le' p q l (fun b hb => h b (List.mem_cons_of_mem _ hb))
    have ha := h a List.mem_cons_self
    rw [List.filter_cons, List.filter_cons]
    by_cases c : p a = true
    · rw [if_pos c, if_pos (ha c)]
      simp only [List.length_cons]
      omega
    · rw [if_neg c]
      by_cases c2 : q a = true
      · rw [if_pos c2]
        simp only [List.length_cons]
        omega
      · rw [if_neg c2]
        exact ih
theorem filter_lt' {α : Type} (p q : α → Bool) : ∀ l : List α, (∀ a ∈ l, p a = true → q a = true) → (∃ a ∈ l, q a = true ∧ ¬ p a = true) → (l.filter p).length < (l.filter q).length
  | [], _, h => by obtain ⟨a, ha, _⟩ := h; cases ha
  | a :: l, h, h2 => by
    have ha := h a List.mem_cons_self
    have hl : ∀ b ∈ l, p b = true → q b = true := fun b hb => h b (List.mem_cons_of_mem _ hb)
    rw [List.filter_cons, List.filter_cons]
    by_cases c : q a = true ∧ ¬ p a = true
    · have := filter_le' p q l hl
      rw [if_neg c.2, if_pos c.1]
      simp only [List.length_cons]
      omega
    · obtain ⟨b, hb, hq⟩ := h2
      have hb2 : b ∈ l := by
        rcases List.mem_cons.1 hb with rfl | hb
        · exact absurd hq c
        · exact hb
      have ih := filter_lt' p q l hl ⟨b, hb2, hq⟩
      by_cases c2 : p a = true
      · rw [if_pos c2, if_pos (ha c2)]
        simp only [List.length_cons]
        omega
      · rw [if_neg c2, if_neg (fun h => c ⟨h, c2⟩)]
        exact ih
open Classical in
/-- How many nodes can be reached for less than c. -/
noncomputable def rk (n : Int) (t : List S76) (x c : Int) : Nat := ((List.range n.toNat).filter fun (u : Nat) => decide (∃ c', Walk t x (u : Int) c' ∧ c' < c)).length
theorem rk_le {n : Int} (t : List S76) (x c : Int) : rk n t x c ≤ n.toNat := by
  unfold rk
  exact Nat.le_trans (List.length_filter_le _ _) (by rw [List.length_range]; exact Nat.le_refl _)
open Classical in
theorem rk_lt {n : Int} {t : List S76} (x : Int) {y c d : Int} (hy : Node n y) (h : Walk t x y c) (hm : ∀ c', Walk t x y c' → c ≤ c') (hcd : c < d) : rk n t x c < rk n t x d := by
  unfold Node at hy
  unfold rk
  refine filter_lt' _ _ _ (fun u _ hu => ?_) ⟨y.toNat, List.mem_range.2 (by omega), ?_⟩
  · obtain ⟨c', h1, h2⟩ := of_decide_eq_true hu
    exact decide_eq_true ⟨c', h1, by omega⟩
  · have e : ((y.toNat : Nat) : Int) = y := by omega
    rw [e]
    refine ⟨decide_eq_true ⟨c, h, hcd⟩, fun hh => ?_⟩
    obtain ⟨c', h1, h2⟩ := of_decide_eq_true hh
    have := hm c' h1
    omega
theorem rdn_set {o : List Int} {i j : Int} (v : Int) (h0 : 0 ≤ i) (h1 : i < o.length) (hj : 0 ≤ j) : rd (o.set i.toNat v) j = if i = j then v else rd o j := by
  unfold rd
  rw [List.getD_eq_getElem?_getD, List.getD_eq_getElem?_getD, List.getElem?_set]
  by_cases c : i = j
  · subst c
    rw [if_pos rfl, if_pos (by omega), if_pos rfl]
    rfl
  · rw [if_neg (by omega), if_neg c]
theorem relax_le {n : Int} {t : List S76} (g : Gok n t) {e : S76} (he : e ∈ t) {o : List Int} (h : Dok n o) {v : Int} (hv : Node n v) : rd (Pure.relax o e) v ≤ rd o v := by
  obtain ⟨a1, a2, a3, a4, a5⟩ := g.mem he
  unfold Node at a1 a2 hv
  have := h.1
  unfold Pure.relax
  by_cases c : rd o e.f0 < 1000000
  · rw [if_pos c, rdn_set _ a2.1 (by omega) hv.1]
    by_cases q : e.f1 = v
    · rw [if_pos q, q]
      exact (mn_le _ _).1
    · rw [if_neg q]
      exact Int.le_refl _
  · rw [if_neg c]
    exact Int.le_refl _
theorem relax_at {n : Int} {t : List S76} (g : Gok n t) {e : S76} (he : e ∈ t) {o : List Int} (h : Dok n o) (c : rd o e.f0 < 1000000) : rd (Pure.relax o e) e.f1 ≤ rd o e.f0 + e.f2 := by
  obtain ⟨a1, a2, a3, a4, a5⟩ := g.mem he
  unfold Node at a1 a2
  have := h.1
  unfold Pure.relax
  rw [if_pos c, rdn_set _ a2.1 (by omega) a2.1, if_pos rfl]
  exact (mn_le _ _).2
theorem fold_le {n : Int} {t : List S76} (g : Gok n t) {v : Int} (hv : Node n v) : ∀ (s : List S76) (o : List Int), (∀ e ∈ s, e ∈ t) → Dok n o → rd (s.foldl Pure.relax o) v ≤ rd o v := by
  intro s
  induction s with
  | nil => intro o _ _; exact Int.le_refl _
  | cons e s ih =>
    intro o hs h
    have he := hs e List.mem_cons_self
    have a := ih (Pure.relax o e) (fun b hb => hs b (List.mem_cons_of_mem _ hb)) (h.relax g he)
    have b := relax_le g he h hv
    exact Int.le_trans a b
theorem fold_at {n : Int} {t : List S76} (g : Gok n t) {e : S76} : ∀ (s : List S76) (o : List Int), (∀ e ∈ s, e ∈ t) → Dok n o → e ∈ s → rd o e.f0 < 1000000 → rd (s.foldl Pure.relax o) e.f1 ≤ rd o e.f0 + e.f2 := by
  intro s
  induction s with
  | nil => intro o _ _ h; cases h
  | cons a s ih =>
    intro o hs h he c
    have ha := hs a List.mem_cons_self
    have hs' : ∀ b ∈ s, b ∈ t := fun b hb => hs b (List.mem_cons_of_mem _ hb)
    have het := hs e he
    obtain ⟨a1, a2, _⟩ := g.mem het
    rcases List.mem_cons.1 he with rfl | he
    · exact Int.le_trans (fold_le g a2 s _ hs' (h.relax g ha)) (relax_at g ha h c)
    · have q := relax_le g ha h a1
      have := ih (Pure.relax o a) hs' (h.relax g ha) he (by omega)
      show rd (s.foldl Pure.relax (Pure.relax o a)) e.f1 ≤ _
      omega
theorem rounds_succ (t : List S76) : ∀ (d : Nat) (o : List Int), Pure.rounds t (d + 1) o = relaxAll t (Pure.rounds t d o)
  | 0, _ => rfl
  | d + 1, o => rounds_succ t d (relaxAll t o)
/-- What is told of a node is the cost of a walk. -/
def Real (n : Int) (t : List S76) (x : Int) (o : List Int) : Prop := ∀ v, Node n v → rd o v < 1000000 → Walk t x v (rd o v)
theorem Real.relax {n : Int} {t : List S76} (g : Gok n t) {x : Int} {e : S76} (he : e ∈ t) {o : List Int} (h : Dok n o) (r : Real n t x o) : Real n t x (Pure.relax o e) := by
  intro v hv hl
  obtain ⟨a1, a2, a3, a4, a5⟩ := g.mem he
  have b1 := a1
  have b2 := a2
  have bv := hv
  unfold Node at b1 b2 bv
  have := h.1
  unfold Pure.relax at hl ⊢
  by_cases c : rd o e.f0 < 1000000
  · rw [if_pos c, rdn_set _ b2.1 (by omega) bv.1] at hl ⊢
    by_cases q : e.f1 = v
    · rw [if_pos q] at hl ⊢
      subst q
      unfold mn at hl ⊢
      by_cases d : rd o e.f0 + e.f2 < rd o e.f1
      · rw [if_pos d]
        exact .snoc e (r _ a1 c) he rfl
      · rw [if_neg d] at hl ⊢
        exact r _ a2 hl
    · rw [if_neg q] at hl ⊢
      exact r v hv hl
  · rw [if_neg c] at hl ⊢
    exact r v hv hl
theorem Real.fold {n : Int} {t : List S76} (g : Gok n t) {x : Int} : ∀ (s : List S76) (o : List Int), (∀ e ∈ s, e ∈ t) → Dok n o → Real n t x o → Real n t x (s.foldl Pure.relax o) := by
  intro s
  induction s with
  | nil => intro o _ _ r; exact r
  | cons e s ih =>
    intro o hs h r
    have he := hs e List.mem_cons_self
    exact ih _ (fun b hb => hs b (List.mem_cons_of_mem _ hb)) (h.relax g he) (r.relax g he h)
theorem Real.rounds {n : Int} {t : List S76} (g : Gok n t) {x : Int} : ∀ (d : Nat) (o : List Int), Dok n o → Real n t x o → Real n t x (Pure.rounds t d o) := by
  intro d
  induction d with
  | zero => intro o _ r; exact r
  | succ d ih => intro o h r; exact ih _ (h.all g t (fun e he => he)) (Real.fold g t o (fun e he => he) h r)
theorem rd_rep' {m : Nat} {v i : Int} (h0 : 0 ≤ i) (h1 : i < m) : rd (List.replicate m v) i = v := by
  unfold rd
  rw [List.getD_eq_getElem?_getD, List.getElem?_replicate, if_pos (by omega)]
  rfl
theorem start_rd {n x v : Int} (hx : Node n x) (hv : Node n v) : rd ((List.replicate n.toNat 1000000).set x.toNat 0) v = if x = v then 0 else 1000000 := by
  unfold Node at hx hv
  rw [rdn_set _ hx.1 (by rw [List.length_replicate]; omega) hv.1, rd_rep' hv.1 (by omega)]
theorem Real.start {n x : Int} (t : List S76) (hx : Node n x) : Real n t x ((List.replicate n.toNat 1000000).set x.toNat 0) := by
  intro v hv hl
  rw [start_rd hx hv] at hl ⊢
  by_cases c : x = v
  · rw [if_pos c, ← c]
    exact .nil
  · rw [if_neg c] at hl
    exact absurd hl (by omega)
theorem D_walk {n : Int} {t : List S76} (g : Gok n t) {x y : Int} (hx : Node n x) (hy : Node n y) (h : D n t x y < 1000000) : Walk t x y (D n t x y) :=
  Real.rounds g _ _ (Dok.start g.1) (Real.start t hx) y hy h
theorem conv {n : Int} {t : List S76} (g : Gok n t) {x : Int} (hx : Node n x) : ∀ (N : Nat) (v c : Int), c.toNat ≤ N → Walk t x v c → (∀ c', Walk t x v c' → c ≤ c') →
    c ≤ 1000 * (rk n t x c : Int) ∧ ∀ r, rk n t x c ≤ r → rd (Pure.rounds t r ((List.replicate n.toNat 1000000).set x.toNat 0)) v ≤ c := by
  have hn := g.1
  have s0 := Dok.start (x := x) hn
  have base : ∀ r, rd (Pure.rounds t r ((List.replicate n.toNat 1000000).set x.toNat 0)) x ≤ 0 := by
    intro r
    induction r with
    | zero =>
      show rd ((List.replicate n.toNat 1000000).set x.toNat 0) x ≤ 0
      rw [start_rd hx hx, if_pos rfl]
      exact Int.le_refl _
    | succ r ih =>
      rw [rounds_succ]
      exact Int.le_trans (fold_le g hx t _ (fun e he => he) (Dok.rounds g r s0)) ih
  intro N
  induction N with
  | zero =>
    intro v c hN h hm
    cases h with
    | nil => exact ⟨by omega, fun r _ => base r⟩
    | snoc e h1 he h0 =>
      have := h1.nonneg g
      have := (g.mem he).2.2.2
      omega
  | succ N ih =>
    intro v c hN h hm
    cases h with
    | nil => exact ⟨by omega, fun r _ => base r⟩
    | @snoc y c1 e h1 he h0 =>
      subst h0
      obtain ⟨a1, a2, a3, a4, a5⟩ := g.mem he
      have p1 := h1.nonneg g
      have m1 : ∀ c', Walk t x e.f0 c' → c1 ≤ c' := fun c' h' => by
        have := hm _ (.snoc e h' he rfl)
        omega
      obtain ⟨q1, q2⟩ := ih e.f0 c1 (by omega) h1 m1
      have hr := rk_lt (n := n) x (d := c1 + e.f2) a1 h1 m1 (by omega)
      refine ⟨by omega, fun r hrr => ?_⟩
      obtain ⟨r', rfl⟩ : ∃ r', r = r' + 1 := ⟨r - 1, by omega⟩
      have z := q2 r' (by omega)
      have hk := rk_le (n := n) t x c1
      rw [rounds_succ]
      have f := fold_at g (e := e) t _ (fun e he => he) (Dok.rounds g r' s0) he (by omega)
      show rd (t.foldl Pure.relax (Pure.rounds t r' _)) e.f1 ≤ _
      omega
theorem walk_D {n : Int} {t : List S76} (g : Gok n t) {x y c : Int} (hx : Node n x) (h : Walk t x y c) : D n t x y ≤ c := by
  obtain ⟨c0, h1, h2, h3⟩ := h.least g c.toNat c (Nat.le_refl _)
  have := (conv g hx c0.toNat y c0 (Nat.le_refl _) h1 h3).2 n.toNat (rk_le t x c0)
  exact Int.le_trans this h2
theorem D_self {n : Int} {t : List S76} (g : Gok n t) {x : Int} (hx : Node n x) : D n t x x = 0 := by
  have a := walk_D g hx (Walk.nil (t := t))
  have b := D_lim g x hx
  omega
theorem D_tri {n : Int} {t : List S76} (g : Gok n t) {x y z : Int} (hx : Node n x) (hy : Node n y) (hz : Node n z) (h1 : D n t x y < 1000000) (h2 : D n t y z < 1000000) : D n t x z ≤ D n t x y + D n t y z :=
  walk_D g hx ((D_walk g hx hy h1).trans (D_walk g hy hz h2))
theorem D_edge {n : Int} {t : List S76} (g : Gok n t) {e : S76} (he : e ∈ t) : D n t e.f0 e.f1 ≤ e.f2 := walk_D g (g.mem he).1 (Walk.edge he)
/-- Two ascending lists of the same members are one list. -/
theorem asc_eq : ∀ {a b : List Int}, a.Pairwise (· < ·) → b.Pairwise (· < ·) → (∀ z, z ∈ a ↔ z ∈ b) → a = b := by
  intro a
  induction a with
  | nil =>
    intro b _ _ h
    cases b with
    | nil => rfl
    | cons q b => exact absurd ((h q).2 List.mem_cons_self) (by simp)
  | cons p a ih =>
    intro b ha hb h
    cases b with
    | nil => exact absurd ((h p).1 List.mem_cons_self) (by simp)
    | cons q b =>
      have ha' := List.pairwise_cons.1 ha
      have hb' := List.pairwise_cons.1 hb
      have e : p = q := by
        rcases List.mem_cons.1 ((h p).1 List.mem_cons_self) with h1 | h1
        · exact h1
        · rcases List.mem_cons.1 ((h q).2 List.mem_cons_self) with h2 | h2
          · exact h2.symm
          · have := ha'.1 q h2; have := hb'.1 p h1; omega
      subst e
      congr 1
      refine ih ha'.2 hb'.2 (fun z => ⟨fun hz => ?_, fun hz => ?_⟩)
      · rcases List.mem_cons.1 ((h z).1 (List.mem_cons_of_mem _ hz)) with h1 | h1
        · have := ha'.1 z hz; omega
        · exact h1
      · rcases List.mem_cons.1 ((h z).2 (List.mem_cons_of_mem _ hz)) with h1 | h1
        · have := hb'.1 z hz; omega
        · exact h1
theorem Gok.asc {n : Int} {t : List S76} (g : Gok n t) : t.Pairwise EAhead := by
  have key : ∀ (j i : Nat), i < j → j < t.length → EAhead (rd_T76 t i) (rd_T76 t j) := by
    intro j
    induction j with
    | zero => intro i hi _; omega
    | succ j ih =>
      intro i hi hj
      have x := (g.2.2 (j + 1) hj).2.2.2.2 (by omega)
      have e : ((j + 1 : Nat) : Int) - 1 = (j : Int) := by omega
      rw [e] at x
      by_cases c : i = j
      · subst c; exact x
      · have y := ih i (by omega) (by omega)
        unfold EAhead at x y ⊢
        omega
  rw [List.pairwise_iff_getElem]
  intro i j hi hj hij
  have z := key j i hij hj
  rw [rdE_get, rdE_get, List.getD_eq_getElem?_getD, List.getD_eq_getElem?_getD, List.getElem?_eq_getElem hi, List.getElem?_eq_getElem hj] at z
  exact z
theorem ecost_of_mem : ∀ {t : List S76} {e : S76}, t.Pairwise EAhead → e ∈ t → ecost t e.f0 e.f1 = e.f2 := by
  intro t
  induction t with
  | nil => intro e _ h; cases h
  | cons a t ih =>
    intro e hp he
    have hp' := List.pairwise_cons.1 hp
    simp only [ecost]
    rcases List.mem_cons.1 he with h | h
    · subst h; rw [if_pos rfl, if_pos rfl]
    · have x := hp'.1 e h
      have y := ih hp'.2 h
      unfold EAhead at x
      by_cases c1 : a.f0 = e.f0
      · rw [if_pos c1, if_neg (by omega)]; exact y
      · rw [if_neg c1]; exact y
/-- The next nodes, out of the edges. -/
def hopE (n : Int) (t : List S76) (x y : Int) (e : S76) : Bool := decide (e.f0 = x ∧ e.f2 + D n t e.f1 y = D n t x y)
def hopsL (n : Int) (t : List S76) (x y : Int) : List Int := (t.filter (hopE n t x y)).map fun e => e.f1
/-- The next nodes, out of the nodes. -/
def hopN (n : Int) (t : List S76) (x y z : Int) : Bool := decide (z ≠ x ∧ gcost n t x z < 1000000 ∧ gcost n t x z + D n t z y = D n t x y)
def hopsR (n : Int) (t : List S76) (x y : Int) : List Int := ((List.range' 0 n.toNat).map fun (i : Nat) => (i : Int)).filter (hopN n t x y)
theorem hops_eq {n : Int} {t : List S76} (g : Gok n t) {x y : Int} (hx : Node n x) : hopsL n t x y = hopsR n t x y := by
  refine asc_eq ?_ ?_ (fun z => ?_)
  · unfold hopsL
    rw [List.pairwise_map]
    refine (g.asc.filter _).imp_of_mem ?_
    intro a b ha hb hab
    have ha2 := (List.mem_filter.1 ha).2
    have hb2 := (List.mem_filter.1 hb).2
    unfold hopE at ha2 hb2
    rw [decide_eq_true_eq] at ha2 hb2
    unfold EAhead at hab
    omega
  · unfold hopsR
    refine List.Pairwise.filter _ ?_
    rw [List.pairwise_map]
    refine (List.pairwise_lt_range' (s := 0) (n := n.toNat)).imp ?_
    intro a b hab
    omega
  · unfold hopsL hopsR
    simp only [List.mem_map, List.mem_filter, List.mem_range'_1, hopE, hopN, decide_eq_true_eq]
    constructor
    · rintro ⟨e, ⟨hm, h1, h2⟩, rfl⟩
      obtain ⟨a1, a2, a3, a4, a5⟩ := g.mem hm
      have hc : gcost n t x e.f1 = e.f2 := by
        unfold gcost
        rw [if_pos ⟨hx, a2⟩, if_neg (by omega), ← h1]
        exact ecost_of_mem g.asc hm
      unfold Node at a2
      refine ⟨⟨e.f1.toNat, by omega, by omega⟩, by omega, by omega, ?_⟩
      rw [hc]; exact h2
    · rintro ⟨⟨i, hi, rfl⟩, h1, h2, h3⟩
      have hn : Node n (i : Int) := ⟨by omega, by omega⟩
      unfold gcost at h2 h3
      rw [if_pos ⟨hx, hn⟩, if_neg (by omega)] at h2 h3
      obtain ⟨e, m, e1, e2, e3⟩ := ecost_mem (t := t) (x := x) (y := (i : Int)) (by omega)
      refine ⟨e, ⟨m, e1, ?_⟩, e2⟩
      rw [e2, ← e3]; exact h3
theorem spec_hops {n : Int} {t : List S76} (g : Gok n t) {x y : Int} (hx : Node n x) (hy : Node n y) : ∀ (d k i : Nat) (acc : List Int), (i : Int) + d = n → d + (t.length * 12 + 62) < k → acc.length ≤ i →
    spec_HopsTo.l0 k x y acc (D n t x y) i n t = some (acc ++ ((List.range' i d).map fun (j : Nat) => (j : Int)).filter (hopN n t x y)) := by
  have hn := g.1
  have hl : t.length ≤ 60 := g.2.1
  intro d
  induction d with
  | zero =>
    intro k i acc hi hk ha
    obtain ⟨k, rfl⟩ : ∃ m, k = m + 1 := ⟨k - 1, by omega⟩
    simp only [spec_HopsTo.l0]
    rw [if_neg (by omega)]
    simp
  | succ d ih =>
    intro k i acc hi hk ha
    obtain ⟨k, rfl⟩ : ∃ m, k = m + 1 := ⟨k - 1, by omega⟩
    have e1 : (i : Int) + 1 = ((i + 1 : Nat) : Int) := by omega
    have hi' : Node n (i : Int) := ⟨by omega, by omega⟩
    have lz := (dist_ok g (i : Int)).1
    have d2 := D_lim g (i : Int) hy
    have c := hy
    unfold Node at c
    have next : ∀ acc' : List Int, acc'.length ≤ i + 1 → spec_HopsTo.l0 k x y acc' (D n t x y) ((i + 1 : Nat) : Int) n t = _ := fun acc' h => ih k (i + 1) acc' (by omega) (by omega) h
    simp only [spec_HopsTo.l0, List.range'_succ, List.map_cons, List.filter_cons]
    rw [if_pos (by omega), spec_Cost hn (by omega) x i (by omega)]
    simp only [Option.bind_some]
    rw [wr1 (by omega)]
    by_cases h1 : (i : Int) = x
    · have hf : hopN n t x y (i : Int) = false := by unfold hopN; simp [h1]
      rw [if_pos h1, hf, next acc (by omega)]
      rfl
    · rw [if_neg h1]
      by_cases h2 : gcost n t x (i : Int) < 1000000
      · have gl := gcost_lim g x (i : Int)
        rw [if_pos h2, spec_Dist' g hi' (by omega)]
        simp only [Option.bind_some]
        rw [if_pos c.1, if_pos (by omega)]
        unfold D at d2
        rw [w64 (n := gcost n t x (i : Int) + rd (dist n t i) y) (by omega) (by omega)]
        by_cases h3 : gcost n t x (i : Int) + D n t i y = D n t x y
        · have hf : hopN n t x y (i : Int) = true := by unfold hopN; simp [h1, h2, h3]
          have h3' : gcost n t x (i : Int) + rd (dist n t i) y = D n t x y := h3
          rw [if_pos h3', if_pos (by omega), hf, next (acc ++ [(i : Int)]) (by simp; omega)]
          simp
        · have hf : hopN n t x y (i : Int) = false := by unfold hopN; simp [h3]
          have h3' : ¬ gcost n t x (i : Int) + rd (dist n t i) y = D n t x y := h3
          rw [if_neg h3', hf, next acc (by omega)]
          rfl
      · have hf : hopN n t x y (i : Int) = false := by unfold hopN; simp [h2]
        rw [if_neg h2, hf, next acc (by omega)]
        rfl
theorem impl_hops {n : Int} {t : List S76} (g : Gok n t) {x y : Int} (hx : Node n x) (hy : Node n y) : ∀ (d k i : Nat) (acc : List Int), i + d = t.length → d < k → acc.length ≤ i →
    impl_Graph_hopsTo.l0 k x y (allD n t) acc t t.length i = some (acc ++ ((t.drop i).filter (hopE n t x y)).map fun e => e.f1) := by
  have hn := g.1
  have hl : t.length ≤ 60 := g.2.1
  have la := allD_len hn t
  have lx := (dist_ok g x).1
  intro d
  induction d with
  | zero =>
    intro k i acc hi hk ha
    obtain ⟨k, rfl⟩ : ∃ m, k = m + 1 := ⟨k - 1, by omega⟩
    obtain rfl : i = t.length := by omega
    simp only [impl_Graph_hopsTo.l0]
    rw [if_neg (by omega), List.drop_length]
    simp
  | succ d ih =>
    intro k i acc hi hk ha
    obtain ⟨k, rfl⟩ : ∃ m, k = m + 1 := ⟨k - 1, by omega⟩
    have e1 : (i : Int) + 1 = ((i + 1 : Nat) : Int) := by omega
    have hil : i < t.length := by omega
    have hmem : rd_T76 t i ∈ t := by
      rw [rdE_get, List.getD_eq_getElem?_getD, List.getElem?_eq_getElem hil]; exact List.getElem_mem hil
    obtain ⟨a1, a2, a3, a4, a5⟩ := g.mem hmem
    have d2 := D_lim g (rd_T76 t i).f1 hy
    have lz := (dist_ok g (rd_T76 t i).f1).1
    have c := hy
    have b := hx
    have a2' := a2
    unfold Node at c b a2'
    have next : ∀ acc' : List Int, acc'.length ≤ i + 1 → impl_Graph_hopsTo.l0 k x y (allD n t) acc' t t.length ((i + 1 : Nat) : Int) = _ := fun acc' h => ih k (i + 1) acc' (by omega) (by omega) h
    simp only [impl_Graph_hopsTo.l0]
    rw [drop_getD t z76 hil, ← rdE_get, List.filter_cons, if_pos (by omega), if_pos (by omega), if_pos (by omega), wr1 (by omega)]
    by_cases h1 : (rd_T76 t i).f0 = x
    · rw [if_pos h1, if_pos a2'.1, if_pos (by omega), allD_rd t a2, allD_rd t hx, if_pos c.1, if_pos (by omega), if_pos b.1, if_pos (by omega), if_pos (by omega)]
      unfold D at d2
      rw [w64 (n := (rd_T76 t i).f2 + rd (dist n t (rd_T76 t i).f1) y) (by omega) (by omega)]
      by_cases h3 : (rd_T76 t i).f2 + D n t (rd_T76 t i).f1 y = D n t x y
      · have h3' : (rd_T76 t i).f2 + rd (dist n t (rd_T76 t i).f1) y = rd (dist n t x) y := h3
        have hf : hopE n t x y (rd_T76 t i) = true := by unfold hopE; simp [h1, h3]
        rw [if_pos h3', if_pos (by omega), hf, next _ (by simp; omega)]
        simp
      · have h3' : ¬ (rd_T76 t i).f2 + rd (dist n t (rd_T76 t i).f1) y = rd (dist n t x) y := h3
        have hf : hopE n t x y (rd_T76 t i) = false := by unfold hopE; simp [h3]
        rw [if_neg h3', hf, next acc (by omega)]
        rfl
    · have hf : hopE n t x y (rd_T76 t i) = false := by unfold hopE; simp [h1]
      rw [if_neg h1, hf, next acc (by omega)]
      rfl
theorem impl_HopsG {n : Int} {t : List S76} (g : Gok n t) {x y : Int} (hx : Node n x) (hy : Node n y) {k : Nat} (hk : t.length * 12 + 90 < k) :
    impl_Graph_hopsTo.f k n t x y (allD n t) = some (if x = y ∨ D n t x y = 1000000 then [] else hopsR n t x y) := by
  obtain ⟨k, rfl⟩ : ∃ m, k = m + 1 := ⟨k - 1, by omega⟩
  have hn := g.1
  have la := allD_len hn t
  have lx := (dist_ok g x).1
  have a := hx; have b := hy
  unfold Node at a b
  unfold impl_Graph_hopsTo.f
  simp only [Option.bind_some, impl_Graph_hopsTo.j0]
  by_cases c : x = y
  · rw [if_pos c, if_pos trivial, if_pos (.inl c)]
  · rw [if_neg c, if_pos a.1, if_pos (by omega), allD_rd t hx, if_pos b.1, if_pos (by omega)]
    by_cases c2 : D n t x y = 1000000
    · have e : (rd (dist n t x) y == 1000000) = true := by rw [beq_iff_eq]; exact c2
      rw [e, if_pos rfl, if_pos (.inr c2)]
    · have e : (rd (dist n t x) y == 1000000) = false := by rw [beq_eq_false_iff_ne]; exact c2
      have z := impl_hops g hx hy t.length k 0 [] (by omega) (by omega) (by simp)
      have z' : impl_Graph_hopsTo.l0 k x y (allD n t) [] t t.length 0 = some (hopsL n t x y) := z
      rw [e, if_neg (by decide), z', if_neg (by omega), hops_eq g hx]
theorem spec_HopsG {n : Int} {t : List S76} (g : Gok n t) {x y : Int} (hx : Node n x) (hy : Node n y) {k : Nat} (hk : t.length * 12 + 90 < k) :
    spec_HopsTo.f k n t x y = some (if x = y ∨ D n t x y = 1000000 then [] else hopsR n t x y) := by
  obtain ⟨k, rfl⟩ : ∃ m, k = m + 1 := ⟨k - 1, by omega⟩
  have hn := g.1
  have hl : t.length ≤ 60 := g.2.1
  have lx := (dist_ok g x).1
  have b := hy
  unfold Node at b
  obtain ⟨b0, h1, _, h3⟩ := both_Gok n (t := t) (by omega) (k := k + 1) (by omega)
  unfold spec_HopsTo.f
  rw [h1]
  simp only [Option.bind_some, spec_HopsTo.j0]
  rw [if_pos (h3.2 g), spec_Node hn, spec_Node hn, decide_eq_true hx, decide_eq_true hy]
  simp only [Option.bind_some, if_true]
  by_cases c : x = y
  · have e : (x == y) = true := by rw [beq_iff_eq]; exact c
    rw [e, if_pos rfl, if_pos (.inl c)]
  · have e : (x == y) = false := by rw [beq_eq_false_iff_ne]; exact c
    rw [e, if_neg (by decide), spec_Dist' g hx (by omega)]
    simp only [Option.bind_some]
    rw [if_pos b.1, if_pos (by omega)]
    by_cases c2 : D n t x y = 1000000
    · have c2' : rd (dist n t x) y = 1000000 := c2
      rw [if_pos c2', if_pos (.inr c2)]
    · have c2' : ¬ rd (dist n t x) y = 1000000 := c2
      have z := spec_hops g hx hy n.toNat k 0 [] (by omega) (by omega) (by simp)
      have z' : spec_HopsTo.l0 k x y [] (rd (dist n t x) y) 0 n t = some (hopsR n t x y) := z
      rw [if_neg c2', z', if_neg (by omega)]
/-- A sum over a list. -/
def sm {α : Type} (f : α → Int) : List α → Int
  | [] => 0
  | a :: l => f a + sm f l
theorem sm_fold {α : Type} (f : α → Int) : ∀ (l : List α) (a0 : Int), l.foldl (fun a z => a + f z) a0 = a0 + sm f l
  | [], a0 => by simp [sm]
  | a :: l, a0 => by simp only [List.foldl_cons, sm]; rw [sm_fold f l, Int.add_assoc]
theorem sm_congr {α : Type} {f h : α → Int} : ∀ (l : List α), (∀ a ∈ l, f a = h a) → sm f l = sm h l
  | [], _ => rfl
  | a :: l, e => by
    simp only [sm]
    rw [e a List.mem_cons_self, sm_congr l (fun b hb => e b (List.mem_cons_of_mem _ hb))]
theorem sm_append {α : Type} (f : α → Int) : ∀ (l m : List α), sm f (l ++ m) = sm f l + sm f m
  | [], m => by simp [sm]
  | a :: l, m => by simp only [List.cons_append, sm]; rw [sm_append f l m, Int.add_assoc]
theorem sm_le {α : Type} {f : α → Int} {c : Int} : ∀ (l : List α), (∀ a ∈ l, f a ≤ c) → sm f l ≤ c * l.length
  | [], _ => by simp [sm]
  | a :: l, e => by
    simp only [sm, List.length_cons]
    have h1 := e a List.mem_cons_self
    have h2 := sm_le l (fun b hb => e b (List.mem_cons_of_mem _ hb))
    have h3 : c * ((l.length + 1 : Nat) : Int) = c * (l.length : Int) + c := by
      rw [Int.natCast_add, Int.mul_add]; simp
    rw [h3]
    omega
theorem sm_nonneg {α : Type} {f : α → Int} : ∀ (l : List α), (∀ a ∈ l, 0 ≤ f a) → 0 ≤ sm f l
  | [], _ => Int.le_refl _
  | a :: l, e => by
    simp only [sm]
    have h1 := e a List.mem_cons_self
    have h2 := sm_nonneg l (fun b hb => e b (List.mem_cons_of_mem _ hb))
    omega
theorem sm_pos {α : Type} {f : α → Int} : ∀ (l : List α), (∀ a ∈ l, 0 ≤ f a) → (∃ a ∈ l, 0 < f a) → 0 < sm f l
  | [], _, h => by obtain ⟨a, ha, _⟩ := h; cases ha
  | a :: l, e, h => by
    simp only [sm]
    have h1 := e a List.mem_cons_self
    have hl : ∀ b ∈ l, 0 ≤ f b := fun b hb => e b (List.mem_cons_of_mem _ hb)
    have h2 := sm_nonneg l hl
    obtain ⟨b, hb, hp⟩ := h
    rcases List.mem_cons.1 hb with rfl | hb
    · omega
    · have := sm_pos l hl ⟨b, hb, hp⟩
      omega
theorem mem_hops {n : Int} {t : List S76} {x y z : Int} : z ∈ hopsL n t x y ↔ ∃ e ∈ t, e.f0 = x ∧ e.f1 = z ∧ e.f2 + D n t z y = D n t x y := by
  unfold hopsL hopE
  simp only [List.mem_map, List.mem_filter, decide_eq_true_eq]
  constructor
  · rintro ⟨e, ⟨h1, h2, h3⟩, rfl⟩
    exact ⟨e, h1, h2, rfl, h3⟩
  · rintro ⟨e, h1, h2, rfl, h3⟩
    exact ⟨e, ⟨h1, h2, h3⟩, rfl⟩
theorem hop_lt {n : Int} {t : List S76} (g : Gok n t) {x y z : Int} (h : z ∈ hopsL n t x y) : Node n z ∧ D n t z y < D n t x y ∧ z ≠ x := by
  obtain ⟨e, h1, h2, h3, h4⟩ := mem_hops.1 h
  obtain ⟨a1, a2, a3, a4, a5⟩ := g.mem h1
  rw [h3] at a2
  exact ⟨a2, by omega, by omega⟩
/-- From a node that is not the target, and from which it can be reached, there is a hop. -/
theorem hop_ex {n : Int} {t : List S76} (g : Gok n t) {x y : Int} (hx : Node n x) (hy : Node n y) (hxy : x ≠ y) (h : D n t x y < 1000000) : ∃ z, z ∈ hopsL n t x y := by
  have first : ∀ {v c : Int}, Walk t x v c → v = x ∧ c = 0 ∨ ∃ e ∈ t, e.f0 = x ∧ ∃ d, Walk t e.f1 v d ∧ c = e.f2 + d := by
    intro v c w
    induction w with
    | nil => exact .inl ⟨rfl, rfl⟩
    | snoc e w he h0 ih =>
      rcases ih with ⟨rfl, rfl⟩ | ⟨e', he', h1, d, w', rfl⟩
      · exact .inr ⟨e, he, h0, 0, .nil, by omega⟩
      · exact .inr ⟨e', he', h1, d + e.f2, .snoc e w' he h0, by omega⟩
  rcases first (D_walk g hx hy h) with ⟨h1, _⟩ | ⟨e, he, h1, d, w, hd⟩
  · exact absurd h1.symm hxy
  · obtain ⟨a1, a2, a3, a4, a5⟩ := g.mem he
    have b1 := walk_D g a2 w
    have dl : D n t e.f1 y < 1000000 := by omega
    have b2 := walk_D g hx ((h1 ▸ Walk.edge he).trans (D_walk g a2 hy dl))
    exact ⟨e.f1, mem_hops.2 ⟨e, he, h1, rfl, by omega⟩⟩
/-- How many shortest ways there are, and the least number of nodes of one; m bounds the depth. -/
def waysF (n : Int) (t : List S76) (y : Int) : Nat → Int → Int
  | 0, _ => 0
  | m + 1, x => if x = y then 1 else sm (waysF n t y m) (hopsL n t x y)
def minz (s v : Int) : Int := if s = 0 then v else if v < s then v else s
def stepsF (n : Int) (t : List S76) (y : Int) : Nat → Int → Int
  | 0, _ => 0
  | m + 1, x => if x = y then 1 else (hopsL n t x y).foldl (fun s z => minz s (stepsF n t y m z + 1)) 0
theorem fold_congr' {α β : Type} {f h : β → α → β} : ∀ (l : List α) (b : β), (∀ a ∈ l, ∀ b, f b a = h b a) → l.foldl f b = l.foldl h b
  | [], _, _ => rfl
  | a :: l, b, e => by
    simp only [List.foldl_cons]
    rw [e a List.mem_cons_self, fold_congr' l _ (fun c hc => e c (List.mem_cons_of_mem _ hc))]
theorem waysF_stable {n : Int} {t : List S76} (g : Gok n t) {y : Int} (hy : Node n y) : ∀ (m m' : Nat) (x : Int), Node n x → (D n t x y).toNat < m → (D n t x y).toNat < m' → waysF n t y m x = waysF n t y m' x ∧ stepsF n t y m x = stepsF n t y m' x := by
  intro m
  induction m with
  | zero => intro m' x _ h _; omega
  | succ m ih =>
    intro m' x hx h h'
    obtain ⟨m', rfl⟩ : ∃ q, m' = q + 1 := ⟨m' - 1, by omega⟩
    have key : ∀ z ∈ hopsL n t x y, waysF n t y m z = waysF n t y m' z ∧ stepsF n t y m z = stepsF n t y m' z := fun z hz => by
      obtain ⟨a, b, _⟩ := hop_lt g hz
      have c := D_lim g z hy
      exact ih m' z a (by omega) (by omega)
    simp only [waysF, stepsF]
    by_cases c : x = y
    · rw [if_pos c, if_pos c, if_pos c, if_pos c]
      exact ⟨rfl, rfl⟩
    · rw [if_neg c, if_neg c, if_neg c, if_neg c]
      exact ⟨sm_congr _ (fun z hz => (key z hz).1), fold_congr' _ _ (fun z hz s => by rw [(key z hz).2])⟩
def ways (n : Int) (t : List S76) (y x : Int) : Int := waysF n t y ((D n t x y).toNat + 1) x
def steps (n : Int) (t : List S76) (y x : Int) : Int := stepsF n t y ((D n t x y).toNat + 1) x
theorem ways_at (n : Int) (t : List S76) (y : Int) : ways n t y y = 1 ∧ steps n t y y = 1 := by
  unfold ways steps
  simp [waysF, stepsF]
theorem ways_eq {n : Int} {t : List S76} (g : Gok n t) {x y : Int} (hy : Node n y) (hxy : x ≠ y) : ways n t y x = sm (ways n t y) (hopsL n t x y) ∧ steps n t y x = (hopsL n t x y).foldl (fun s z => minz s (steps n t y z + 1)) 0 := by
  have key : ∀ z ∈ hopsL n t x y, waysF n t y (D n t x y).toNat z = ways n t y z ∧ stepsF n t y (D n t x y).toNat z = steps n t y z := fun z hz => by
    obtain ⟨a, b, _⟩ := hop_lt g hz
    have c := D_lim g z hy
    exact waysF_stable g hy _ _ z a (by omega) (by omega)
  constructor
  · show waysF n t y ((D n t x y).toNat + 1) x = _
    simp only [waysF]
    rw [if_neg hxy]
    exact sm_congr _ (fun z hz => (key z hz).1)
  · show stepsF n t y ((D n t x y).toNat + 1) x = _
    simp only [stepsF]
    rw [if_neg hxy]
    exact fold_congr' _ _ (fun z hz s => by rw [(key z hz).2])
/-- A finite distance is small. -/
theorem D_small {n : Int} {t : List S76} (g : Gok n t) {y : Int} (hy : Node n y) : ∀ (N : Nat) (x : Int), (D n t x y).toNat ≤ N → Node n x → D n t x y < 1000000 → D n t x y ≤ 1000 * (((List.range n.toNat).filter fun (j : Nat) => decide (D n t j y < D n t x y)).length : Int) := by
  intro N
  induction N with
  | zero =>
    intro x hN hx hf
    omega
  | succ N ih =>
    intro x hN hx hf
    by_cases c : x = y
    · subst c
      have := D_self g hx
      omega
    · obtain ⟨z, hz⟩ := hop_ex g hx hy c hf
      obtain ⟨z1, z2, z3⟩ := hop_lt g hz
      obtain ⟨e, he, e1, e2, e3⟩ := mem_hops.1 hz
      obtain ⟨_, _, _, a4, a5⟩ := g.mem he
      have d0 := (D_lim g z hy).1
      have q := ih z (by omega) z1 (by omega)
      have l := filter_lt' (fun (j : Nat) => decide (D n t j y < D n t z y)) (fun (j : Nat) => decide (D n t j y < D n t x y)) (List.range n.toNat) (fun a _ h => decide_eq_true (by have := of_decide_eq_true h; omega)) ⟨z.toNat, List.mem_range.2 (by unfold Node at z1; omega), by
        have ez : ((z.toNat : Nat) : Int) = z := by unfold Node at z1; omega
        refine ⟨decide_eq_true (by rw [ez]; exact z2), fun h => ?_⟩
        have := of_decide_eq_true h
        rw [ez] at this
        omega⟩
      generalize ((List.range n.toNat).filter fun (j : Nat) => decide (D n t j y < D n t z y)).length = A at q l
      generalize ((List.range n.toNat).filter fun (j : Nat) => decide (D n t j y < D n t x y)).length = B at l ⊢
      omega
theorem D_10 {n : Int} {t : List S76} (g : Gok n t) {x y : Int} (hx : Node n x) (hy : Node n y) (h : D n t x y < 1000000) : D n t x y ≤ 10000 := by
  have q := D_small g hy _ x (Nat.le_refl _) hx h
  have l : ((List.range n.toNat).filter fun (j : Nat) => decide (D n t j y < D n t x y)).length ≤ (List.range n.toNat).length := List.length_filter_le ..
  rw [List.length_range] at l
  have hn := g.1
  omega
theorem sm_add {α : Type} (f h : α → Int) : ∀ l : List α, sm (fun a => f a + h a) l = sm f l + sm h l
  | [] => rfl
  | a :: l => by
    have := sm_add f h l
    simp only [sm]
    omega
theorem sm_zero {α : Type} : ∀ l : List α, sm (fun _ => 0) l = 0
  | [] => rfl
  | a :: l => by
    have := sm_zero l
    simp only [sm]
    omega
theorem rdb_set {o : List Bool} {i j : Int} (v : Bool) (h0 : 0 ≤ i) (h1 : i < o.length) (hj : 0 ≤ j) : rdOf false (o.set i.toNat v) j = if i = j then v else rdOf false o j := by
  unfold rdOf
  rw [List.getD_eq_getElem?_getD, List.getD_eq_getElem?_getD, List.getElem?_set]
  by_cases c : i = j
  · subst c
    rw [if_pos rfl, if_pos (by omega), if_pos rfl]
    rfl
  · rw [if_neg (by omega), if_neg c]
def nd (n : Int) (Dn : List Bool) : Nat := ((List.range n.toNat).filter fun (u : Nat) => !rdOf false Dn (u : Int)).length
theorem nd_zero {n : Int} {Dn : List Bool} (h : nd n Dn = 0) {v : Int} (hv : Node n v) : rdOf false Dn v = true := by
  unfold Node at hv
  unfold nd at h
  have h0 := List.eq_nil_of_length_eq_zero h
  by_cases c : rdOf false Dn v = true
  · exact c
  · have e : ((v.toNat : Nat) : Int) = v := by omega
    have : v.toNat ∈ (List.range n.toNat).filter fun (u : Nat) => !rdOf false Dn (u : Int) := by
      rw [List.mem_filter]
      refine ⟨List.mem_range.2 (by omega), ?_⟩
      rw [e]
      simpa using c
    rw [h0] at this
    cases this
theorem rd_nat {x : List Int} {i : Nat} (h : i < x.length) : rd x i = x[i] := by
  simp [rd, List.getD_eq_getElem?_getD, List.getElem?_eq_getElem h]
/-- What the hop at the place i gets of q. -/
def shr (q L i : Int) : Int := Int.tdiv q L + (if i < Int.tmod q L then 1 else 0)
theorem shr_lim {q L i : Int} (hq : 0 ≤ q) (hL : 0 < L) : 0 ≤ shr q L i ∧ shr q L i ≤ q + 1 := by
  unfold shr
  rw [Int.tdiv_eq_ediv_of_nonneg hq]
  have a := Int.ediv_nonneg hq (Int.le_of_lt hL)
  have b := Int.ediv_le_self L hq
  generalize q / L = m at a b
  split <;> omega
theorem shr_zero {L i : Int} (hi : 0 ≤ i) : shr 0 L i = 0 := by
  unfold shr
  rw [Int.zero_tdiv, Int.zero_tmod, if_neg (by omega)]
  rfl
def givF (q : Int) (h : List Int) : Nat → Nat → List Int → List Int
  | 0, _, o => o
  | d + 1, i, o => givF q h d (i + 1) (o.set (rd h i).toNat (rd o (rd h i) + shr q h.length i))
def SF (q : Int) (h : List Int) (v : Int) : Nat → Nat → Int
  | 0, _ => 0
  | d + 1, i => (if rd h i = v then shr q h.length i else 0) + SF q h v d (i + 1)
theorem SF_lim {q : Int} (hq : 0 ≤ q) {h : List Int} (v : Int) : ∀ (d i : Nat), i + d = h.length → 0 ≤ SF q h v d i ∧ SF q h v d i ≤ d * (q + 1) := by
  intro d
  induction d with
  | zero => intro i _; simp [SF]
  | succ d ih =>
    intro i hi
    have z := ih (i + 1) (by omega)
    have l := shr_lim (i := (i : Int)) hq (show 0 < (h.length : Int) by omega)
    have e : ((d + 1 : Nat) : Int) * (q + 1) = (d : Int) * (q + 1) + (q + 1) := by
      rw [Int.natCast_add, Int.add_mul]
      simp
    simp only [SF]
    rw [e]
    generalize (d : Int) * (q + 1) = m at z ⊢
    split <;> omega
theorem SF_none {q : Int} {h : List Int} {v : Int} (hv : v ∉ h) : ∀ (d i : Nat), i + d = h.length → SF q h v d i = 0 := by
  intro d
  induction d with
  | zero => intro i _; rfl
  | succ d ih =>
    intro i hi
    simp only [SF]
    rw [ih (i + 1) (by omega), if_neg (fun e => hv (by rw [← e]; exact rd_mem (by omega) (by omega)))]
    rfl
theorem SF_zero (h : List Int) (v : Int) : ∀ (d i : Nat), SF 0 h v d i = 0 := by
  intro d
  induction d with
  | zero => intro i; rfl
  | succ d ih =>
    intro i
    simp only [SF]
    rw [ih (i + 1), shr_zero (by omega)]
    split <;> rfl
theorem givF_rd {n q : Int} {h : List Int} (hh : ∀ w ∈ h, Node n w) : ∀ (d i : Nat) (o : List Int), i + d = h.length → (o.length : Int) = n → ((givF q h d i o).length : Int) = n ∧ ∀ v, Node n v → rd (givF q h d i o) v = rd o v + SF q h v d i := by
  intro d
  induction d with
  | zero => intro i o _ ho; exact ⟨ho, fun v _ => by simp [givF, SF]⟩
  | succ d ih =>
    intro i o hi ho
    have hn := hh _ (rd_mem (o := h) (i := (i : Int)) (by omega) (by omega))
    unfold Node at hn
    simp only [givF, SF]
    obtain ⟨z1, z2⟩ := ih (i + 1) (o.set (rd h i).toNat (rd o (rd h i) + shr q h.length i)) (by omega) (by rw [List.length_set]; exact ho)
    refine ⟨z1, fun v hv => ?_⟩
    have hv2 := hv
    unfold Node at hv2
    rw [z2 v hv, rdn_set _ hn.1 (by omega) hv2.1]
    by_cases c : rd h i = v
    · rw [if_pos c, if_pos c, c]; omega
    · rw [if_neg c, if_neg c]; omega
/-- One node's turn. -/
def giv (n : Int) (t : List S76) (y : Int) (o : List Int) (x : Int) : List Int := givF (rd o x) (hopsL n t x y) (hopsL n t x y).length 0 o
def S (n : Int) (t : List S76) (y q x v : Int) : Int := SF q (hopsL n t x y) v (hopsL n t x y).length 0
theorem hop_node {n : Int} {t : List S76} (g : Gok n t) {x y : Int} : ∀ w ∈ hopsL n t x y, Node n w := fun _ hw => (hop_lt g hw).1
theorem S_none {n : Int} {t : List S76} (g : Gok n t) {y q x v : Int} (h : D n t x y ≤ D n t v y) : S n t y q x v = 0 :=
  SF_none (fun hm => by have := (hop_lt g hm).2.1; omega) _ _ (by omega)
theorem S_zero (n : Int) (t : List S76) (y x v : Int) : S n t y 0 x v = 0 := SF_zero _ _ _ _
theorem hops_len {n : Int} {t : List S76} (g : Gok n t) {x y : Int} (hx : Node n x) : (hopsL n t x y).length ≤ 10 := by
  rw [hops_eq g hx]
  have hn := g.1
  unfold hopsR
  refine Nat.le_trans (List.length_filter_le _ _) ?_
  rw [List.length_map, List.length_range']
  omega
theorem giv_rd {n : Int} {t : List S76} (g : Gok n t) {x y : Int} {o : List Int} (ho : (o.length : Int) = n) : ((giv n t y o x).length : Int) = n ∧ ∀ v, Node n v → rd (giv n t y o x) v = rd o v + S n t y (rd o x) x v :=
  givF_rd (hop_node g) _ _ o (by omega) ho
/-- What is left of a list of nodes that had their turns. -/
def Fl (n : Int) (t : List S76) (y : Int) (o : List Int) (P : List Int) (v : Int) : Int := sm (fun x => S n t y (rd o x) x v) P
def Inv (n : Int) (t : List S76) (f y a : Int) (P o : List Int) : Prop := (o.length : Int) = n ∧ (∀ x ∈ P, Node n x) ∧ ∀ v, Node n v → rd o v = (if f = v then a else 0) + Fl n t y o P v
theorem Inv.step {n : Int} {t : List S76} (g : Gok n t) {f y a x : Int} {P o : List Int} (h : Inv n t f y a P o) (hx : Node n x) (hP : ∀ z ∈ P, D n t x y ≤ D n t z y) : Inv n t f y a (P ++ [x]) (giv n t y o x) := by
  obtain ⟨h1, h2, h3⟩ := h
  obtain ⟨q1, q2⟩ := giv_rd g (x := x) (y := y) h1
  have same : ∀ z, Node n z → D n t x y ≤ D n t z y → rd (giv n t y o x) z = rd o z := fun z hz hd => by
    rw [q2 z hz, S_none g hd]; omega
  refine ⟨q1, fun z hz => ?_, fun v hv => ?_⟩
  · rcases List.mem_append.1 hz with hz | hz
    · exact h2 z hz
    · rw [List.mem_singleton.1 hz]; exact hx
  · have e : Fl n t y (giv n t y o x) (P ++ [x]) v = Fl n t y o P v + S n t y (rd o x) x v := by
      unfold Fl
      rw [sm_append]
      have e1 := sm_congr (f := fun z => S n t y (rd (giv n t y o x) z) z v) (h := fun z => S n t y (rd o z) z v) P (fun z hz => by rw [same z (h2 z hz) (hP z hz)])
      rw [e1]
      simp only [sm]
      rw [same x hx (Int.le_refl _)]
      omega
    rw [q2 v hv, h3 v hv, e]
    omega
def nodes (n : Int) : List Int := (List.range n.toNat).map fun (i : Nat) => (i : Int)
theorem mem_nodes {n v : Int} : v ∈ nodes n ↔ Node n v := by
  unfold nodes Node
  rw [List.mem_map]
  constructor
  · rintro ⟨i, hi, rfl⟩
    have := List.mem_range.1 hi
    omega
  · intro h
    exact ⟨v.toNat, List.mem_range.2 (by omega), by omega⟩
theorem nodes_nodup (n : Int) : (nodes n).Nodup := by
  unfold nodes
  refine List.pairwise_map.2 ?_
  exact List.Pairwise.imp (fun h e => by omega) (List.pairwise_lt_range (n := n.toNat))
theorem sm_one (f : Int → Int) (a : Int) : ∀ (L : List Int), L.Nodup → a ∈ L → sm (fun x => if x = a then f x else 0) L = f a := by
  intro L
  induction L with
  | nil => intro _ h; cases h
  | cons b L ih =>
    intro hn hm
    have hn' := List.nodup_cons.1 hn
    simp only [sm]
    by_cases c : b = a
    · subst c
      have z := sm_congr (f := fun x => if x = b then f x else 0) (h := fun _ => 0) L (fun x hx => if_neg (fun e => hn'.1 (by rw [← e]; exact hx)))
      rw [if_pos rfl, z, sm_zero]
      omega
    · rw [if_neg c, ih hn'.2 (by rcases List.mem_cons.1 hm with h | h; exact absurd h.symm c; exact h)]
      omega
theorem sm_sub (f : Int → Int) {L : List Int} (hL : L.Nodup) : ∀ (P : List Int), P.Nodup → (∀ x ∈ P, x ∈ L) → sm (fun x => if x ∈ P then f x else 0) L = sm f P := by
  intro P
  induction P with
  | nil =>
    intro _ _
    have z := sm_congr (f := fun x => if x ∈ ([] : List Int) then f x else 0) (h := fun _ => 0) L (fun x _ => if_neg (by simp))
    rw [z, sm_zero]
    rfl
  | cons a P ih =>
    intro hn hm
    have hn' := List.nodup_cons.1 hn
    have z := sm_congr (f := fun x => if x ∈ a :: P then f x else 0) (h := fun x => (if x = a then f x else 0) + (if x ∈ P then f x else 0)) L (fun x _ => by
      by_cases c : x = a
      · subst c
        rw [if_pos List.mem_cons_self, if_pos rfl, if_neg hn'.1]
        omega
      · by_cases c2 : x ∈ P
        · rw [if_pos (List.mem_cons_of_mem _ c2), if_neg c, if_pos c2]; omega
        · rw [if_neg (fun h => by rcases List.mem_cons.1 h with h | h; exact c h; exact c2 h), if_neg c, if_neg c2]; rfl)
    rw [z, sm_add, sm_one f a L hL (hm a List.mem_cons_self), ih hn'.2 (fun x hx => hm x (List.mem_cons_of_mem _ hx))]
    rfl
/-- All that matter had their turns. -/
def Full (n : Int) (t : List S76) (y : Int) (P o : List Int) : Prop := P.Nodup ∧ ∀ x, Node n x → x ∉ P → ∀ v, S n t y (rd o x) x v = 0
theorem Inv.all {n : Int} {t : List S76} {f y a : Int} {P o : List Int} (h : Inv n t f y a P o) (hF : Full n t y P o) : Inv n t f y a (nodes n) o := by
  refine ⟨h.1, fun x hx => mem_nodes.1 hx, fun v hv => ?_⟩
  rw [h.2.2 v hv]
  unfold Fl
  have z := sm_congr (f := fun x => if x ∈ P then S n t y (rd o x) x v else 0) (h := fun x => S n t y (rd o x) x v) (nodes n) (fun x hx => by
    by_cases c : x ∈ P
    · rw [if_pos c]
    · rw [if_neg c, hF.2 x (mem_nodes.1 hx) c v])
  rw [← z, sm_sub (fun x => S n t y (rd o x) x v) (nodes_nodup n) P hF.1 (fun x hx => mem_nodes.2 (h.2.1 x hx))]
theorem Inv.uniq {n : Int} {t : List S76} (g : Gok n t) {f y a : Int} (hy : Node n y) {o1 o2 : List Int} (h1 : Inv n t f y a (nodes n) o1) (h2 : Inv n t f y a (nodes n) o2) : o1 = o2 := by
  have key : ∀ (N : Nat) (v : Int), (1000000 - D n t v y).toNat ≤ N → Node n v → rd o1 v = rd o2 v := by
    intro N
    induction N with
    | zero =>
      intro v hN hv
      rw [h1.2.2 v hv, h2.2.2 v hv]
      congr 1
      unfold Fl
      refine sm_congr (nodes n) (fun x hx => ?_)
      have d := (D_lim g x hy).2
      rw [S_none g (by omega), S_none g (by omega)]
    | succ N ih =>
      intro v hN hv
      rw [h1.2.2 v hv, h2.2.2 v hv]
      congr 1
      unfold Fl
      refine sm_congr (nodes n) (fun x hx => ?_)
      have hx' := mem_nodes.1 hx
      by_cases c : D n t x y ≤ D n t v y
      · rw [S_none g c, S_none g c]
      · have d := (D_lim g x hy).2
        rw [ih x (by omega) hx']
  have l1 := h1.1
  have l2 := h2.1
  refine List.ext_getElem (by omega) (fun i hi1 hi2 => ?_)
  have z := key _ (i : Int) (Nat.le_refl _) (by unfold Node; omega)
  rw [rd_nat hi1, rd_nat hi2] at z
  exact z
/-- Nothing sets out from the target, or from where it cannot be reached. -/
theorem hops_none {n : Int} {t : List S76} (g : Gok n t) {x y : Int} (hx : Node n x) (hy : Node n y) (h : x = y ∨ ¬ D n t x y < 1000000) : hopsL n t x y = [] := by
  refine List.eq_nil_iff_forall_not_mem.2 (fun z hz => ?_)
  obtain ⟨z1, z2, z3⟩ := hop_lt g hz
  obtain ⟨e, he, e1, e2, e3⟩ := mem_hops.1 hz
  obtain ⟨_, _, _, a4, a5⟩ := g.mem he
  have d0 := D_lim g z hy
  have d1 := D_lim g x hy
  rcases h with h | h
  · subst h
    rw [D_self g hx] at z2
    omega
  · have := D_10 g z1 hy (by omega)
    omega
theorem S_hops {n : Int} {t : List S76} {y q x v : Int} (h : hopsL n t x y = []) : S n t y q x v = 0 := by
  unfold S
  rw [h]
  rfl
theorem giv_lim {n : Int} {t : List S76} (g : Gok n t) {x y : Int} (hx : Node n x) {o : List Int} (ho : (o.length : Int) = n) {B : Int} (hB : 10 ≤ B) (h : ∀ v, Node n v → 0 ≤ rd o v ∧ rd o v ≤ B) : ∀ v, Node n v → 0 ≤ rd (giv n t y o x) v ∧ rd (giv n t y o x) v ≤ B * 12 := by
  intro v hv
  rw [(giv_rd g ho).2 v hv]
  have a := h v hv
  have b := h x hx
  have l := hops_len g (y := y) hx
  have s : 0 ≤ S n t y (rd o x) x v ∧ S n t y (rd o x) x v ≤ _ := SF_lim b.1 v _ 0 (by omega)
  have m : ((hopsL n t x y).length : Int) * (rd o x + 1) ≤ 10 * (rd o x + 1) := Int.mul_le_mul_of_nonneg_right (by omega) (by omega)
  generalize ((hopsL n t x y).length : Int) * (rd o x + 1) = Z at s m
  omega
theorem tdiv_lim {q L : Int} (hq : 0 ≤ q) (hL : 0 < L) : 0 ≤ Int.tdiv q L ∧ Int.tdiv q L ≤ q := by
  rw [Int.tdiv_eq_ediv_of_nonneg hq]
  exact ⟨Int.ediv_nonneg hq (Int.le_of_lt hL), Int.ediv_le_self L hq⟩
theorem sh_impl {n : Int} {t : List S76} {x y q : Int} (hx : Node n x) (hq : 0 ≤ q) {h : List Int} (hh : ∀ w ∈ h, Node n w ∧ w ≠ x) (k : Nat) (ys : List Int) (L r : Int) (dd : List (List Int)) : ∀ (d i K : Nat) (o : List Int), i + d = h.length → K = k + d + 1 → h.length ≤ 10 → (o.length : Int) = n → rd o x = q → (∀ v, Node n v → 0 ≤ rd o v ∧ rd o v + d * (q + 1) ≤ 9000000000000000000) →
    impl_Shares.l2 K o x h ys L r h h.length i n t y dd = impl_Shares.l1 k (givF q h d i o) ys L (wrap64 (r + 1)) n t y dd := by
  have hx2 := hx
  unfold Node at hx2
  intro d
  induction d with
  | zero =>
    intro i K o hi hK _ ho hx hb
    subst hK
    simp only [impl_Shares.l2, givF]
    rw [if_neg (by omega)]
  | succ d ih =>
    intro i K o hi hK h10 ho hxo hb
    obtain ⟨K, rfl⟩ : ∃ m, K = m + 1 := ⟨K - 1, by omega⟩
    obtain ⟨hz, hzx⟩ := hh _ (rd_mem (o := h) (i := (i : Int)) (by omega) (by omega))
    have hz2 := hz
    unfold Node at hz2
    have b1 := hb _ hz
    have e : ((d + 1 : Nat) : Int) * (q + 1) = (d : Int) * (q + 1) + (q + 1) := by
      rw [Int.natCast_add, Int.add_mul]
      simp
    rw [e] at hb b1
    have hm : 0 ≤ (d : Int) * (q + 1) := Int.mul_nonneg (by omega) (by omega)
    have tl := tdiv_lim hq (show 0 < (h.length : Int) by omega)
    have hxi : rd (o.set (rd h i).toNat (rd o (rd h i) + Int.tdiv q h.length)) x = q := by
      rw [rdn_set _ hz2.1 (by omega) hx2.1, if_neg hzx, hxo]
    have nx : ∀ s : Int, s = shr q h.length i → impl_Shares.l2 K (o.set (rd h i).toNat (rd o (rd h i) + s)) x h ys L r h h.length ((i + 1 : Nat) : Int) n t y dd = impl_Shares.l1 k (givF q h (d + 1) i o) ys L (wrap64 (r + 1)) n t y dd := fun s hs => by
      have sl := shr_lim (i := (i : Int)) hq (show 0 < (h.length : Int) by omega)
      simp only [givF]
      rw [hs]
      refine ih (i + 1) K _ (by omega) (by omega) h10 (by rw [List.length_set]; exact ho) ?_ (fun v hv => ?_)
      · rw [rdn_set _ hz2.1 (by omega) hx2.1, if_neg hzx, hxo]
      · have hv2 := hv
        unfold Node at hv2
        have b2 := hb v hv
        rw [rdn_set _ hz2.1 (by omega) hv2.1]
        generalize (d : Int) * (q + 1) = Z at hb b1 hm b2 ⊢
        by_cases c : rd h i = v
        · rw [if_pos c]; omega
        · rw [if_neg c]; omega
    generalize (d : Int) * (q + 1) = Z at hb b1 hm
    have hlen : (i : Int) + 1 = ((i + 1 : Nat) : Int) := by omega
    simp only [impl_Shares.l2]
    rw [if_pos (by omega), if_pos (by omega), if_pos (by omega), if_pos hz2.1, if_pos (by omega), if_pos hx2.1, if_pos (by omega), if_neg (by omega), hxo, w64 (n := Int.tdiv q h.length) (by omega) (by omega), w64 (n := rd o (rd h i) + Int.tdiv q h.length) (by omega) (by omega)]
    simp only [Option.bind_some]
    rw [hxi, w64 (n := (i : Int) + 1) (by omega) (by omega), hlen, w64 (n := rd o (rd h i) + Int.tdiv q h.length + 1) (by omega) (by omega), List.set_set]
    by_cases c : (i : Int) < Int.tmod q h.length
    · rw [if_pos c, Int.add_assoc]
      exact nx _ (by unfold shr; rw [if_pos c])
    · rw [if_neg c]
      exact nx _ (by unfold shr; rw [if_neg c, Int.add_zero])
theorem sh_spec {n : Int} {t : List S76} {x y q : Int} (hx : Node n x) (hq : 0 ≤ q) {h : List Int} (hh : ∀ w ∈ h, Node n w ∧ w ≠ x) (k : Nat) (Dn : List Bool) (r : Int) : ∀ (d i K : Nat) (o : List Int), i + d = h.length → K = k + d + 1 → h.length ≤ 10 → (o.length : Int) = n → rd o x = q → (∀ v, Node n v → 0 ≤ rd o v ∧ rd o v + d * (q + 1) ≤ 9000000000000000000) →
    spec_Shares.l2 K y o Dn r x h i n t = spec_Shares.l0 k y (givF q h d i o) Dn (wrap64 (r + 1)) n t := by
  have hx2 := hx
  unfold Node at hx2
  intro d
  induction d with
  | zero =>
    intro i K o hi hK _ ho hx hb
    subst hK
    simp only [spec_Shares.l2, givF]
    rw [if_neg (by omega)]
  | succ d ih =>
    intro i K o hi hK h10 ho hxo hb
    obtain ⟨K, rfl⟩ : ∃ m, K = m + 1 := ⟨K - 1, by omega⟩
    obtain ⟨hz, hzx⟩ := hh _ (rd_mem (o := h) (i := (i : Int)) (by omega) (by omega))
    have hz2 := hz
    unfold Node at hz2
    have b1 := hb _ hz
    have e : ((d + 1 : Nat) : Int) * (q + 1) = (d : Int) * (q + 1) + (q + 1) := by
      rw [Int.natCast_add, Int.add_mul]
      simp
    rw [e] at hb b1
    have hm : 0 ≤ (d : Int) * (q + 1) := Int.mul_nonneg (by omega) (by omega)
    have tl := tdiv_lim hq (show 0 < (h.length : Int) by omega)
    have nx : ∀ s : Int, s = shr q h.length i → spec_Shares.l2 K y (o.set (rd h i).toNat (rd o (rd h i) + s)) Dn r x h ((i + 1 : Nat) : Int) n t = spec_Shares.l0 k y (givF q h (d + 1) i o) Dn (wrap64 (r + 1)) n t := fun s hs => by
      have sl := shr_lim (i := (i : Int)) hq (show 0 < (h.length : Int) by omega)
      simp only [givF]
      rw [hs]
      refine ih (i + 1) K _ (by omega) (by omega) h10 (by rw [List.length_set]; exact ho) ?_ (fun v hv => ?_)
      · rw [rdn_set _ hz2.1 (by omega) hx2.1, if_neg hzx, hxo]
      · have hv2 := hv
        unfold Node at hv2
        have b2 := hb v hv
        rw [rdn_set _ hz2.1 (by omega) hv2.1]
        generalize (d : Int) * (q + 1) = Z at hb b1 hm b2 ⊢
        by_cases c : rd h i = v
        · rw [if_pos c]; omega
        · rw [if_neg c]; omega
    generalize (d : Int) * (q + 1) = Z at hb b1 hm
    have hlen : (i : Int) + 1 = ((i + 1 : Nat) : Int) := by omega
    simp only [spec_Shares.l2]
    rw [if_pos (by omega), if_pos hx2.1, if_pos (by omega), if_neg (by omega), hxo, w64 (n := Int.tdiv q h.length) (by omega) (by omega), w64 (n := (i : Int) + 1) (by omega) (by omega), hlen, w64 (n := Int.tdiv q h.length + 1) (by omega) (by omega), w64 (n := rd o (rd h i) + (Int.tdiv q h.length + 1)) (by omega) (by omega), w64 (n := rd o (rd h i) + Int.tdiv q h.length) (by omega) (by omega), if_pos (c := 0 ≤ (i : Int)) (by omega), if_pos hz2.1, if_pos (c := rd h i < (o.length : Int)) (by omega)]
    by_cases c : (i : Int) < Int.tmod q h.length
    · rw [if_pos c]
      exact nx _ (by unfold shr; rw [if_pos c])
    · rw [if_neg c, if_pos (by omega), if_pos hz2.1, if_pos (by omega)]
      exact nx _ (by unfold shr; rw [if_neg c, Int.add_zero])
/-- What is sorted by. -/
def fD (n : Int) (t : List S76) (y v : Int) : Int := - D n t v y
theorem clo {n : Int} {t : List S76} (g : Gok n t) {y a b : Int} (hy : Node n y) (ha : Node n a) (hb : Node n b) : impl_Shares_1.f a b [allD n t] [y] = some (D n t b y - D n t a y) := by
  have e5 : rd_L4 [allD n t] 0 = allD n t := rfl
  have ey : rd [y] 0 = y := rfl
  have la := allD_len g.1 t
  have l1 := (dist_ok g a).1
  have l2 := (dist_ok g b).1
  have d1 := D_lim g a hy
  have d2 := D_lim g b hy
  have ea : rd (dist n t a) y = D n t a y := rfl
  have eb : rd (dist n t b) y = D n t b y := rfl
  unfold impl_Shares_1.f
  rw [e5, ey, allD_rd t ha, allD_rd t hb, ea, eb]
  unfold Node at ha hb hy
  rw [if_pos (by simp), if_pos hb.1, if_pos (by omega), if_pos (by simp), if_pos hy.1, if_pos (by omega), if_pos ha.1, if_pos (by omega), if_pos (by omega), w64 (by omega) (by omega)]
def swI (x : List Int) (i j : Nat) : List Int := (x.set i (rd x j)).set j (rd x i)
theorem swI_perm {x : List Int} {i j : Nat} (hi : i < x.length) (hj : j < x.length) : (swI x i j).Perm x := by
  unfold swI
  rw [rd_nat hi, rd_nat hj]
  exact List.set_set_perm hi hj
theorem rd_swI {x : List Int} {i j : Nat} (hi : i < x.length) (hj : j < x.length) (t : Nat) : rd (swI x i j) t = if j = t then rd x i else if i = t then rd x j else rd x t := by
  unfold swI
  have a := rdn_set (o := x.set i (rd x j)) (i := (j : Int)) (j := (t : Int)) (rd x i) (by omega) (by rw [List.length_set]; omega) (by omega)
  have b := rdn_set (o := x) (i := (i : Int)) (j := (t : Int)) (rd x j) (by omega) (by omega) (by omega)
  rw [Int.toNat_natCast] at a b
  rw [a, b]
  by_cases c : j = t
  · rw [if_pos c, if_pos (by omega)]
  · rw [if_neg c, if_neg (by omega)]
    by_cases c2 : i = t
    · rw [if_pos c2, if_pos (by omega)]
    · rw [if_neg c2, if_neg (by omega)]
/-- Ascending in the distances f, from 0 to b. -/
def SrtI (f : Int → Int) (x : List Int) (b : Nat) : Prop := ∀ p q : Nat, p < q → q < b → f (rd x p) ≤ f (rd x q)
def InvI (f : Int → Int) (x : List Int) (i j : Nat) : Prop := ∀ p q : Nat, p < q → q ≤ i → q ≠ j → f (rd x p) ≤ f (rd x q)
theorem insI_inner {n : Int} {t : List S76} (g : Gok n t) {y : Int} (hy : Node n y) (i : Nat) : ∀ (j k : Nat) (x : List Int), j ≤ i → i < x.length → x.length ≤ 60 → (∀ w ∈ x, Node n w) → j < k → InvI (fD n t y) x i j →
    ∃ z k', k ≤ k' + j + 1 ∧ z.Perm x ∧ SrtI (fD n t y) z (i + 1) ∧ slices_insertionSortCmpFunc_int.l1 k x 0 x.length i j [allD n t] [y] = slices_insertionSortCmpFunc_int.l0 k' z 0 x.length ((i + 1 : Nat) : Int) [allD n t] [y] := by
  have hn := g.1
  intro j
  induction j with
  | zero =>
    intro k x hji hi hl hx hk hI
    obtain ⟨k, rfl⟩ : ∃ m, k = m + 1 := ⟨k - 1, by omega⟩
    refine ⟨x, k, by omega, List.Perm.refl _, fun p q h1 h2 => hI p q h1 (by omega) (by omega), ?_⟩
    simp only [slices_insertionSortCmpFunc_int.l1]
    rw [if_neg (by omega), w64 (by omega) (by omega)]
    rfl
  | succ j ih =>
    intro k x hji hi hl hx hk hI
    obtain ⟨k, rfl⟩ : ∃ m, k = m + 1 := ⟨k - 1, by omega⟩
    have e1 := Aside0.mk (show wrap64 (((j + 1 : Nat) : Int) - 1) = (j : Int) from by rw [w64 (by omega) (by omega)]; omega)
    have n1 := hx _ (rd_mem (o := x) (i := (j : Int)) (by omega) (by omega))
    have n2 := hx _ (rd_mem (o := x) (i := ((j + 1 : Nat) : Int)) (by omega) (by omega))
    have ec := clo g hy n2 n1
    have e3 : D n t (rd x (j : Int)) y - D n t (rd x ((j + 1 : Nat) : Int)) y = fD n t y (rd x ((j + 1 : Nat) : Int)) - fD n t y (rd x (j : Int)) := by unfold fD; omega
    rw [e3] at ec
    simp only [slices_insertionSortCmpFunc_int.l1]
    rw [e1.out, if_pos (by omega), if_pos (by omega), if_pos (by omega), if_pos (by omega), if_pos (by omega), ec]
    simp only [Option.bind_some, Int.toNat_natCast]
    by_cases c : fD n t y (rd x ((j + 1 : Nat) : Int)) < fD n t y (rd x (j : Int))
    · rw [if_pos (by omega)]
      have hm := swI_perm (x := x) (i := j + 1) (j := j) (by omega) (by omega)
      have r := rd_swI (x := x) (i := j + 1) (j := j) (by omega) (by omega)
      obtain ⟨z, k', q1, q2, q3, q4⟩ := ih k (swI x (j + 1) j) (by omega) (by rw [hm.length_eq]; exact hi) (by rw [hm.length_eq]; exact hl) (fun w hw => hx w (hm.mem_iff.1 hw)) (by omega) (fun p q h2 h3 h4 => by
        rw [r p, r q, if_neg (by omega : ¬ j = q)]
        by_cases cq : j + 1 = q
        · rw [if_pos cq]
          by_cases cp : j = p
          · rw [if_pos cp]; omega
          · rw [if_neg cp, if_neg (by omega)]
            exact hI p j (by omega) (by omega) (by omega)
        · rw [if_neg cq]
          by_cases cp : j = p
          · rw [if_pos cp]
            exact hI (j + 1) q (by omega) h3 (by omega)
          · rw [if_neg cp]
            by_cases cp2 : j + 1 = p
            · rw [if_pos cp2]
              exact hI j q (by omega) h3 (by omega)
            · rw [if_neg cp2]
              exact hI p q h2 h3 (by omega))
      rw [hm.length_eq] at q4
      exact ⟨z, k', by omega, q2.trans hm, q3, q4⟩
    · rw [if_neg (by omega)]
      refine ⟨x, k, by omega, List.Perm.refl _, fun p q h2 h3 => ?_, by rw [w64 (by omega) (by omega)]; rfl⟩
      by_cases cq : q = j + 1
      · subst cq
        by_cases cp : p = j
        · subst cp; omega
        · have := hI p j (by omega) (by omega) (by omega)
          omega
      · exact hI p q h2 (by omega) cq
theorem insI_outer {n : Int} {t : List S76} (g : Gok n t) {y : Int} (hy : Node n y) : ∀ (d k i : Nat) (x : List Int), i + d = x.length → x.length ≤ 60 → (∀ w ∈ x, Node n w) → d * (x.length + 3) + 1 < k → SrtI (fD n t y) x i →
    ∃ z, z.Perm x ∧ SrtI (fD n t y) z x.length ∧ slices_insertionSortCmpFunc_int.l0 k x 0 x.length i [allD n t] [y] = some z := by
  intro d
  induction d with
  | zero =>
    intro k i x hi hl hx hk hS
    obtain ⟨k, rfl⟩ : ∃ m, k = m + 1 := ⟨k - 1, by omega⟩
    obtain rfl : i = x.length := by omega
    simp only [slices_insertionSortCmpFunc_int.l0]
    rw [if_neg (by omega)]
    exact ⟨x, List.Perm.refl _, hS, rfl⟩
  | succ d ih =>
    intro k i x hi hl hx hk hS
    obtain ⟨k, rfl⟩ : ∃ m, k = m + 1 := ⟨k - 1, by omega⟩
    have hk2 : d * (x.length + 3) + (x.length + 3) + 1 < k + 1 := by rw [Nat.succ_mul] at hk; exact hk
    simp only [slices_insertionSortCmpFunc_int.l0]
    rw [if_pos (by omega)]
    obtain ⟨u, k', q1, q2, q3, q4⟩ := insI_inner g hy i i k x (Nat.le_refl _) (by omega) hl hx (by omega) (fun p q h1 h2 h3 => hS p q h1 (by omega))
    have le := q2.length_eq
    obtain ⟨z, z1, z2, z3⟩ := ih k' (i + 1) u (by omega) (by omega) (fun w hw => hx w (q2.mem_iff.1 hw)) (by rw [le]; omega) q3
    rw [le] at z2 z3
    exact ⟨z, z1.trans q2, z2, by rw [q4, z3]⟩
theorem u64k {n : Int} (h0 : 0 ≤ n) (h1 : n < 18446744073709551616) : IntKind.u64.wrap n = n := by
  have e : IntKind.u64.wrap n = n % 18446744073709551616 := rfl
  rw [e]; omega
theorem bits_Len_ok (a : Int) (h0 : 0 ≤ a) (h : a ≤ 60) (k : Nat) (hk : 3 < k) : ∃ b, bits_Len.f k a = some b := by
  obtain ⟨k, rfl⟩ : ∃ m, k = m + 4 := ⟨k - 4, by omega⟩
  unfold bits_Len.f bits_Len64.f
  rw [if_neg (by omega)]
  exact ⟨_, congrArg (fun o => Option.bind o fun t255 => some t255) ((if_neg (show ¬ a ≥ 65536 by omega)).trans ((if_neg (show ¬ a ≥ 256 by omega)).trans ((if_pos (show 0 ≤ a % 256 by omega)).trans (if_pos (show a % 256 < 256 by omega)))))⟩
theorem pdqI {x y : List Int} {o : List (List Int)} {b : Int} (hl : x.length ≤ 10) (k : Nat) : slices_pdqsortCmpFunc_int.f (k + 2) x 0 x.length b [o] y = slices_insertionSortCmpFunc_int.l0 k x 0 x.length ((1 : Nat) : Int) [o] y := by
  have e1 : wrap64 (0 + 1) = ((1 : Nat) : Int) := by rw [w64 (by omega) (by omega)]; rfl
  have c : wrap64 ((x.length : Int) - 0) ≤ 12 := by rw [w64 (by omega) (by omega)]; omega
  simp only [slices_pdqsortCmpFunc_int.f, slices_pdqsortCmpFunc_int.l0]
  rw [if_pos c]
  unfold slices_insertionSortCmpFunc_int.f
  rw [e1]
  cases slices_insertionSortCmpFunc_int.l0 k x 0 x.length ((1 : Nat) : Int) [o] y <;> rfl
theorem sfI {x y : List Int} {o : List (List Int)} {k : Nat} {b : Int} {r : Option (List Int)} (h1 : bits_Len.f k (IntKind.u64.wrap (x.length : Int)) = some b) (h2 : slices_pdqsortCmpFunc_int.f k x 0 x.length b [o] y = r) : slices_SortFunc_int_int.f k x [o] y = r := by
  unfold slices_SortFunc_int_int.f
  rw [h1, Option.bind_some, h2]
  cases r <;> rfl
theorem sortI {n : Int} {t : List S76} (g : Gok n t) {y : Int} (hy : Node n y) {x : List Int} (hl : x.length ≤ 10) (hx : ∀ w ∈ x, Node n w) {k : Nat} (hk : 200 < k) : ∃ z, z.Perm x ∧ SrtI (fD n t y) z x.length ∧ slices_SortFunc_int_int.f k x [allD n t] [y] = some z := by
  obtain ⟨k, rfl⟩ : ∃ m, k = m + 2 := ⟨k - 2, by omega⟩
  have e : IntKind.u64.wrap (x.length : Int) = x.length := u64k (by omega) (by omega)
  obtain ⟨b, hb⟩ := bits_Len_ok (x.length : Int) (by omega) (by omega) (k + 2) (by omega)
  rw [← e] at hb
  have key : ∃ z, z.Perm x ∧ SrtI (fD n t y) z x.length ∧ slices_insertionSortCmpFunc_int.l0 k x 0 x.length ((1 : Nat) : Int) [allD n t] [y] = some z := by
    by_cases c : x.length = 0
    · obtain ⟨k, rfl⟩ : ∃ m, k = m + 1 := ⟨k - 1, by omega⟩
      refine ⟨x, List.Perm.refl _, fun p q h1 h2 => by omega, ?_⟩
      simp only [slices_insertionSortCmpFunc_int.l0]
      rw [if_neg (by omega)]
    · have hm : (x.length - 1) * (x.length + 3) ≤ 9 * 13 := Nat.mul_le_mul (by omega) (by omega)
      exact insI_outer g hy (x.length - 1) k 1 x (by omega) (by omega) hx (by omega) (fun p q h1 h2 => by omega)
  obtain ⟨z, y1, y2, y3⟩ := key
  exact ⟨z, y1, y2, sfI hb ((pdqI hl k).trans y3)⟩
def Bd (i : Nat) : Int := 100000 * 12 ^ i
theorem Bd_succ (i : Nat) : Bd (i + 1) = Bd i * 12 := by
  unfold Bd
  rw [Int.pow_succ, ← Int.mul_assoc]
theorem Bd_lim {i : Nat} (h : i ≤ 10) : 10 ≤ Bd i ∧ Bd i ≤ 6191736422400000 := by
  rcases i with _ | _ | _ | _ | _ | _ | _ | _ | _ | _ | _ | i
  all_goals first
    | (unfold Bd; decide)
    | omega
theorem hops_now {n : Int} {t : List S76} (g : Gok n t) {x y : Int} (hx : Node n x) (hy : Node n y) : (if x = y ∨ D n t x y = 1000000 then [] else hopsR n t x y) = hopsL n t x y := by
  have d := D_lim g x hy
  by_cases c : x = y ∨ D n t x y = 1000000
  · rw [if_pos c, hops_none g hx hy (by omega)]
  · rw [if_neg c, hops_eq g hx]
theorem turn_ok {n : Int} {t : List S76} (g : Gok n t) {x y : Int} (hx : Node n x) {o : List Int} {i : Nat} (hi : i ≤ 10) (hb : ∀ v, Node n v → 0 ≤ rd o v ∧ rd o v ≤ Bd i) : 0 ≤ rd o x ∧ (∀ w ∈ hopsL n t x y, Node n w ∧ w ≠ x) ∧ (hopsL n t x y).length ≤ 10 ∧ ∀ v, Node n v → 0 ≤ rd o v ∧ rd o v + (hopsL n t x y).length * (rd o x + 1) ≤ 9000000000000000000 := by
  have b := hb x hx
  have l := hops_len g (y := y) hx
  have B := Bd_lim hi
  have m : ((hopsL n t x y).length : Int) * (rd o x + 1) ≤ 10 * (rd o x + 1) := Int.mul_le_mul_of_nonneg_right (by omega) (by omega)
  refine ⟨b.1, fun w hw => ⟨(hop_lt g hw).1, (hop_lt g hw).2.2⟩, l, fun v hv => ?_⟩
  have c := hb v hv
  generalize ((hopsL n t x y).length : Int) * (rd o x + 1) = Z at m ⊢
  omega
theorem sh_l1 {n : Int} {t : List S76} (g : Gok n t) {f y a : Int} (hy : Node n y) {ys : List Int} (h10 : ys.length ≤ 10) (h1 : ∀ w ∈ ys, Node n w) (h2 : ∀ p q : Nat, p < q → q < ys.length → D n t (rd ys q) y ≤ D n t (rd ys p) y) : ∀ (d i k : Nat) (o : List Int), i + d = ys.length → d * 12 + t.length * 12 + 100 < k → Inv n t f y a (ys.take i) o → (∀ v, Node n v → 0 ≤ rd o v ∧ rd o v ≤ Bd i) →
    ∃ o', impl_Shares.l1 k o ys ys.length i n t y (allD n t) = some o' ∧ Inv n t f y a ys o' := by
  intro d
  induction d with
  | zero =>
    intro i k o hi hk hI hb
    obtain ⟨k, rfl⟩ : ∃ m, k = m + 1 := ⟨k - 1, by omega⟩
    simp only [impl_Shares.l1]
    rw [if_neg (by omega)]
    have e : i = ys.length := by omega
    rw [e, List.take_length] at hI
    exact ⟨o, rfl, hI⟩
  | succ d ih =>
    intro i k o hi hk hI hb
    obtain ⟨k, rfl⟩ : ∃ m, k = m + 1 := ⟨k - 1, by omega⟩
    have hx := h1 _ (rd_mem (o := ys) (i := (i : Int)) (by omega) (by omega))
    obtain ⟨t1, t2, t3, t4⟩ := turn_ok g (y := y) hx (show i ≤ 10 by omega) hb
    have B := Bd_lim (show i ≤ 10 by omega)
    have hh := impl_HopsG g hx hy (k := k) (by omega)
    rw [hops_now g hx hy] at hh
    obtain ⟨k2, hk2⟩ : ∃ k2, k = k2 + (hopsL n t (rd ys i) y).length + 1 := ⟨k - (hopsL n t (rd ys i) y).length - 1, by omega⟩
    have z := sh_impl hx t1 t2 k2 ys ys.length i (allD n t) (t := t) (y := y) (hopsL n t (rd ys i) y).length 0 k o (by omega) hk2 t3 hI.1 rfl t4
    have e0 : ((0 : Nat) : Int) = 0 := rfl
    have et : ys.take i ++ [rd ys i] = ys.take (i + 1) := by
      rw [List.take_add_one, List.getElem?_eq_getElem (by omega), rd_nat (show i < ys.length by omega)]
      rfl
    have st := hI.step g hx (fun w hw => by
      obtain ⟨p, hp, e⟩ := List.mem_take_iff_getElem.1 hw
      have q := h2 p i (by omega) (by omega)
      rw [rd_nat (show p < ys.length by omega), e] at q
      exact q)
    rw [et] at st
    have lim := giv_lim g hx hI.1 B.1 hb (y := y)
    rw [← Bd_succ] at lim
    obtain ⟨o', q1, q2⟩ := ih (i + 1) k2 _ (by omega) (by omega) st lim
    rw [e0, wr1 (by omega)] at z
    simp only [impl_Shares.l1]
    rw [if_pos (by omega), if_pos (by omega), if_pos (by omega), hh]
    simp only [Option.bind_some]
    refine ⟨o', ?_, q2⟩
    rw [z]
    exact q1
def reachT (n : Int) (t : List S76) (y : Int) (i d : Nat) : List Int := ((List.range' i d).map fun (j : Nat) => (j : Int)).filter fun v => decide (v ≠ y ∧ D n t v y < 1000000)
theorem reachT_cons (n : Int) (t : List S76) (y : Int) (i d : Nat) : reachT n t y i (d + 1) = if (i : Int) ≠ y ∧ D n t i y < 1000000 then (i : Int) :: reachT n t y (i + 1) d else reachT n t y (i + 1) d := by
  unfold reachT
  rw [List.range'_succ, List.map_cons, List.filter_cons]
  by_cases c : (i : Int) ≠ y ∧ D n t i y < 1000000
  · rw [if_pos (decide_eq_true c), if_pos c]
  · rw [if_neg (fun h => c (of_decide_eq_true h)), if_neg c]
theorem reachT_len (n : Int) (t : List S76) (y : Int) (i d : Nat) : (reachT n t y i d).length ≤ d := by
  have l : (reachT n t y i d).length ≤ _ := List.length_filter_le ..
  rw [List.length_map, List.length_range'] at l
  exact l
theorem mem_reachT {n : Int} {t : List S76} {y w : Int} {d : Nat} : w ∈ reachT n t y 0 d ↔ (0 ≤ w ∧ w < d) ∧ w ≠ y ∧ D n t w y < 1000000 := by
  unfold reachT
  rw [List.mem_filter, List.mem_map]
  constructor
  · rintro ⟨⟨j, hj, rfl⟩, h⟩
    obtain ⟨i, hi, rfl⟩ := List.mem_range'.1 hj
    exact ⟨⟨by omega, by omega⟩, of_decide_eq_true h⟩
  · rintro ⟨⟨h1, h2⟩, h⟩
    exact ⟨⟨w.toNat, List.mem_range'.2 ⟨w.toNat, by omega, by omega⟩, by omega⟩, decide_eq_true h⟩
theorem reachT_nodup (n : Int) (t : List S76) (y : Int) (i d : Nat) : (reachT n t y i d).Nodup := by
  unfold reachT
  refine List.Pairwise.filter _ (List.pairwise_map.2 ?_)
  exact List.Pairwise.imp (fun h e => by omega) (List.pairwise_lt_range' (s := i) (n := d))
theorem sh_l0 {n : Int} {t : List S76} (g : Gok n t) {y : Int} (hy : Node n y) (o : List Int) (k : Nat) : ∀ (d i K : Nat) (acc : List Int), (i : Int) + d = n → K = k + d → acc.length ≤ i → impl_Shares.l0 K o acc n i n t y (allD n t) = impl_Shares.l0 k o (acc ++ reachT n t y i d) n n n t y (allD n t) := by
  have hn := g.1
  have la := allD_len hn t
  have hy2 := hy
  unfold Node at hy2
  intro d
  induction d with
  | zero =>
    intro i K acc hi hK ha
    subst hK
    have e : (i : Int) = n := by omega
    have e2 : reachT n t y i 0 = [] := rfl
    rw [e, e2, List.append_nil]
  | succ d ih =>
    intro i K acc hi hK ha
    obtain ⟨K, rfl⟩ : ∃ m, K = m + 1 := ⟨K - 1, by omega⟩
    have e1 : (i : Int) + 1 = ((i + 1 : Nat) : Int) := by omega
    have hi2 : Node n i := by unfold Node; omega
    have li := (dist_ok g (i : Int)).1
    have er : rd (dist n t i) y = D n t i y := rfl
    simp only [impl_Shares.l0]
    rw [if_pos (by omega), w64 (n := (i : Int) + 1) (by omega) (by omega), e1, reachT_cons]
    by_cases c0 : (i : Int) = y
    · rw [if_pos c0, if_neg (fun h => h.1 c0), ih (i + 1) K acc (by omega) (by omega) (by omega)]
    · rw [if_neg c0, if_pos (by omega), if_pos (by omega), if_pos hy2.1, allD_rd t hi2, if_pos (by omega), er]
      by_cases c : D n t i y < 1000000
      · rw [if_pos c, if_pos (by omega), if_pos ⟨c0, c⟩, ih (i + 1) K (acc ++ [(i : Int)]) (by omega) (by omega) (by rw [List.length_append, List.length_singleton]; omega), List.append_assoc]
        rfl
      · rw [if_neg c, if_neg (fun h => c h.2), ih (i + 1) K acc (by omega) (by omega) (by omega)]
theorem Inv.start {n : Int} (t : List S76) {f : Int} (hf : Node n f) (y a : Int) : Inv n t f y a [] ((List.replicate n.toNat 0).set f.toNat a) := by
  have hf2 := hf
  unfold Node at hf2
  refine ⟨by rw [List.length_set, List.length_replicate]; omega, (fun x hx => by cases hx), fun v hv => ?_⟩
  have hv2 := hv
  unfold Node at hv2
  rw [rdn_set a hf2.1 (by rw [List.length_replicate]; omega) hv2.1]
  have e : Fl n t y ((List.replicate n.toNat 0).set f.toNat a) [] v = 0 := rfl
  rw [e]
  by_cases c : f = v
  · rw [if_pos c, if_pos c]; omega
  · rw [if_neg c, if_neg c, rd_rep' hv2.1 (by omega)]; rfl
theorem start_lim {n : Int} {f : Int} (hf : Node n f) {a : Int} (ha : 1 ≤ a ∧ a ≤ 100000) : ∀ v, Node n v → 0 ≤ rd ((List.replicate n.toNat 0).set f.toNat a) v ∧ rd ((List.replicate n.toNat 0).set f.toNat a) v ≤ Bd 0 := by
  intro v hv
  have hf2 := hf
  have hv2 := hv
  unfold Node at hf2 hv2
  have e : Bd 0 = 100000 := by decide
  rw [rdn_set a hf2.1 (by rw [List.length_replicate]; omega) hv2.1, e]
  by_cases c : f = v
  · rw [if_pos c]; omega
  · rw [if_neg c, rd_rep' hv2.1 (by omega)]; omega
theorem impl_SH {n : Int} {t : List S76} (g : Gok n t) {f y a : Int} (hf : Node n f) (hy : Node n y) (ha : 1 ≤ a ∧ a ≤ 100000) {k : Nat} (hk : t.length * 12 + 1000 < k) : ∃ o', impl_Shares.l0 k ((List.replicate n.toNat 0).set f.toNat a) [] n 0 n t y (allD n t) = some o' ∧ Inv n t f y a (nodes n) o' := by
  have hn := g.1
  have e0 : ((0 : Nat) : Int) = 0 := rfl
  obtain ⟨k, rfl⟩ : ∃ m, k = (m + 1) + n.toNat := ⟨k - n.toNat - 1, by omega⟩
  have z := sh_l0 g hy ((List.replicate n.toNat 0).set f.toNat a) (k + 1) n.toNat 0 (k + 1 + n.toNat) [] (by omega) rfl (Nat.le_refl _)
  rw [e0, List.nil_append] at z
  rw [z]
  have rl := reachT_len n t y 0 n.toNat
  have rm : ∀ w ∈ reachT n t y 0 n.toNat, Node n w := fun w hw => by
    obtain ⟨⟨a, b⟩, c⟩ := mem_reachT.1 hw
    unfold Node
    omega
  obtain ⟨ys, y1, y2, y3⟩ := sortI g hy (x := reachT n t y 0 n.toNat) (by omega) rm (k := k) (by omega)
  have le := y1.length_eq
  rw [← le] at y2
  have h2 : ∀ p q : Nat, p < q → q < ys.length → D n t (rd ys q) y ≤ D n t (rd ys p) y := fun p q h1 h2 => by
    have := y2 p q h1 h2
    unfold fD at this
    omega
  obtain ⟨o', q1, q2⟩ := sh_l1 g (f := f) (a := a) hy (by omega) (fun w hw => rm w (y1.mem_iff.1 hw)) h2 ys.length 0 k _ (by omega) (by omega) (by rw [List.take_zero]; exact Inv.start t hf y a) (start_lim hf ha)
  rw [e0] at q1
  refine ⟨o', ?_, q2.all ⟨y1.nodup_iff.2 (reachT_nodup ..), fun x hx hm v => S_hops (hops_none g hx hy ?_)⟩⟩
  · simp only [impl_Shares.l0]
    rw [if_neg (by omega), y3]
    simp only [Option.bind_some]
    rw [← le]
    exact q1
  · by_cases c : x = y
    · exact .inl c
    · refine .inr (fun h => hm (y1.mem_iff.2 (mem_reachT.2 ⟨?_, c, h⟩)))
      unfold Node at hx
      omega
/-- A node whose turn may be next. -/
def Cs (n y : Int) (o : List Int) (Dn : List Bool) (v : Int) : Prop := Node n v ∧ rdOf false Dn v = false ∧ v ≠ y ∧ 0 < rd o v
theorem sh_pick {n : Int} {t : List S76} (g : Gok n t) {y : Int} (hy : Node n y) {o : List Int} {Dn : List Bool} (ho : (o.length : Int) = n) (hd : (Dn.length : Int) = n) (r : Int) (k : Nat) (hk : t.length * 12 + 100 < k) : ∀ (d i K : Nat) (at_ : Int), (i : Int) + d = n → K = k + d + 1 → ((at_ = -1 ∧ ∀ v, Cs n y o Dn v → (i : Int) ≤ v) ∨ (Cs n y o Dn at_ ∧ ∀ v, Cs n y o Dn v → v < i → D n t v y ≤ D n t at_ y)) →
    ((∀ v, ¬ Cs n y o Dn v) ∧ spec_Shares.l1 K y o Dn r at_ i n t = some o) ∨ (∃ x, Cs n y o Dn x ∧ (∀ v, Cs n y o Dn v → D n t v y ≤ D n t x y) ∧ spec_Shares.l1 K y o Dn r at_ i n t = spec_Shares.l2 k y o (Dn.set x.toNat true) r x (hopsL n t x y) 0 n t) := by
  have hn := g.1
  have hy2 := hy
  unfold Node at hy2
  intro d
  induction d with
  | zero =>
    intro i K at_ hi hK hI
    subst hK
    simp only [spec_Shares.l1]
    rw [if_neg (by omega)]
    rcases hI with ⟨h1, h2⟩ | ⟨h1, h2⟩
    · refine .inl ⟨fun v hv => ?_, by rw [if_pos (by omega)]⟩
      have a := h2 v hv
      have b := hv.1
      unfold Node at b
      omega
    · have b := h1.1
      unfold Node at b
      refine .inr ⟨at_, h1, fun v hv => h2 v hv (by have c := hv.1; unfold Node at c; omega), ?_⟩
      have z := spec_HopsG g h1.1 hy (k := k) (by omega)
      rw [hops_now g h1.1 hy] at z
      rw [if_neg (by omega), if_pos b.1, if_pos (by omega), z]
      rfl
  | succ d ih =>
    intro i K at_ hi hK hI
    obtain ⟨K, rfl⟩ : ∃ m, K = m + 1 := ⟨K - 1, by omega⟩
    have e1 : (i : Int) + 1 = ((i + 1 : Nat) : Int) := by omega
    have hi2 : Node n i := by unfold Node; omega
    have skip : ¬ Cs n y o Dn i → ((∀ v, ¬ Cs n y o Dn v) ∧ spec_Shares.l1 K y o Dn r at_ ((i + 1 : Nat) : Int) n t = some o) ∨ (∃ x, Cs n y o Dn x ∧ (∀ v, Cs n y o Dn v → D n t v y ≤ D n t x y) ∧ spec_Shares.l1 K y o Dn r at_ ((i + 1 : Nat) : Int) n t = spec_Shares.l2 k y o (Dn.set x.toNat true) r x (hopsL n t x y) 0 n t) := fun hc => by
      refine ih (i + 1) K at_ (by omega) (by omega) ?_
      rcases hI with ⟨h1, h2⟩ | ⟨h1, h2⟩
      · refine .inl ⟨h1, fun v hv => ?_⟩
        have a := h2 v hv
        by_cases e : v = (i : Int)
        · rw [e] at hv; exact absurd hv hc
        · omega
      · refine .inr ⟨h1, fun v hv hl => ?_⟩
        by_cases e : v = (i : Int)
        · rw [e] at hv; exact absurd hv hc
        · exact h2 v hv (by omega)
    have take : Cs n y o Dn i → (at_ = -1 ∨ D n t at_ y < D n t i y) → ((∀ v, ¬ Cs n y o Dn v) ∧ spec_Shares.l1 K y o Dn r i ((i + 1 : Nat) : Int) n t = some o) ∨ (∃ x, Cs n y o Dn x ∧ (∀ v, Cs n y o Dn v → D n t v y ≤ D n t x y) ∧ spec_Shares.l1 K y o Dn r i ((i + 1 : Nat) : Int) n t = spec_Shares.l2 k y o (Dn.set x.toNat true) r x (hopsL n t x y) 0 n t) := fun hc hx => by
      refine ih (i + 1) K i (by omega) (by omega) (.inr ⟨hc, fun v hv hl => ?_⟩)
      by_cases e : v = (i : Int)
      · rw [e]; exact Int.le_refl _
      · rcases hI with ⟨h1, h2⟩ | ⟨h1, h2⟩
        · have := h2 v hv; omega
        · have a := h2 v hv (by omega)
          have b := h1.1
          unfold Node at b
          rcases hx with hx | hx
          · omega
          · omega
    simp only [spec_Shares.l1]
    rw [if_pos (by omega), if_pos (by omega), if_pos (by omega), w64 (n := (i : Int) + 1) (by omega) (by omega), e1]
    by_cases c1 : rdOf false Dn (i : Int) = true
    · rw [if_pos c1]
      exact skip (fun h => by rw [h.2.1] at c1; cases c1)
    · have c1' : rdOf false Dn (i : Int) = false := by simpa using c1
      rw [if_neg c1]
      by_cases c2 : (i : Int) = y
      · rw [if_pos c2]
        exact skip (fun h => h.2.2.1 c2)
      · rw [if_neg c2, if_pos (by omega)]
        by_cases c3 : rd o (i : Int) > 0
        · rw [if_pos c3]
          have hc : Cs n y o Dn i := ⟨hi2, c1', c2, c3⟩
          by_cases c4 : at_ < 0
          · rw [if_pos c4]
            refine take hc (.inl ?_)
            rcases hI with ⟨h1, _⟩ | ⟨h1, _⟩
            · exact h1
            · have b := h1.1
              unfold Node at b
              omega
          · rw [if_neg c4]
            have ha : Cs n y o Dn at_ := by
              rcases hI with ⟨h1, _⟩ | ⟨h1, _⟩
              · omega
              · exact h1
            have l1 := (dist_ok g (i : Int)).1
            have l2 := (dist_ok g at_).1
            have ea : rd (dist n t i) y = D n t i y := rfl
            have eb : rd (dist n t at_) y = D n t at_ y := rfl
            rw [spec_Dist' g hi2 (by omega)]
            simp only [Option.bind_some]
            rw [if_pos hy2.1, if_pos (by omega), spec_Dist' g ha.1 (by omega)]
            simp only [Option.bind_some]
            rw [if_pos (by omega), ea, eb]
            by_cases c5 : D n t i y > D n t at_ y
            · rw [if_pos c5]
              exact take hc (.inr (by omega))
            · rw [if_neg c5]
              refine ih (i + 1) K at_ (by omega) (by omega) (.inr ⟨ha, fun v hv hl => ?_⟩)
              by_cases e : v = (i : Int)
              · rw [e]; omega
              · rcases hI with ⟨h1, _⟩ | ⟨_, h2⟩
                · omega
                · exact h2 v hv (by omega)
        · rw [if_neg c3]
          exact skip (fun h => c3 h.2.2.2)
theorem nd_set {n : Int} {Dn : List Bool} (hd : (Dn.length : Int) = n) {x : Int} (hx : Node n x) (h : rdOf false Dn x = false) : nd n (Dn.set x.toNat true) + 1 ≤ nd n Dn := by
  have hx2 := hx
  unfold Node at hx2
  unfold nd
  refine filter_lt' _ _ _ (fun u hu h1 => ?_) ⟨x.toNat, List.mem_range.2 (by omega), ?_, ?_⟩
  · rw [rdb_set true hx2.1 (by omega) (by omega)] at h1
    by_cases c : x = (u : Int)
    · rw [if_pos c] at h1; simp at h1
    · rw [if_neg c] at h1; exact h1
  · have e : ((x.toNat : Nat) : Int) = x := by omega
    rw [e, h]; rfl
  · have e : ((x.toNat : Nat) : Int) = x := by omega
    rw [e, rdb_set true hx2.1 (by omega) hx2.1, if_pos rfl]
    simp
/-- The reference's rounds. -/
theorem sh_rounds {n : Int} {t : List S76} (g : Gok n t) {f y a : Int} (hy : Node n y) : ∀ (d i k : Nat) (o : List Int) (Dn : List Bool) (P : List Int), (i : Int) + d = n → d * 30 + t.length * 12 + 120 < k → (Dn.length : Int) = n → nd n Dn ≤ d → P.Nodup → (∀ v, Node n v → (rdOf false Dn v = true ↔ v ∈ P)) → y ∉ P → Inv n t f y a P o → (∀ v, Node n v → 0 ≤ rd o v ∧ rd o v ≤ Bd i) → (∀ c, Cs n y o Dn c → ∀ x ∈ P, D n t c y ≤ D n t x y) →
    ∃ o', spec_Shares.l0 k y o Dn i n t = some o' ∧ Inv n t f y a (nodes n) o' := by
  have hn := g.1
  have fin : ∀ (o : List Int) (Dn : List Bool) (P : List Int), P.Nodup → (∀ v, Node n v → (rdOf false Dn v = true ↔ v ∈ P)) → Inv n t f y a P o → (∀ v, Node n v → 0 ≤ rd o v) → (∀ v, ¬ Cs n y o Dn v) → Inv n t f y a (nodes n) o := by
    intro o Dn P hP hD hI hb hc
    refine hI.all ⟨hP, fun x hx hm v => ?_⟩
    by_cases c : x = y
    · exact S_hops (hops_none g hx hy (.inl c))
    · have hd : rdOf false Dn x = false := by
        have := mt (hD x hx).1 hm
        simpa using this
      have z := hc x
      have b := hb x hx
      have e : rd o x = 0 := by
        by_cases c2 : 0 < rd o x
        · exact absurd ⟨hx, hd, c, c2⟩ z
        · omega
      rw [e]
      exact S_zero n t y x v
  intro d
  induction d with
  | zero =>
    intro i k o Dn P hi hk hd hnd hP hD hyP hI hb hO
    obtain ⟨k, rfl⟩ : ∃ m, k = m + 1 := ⟨k - 1, by omega⟩
    have := (hD y hy).1 (nd_zero (by omega) hy)
    exact absurd this hyP
  | succ d ih =>
    intro i k o Dn P hi hk hd hnd hP hD hyP hI hb hO
    obtain ⟨k, rfl⟩ : ∃ m, k = m + 1 := ⟨k - 1, by omega⟩
    have hi10 : i ≤ 10 := by omega
    have B := Bd_lim hi10
    simp only [spec_Shares.l0]
    rw [if_pos (by omega)]
    have e0 : ((0 : Nat) : Int) = 0 := rfl
    have pk := sh_pick g hy hI.1 hd (i : Int) (k - n.toNat - 1) (by omega) n.toNat 0 k (-1) (by omega) (by omega) (.inl ⟨rfl, fun v hv => by have b := hv.1; unfold Node at b; omega⟩)
    rw [e0] at pk
    rcases pk with ⟨h1, h2⟩ | ⟨x, hx, h1, h2⟩
    · exact ⟨o, h2, fin o Dn P hP hD hI (fun v hv => (hb v hv).1) h1⟩
    · rw [h2]
      have hxn := hx.1
      have hx2 := hxn
      unfold Node at hx2
      obtain ⟨t1, t2, t3, t4⟩ := turn_ok g (y := y) hxn hi10 hb
      obtain ⟨k2, hk2⟩ : ∃ k2, k - n.toNat - 1 = k2 + (hopsL n t x y).length + 1 := ⟨k - n.toNat - 1 - (hopsL n t x y).length - 1, by omega⟩
      have z := sh_spec hxn t1 t2 k2 (Dn.set x.toNat true) i (t := t) (y := y) (hopsL n t x y).length 0 (k - n.toNat - 1) o (by omega) hk2 t3 hI.1 rfl t4
      rw [e0, wr1 (by omega)] at z
      rw [z]
      have rD : ∀ v, Node n v → rdOf false (Dn.set x.toNat true) v = if x = v then true else rdOf false Dn v := fun v hv => by
        unfold Node at hv; exact rdb_set true hx2.1 (by omega) hv.1
      have hxP : x ∉ P := fun h => by
        have := (hD x hxn).2 h
        rw [hx.2.1] at this
        cases this
      have lim := giv_lim g hxn hI.1 B.1 hb (y := y)
      rw [← Bd_succ] at lim
      obtain ⟨g1, g2⟩ := giv_rd g (x := x) (y := y) hI.1
      refine ih (i + 1) k2 _ _ (P ++ [x]) (by omega) (by omega) (by rw [List.length_set]; exact hd) (by have := nd_set hd hxn hx.2.1; omega) ?_ (fun v hv => ?_) ?_ (hI.step g hxn (fun w hw => hO x hx w hw)) lim (fun c hc w hw => ?_)
      · exact List.nodup_append.2 ⟨hP, List.nodup_cons.2 ⟨by simp, List.nodup_nil⟩, fun u hu w hw e => hxP (by rw [List.mem_singleton.1 hw] at e; rw [← e]; exact hu)⟩
      · rw [rD v hv, List.mem_append, List.mem_singleton]
        by_cases c : x = v
        · rw [if_pos c]
          exact ⟨fun _ => .inr c.symm, fun _ => rfl⟩
        · rw [if_neg c]
          exact ⟨fun h => .inl ((hD v hv).1 h), fun h => by
            rcases h with h | h
            · exact (hD v hv).2 h
            · exact absurd h.symm c⟩
      · intro h
        rcases List.mem_append.1 h with h | h
        · exact hyP h
        · exact hx.2.2.1 (List.mem_singleton.1 h).symm
      · obtain ⟨c1, c2, c3, c4⟩ := hc
        have cx : D n t c y ≤ D n t x y := by
          by_cases cc : D n t x y ≤ D n t c y
          · rw [rD c c1] at c2
            by_cases e : x = c
            · rw [if_pos e] at c2; cases c2
            · rw [if_neg e] at c2
              have e2 : rd (giv n t y o x) c = rd o c := by rw [g2 c c1, S_none g cc]; omega
              exact h1 c ⟨c1, c2, c3, by rw [← e2]; exact c4⟩
          · omega
        rcases List.mem_append.1 hw with hw | hw
        · exact Int.le_trans cx (hO x hx w hw)
        · rw [List.mem_singleton.1 hw]; exact cx
theorem sh_start {n : Int} {t : List S76} (g : Gok n t) {f y a : Int} (hf : Node n f) (hy : Node n y) (ha : 1 ≤ a ∧ a ≤ 100000) {k : Nat} (hk : t.length * 12 + 1000 < k) : ∃ o', spec_Shares.l0 k y ((List.replicate n.toNat 0).set f.toNat a) (List.replicate n.toNat false) 0 n t = some o' ∧ Inv n t f y a (nodes n) o' := by
  have hn := g.1
  have rb : ∀ v, rdOf false (List.replicate n.toNat false) v = false := fun v => by
    unfold rdOf
    rw [List.getD_eq_getElem?_getD]
    by_cases c : v.toNat < n.toNat
    · simp [c]
    · simp [c]
  have e0 : ((0 : Nat) : Int) = 0 := rfl
  have z := sh_rounds g (f := f) (a := a) hy n.toNat 0 k ((List.replicate n.toNat 0).set f.toNat a) (List.replicate n.toNat false) [] (by omega) (by omega) (by rw [List.length_replicate]; omega) (by
    unfold nd
    refine Nat.le_trans (List.length_filter_le _ _) ?_
    rw [List.length_range]
    exact Nat.le_refl _) List.nodup_nil (fun v _ => by rw [rb v]; simp) (by simp) (Inv.start t hf y a) (start_lim hf ha) (fun c _ x hx => by cases hx)
  rw [e0] at z
  exact z
theorem both_SharesI (n : Int) {t : List S76} (h : t.length ≤ 1048576) (x y a : Int) : ∃ r : List Int, r.length ≤ 1000 ∧ (r ≠ [] → (Gok n t ∧ Node n x ∧ Node n y) ∧ (1 ≤ a ∧ a ≤ 100000) ∧ D n t x y < 1000000 ∧ Inv n t x y a (nodes n) r) ∧ ∀ k, t.length * 20 + 2500 < k → spec_Shares.f k n t x y a = some r ∧ impl_Shares.f k n t x y a = some r := by
  by_cases c : (Gok n t ∧ Node n x) ∧ Node n y ∧ (1 ≤ a ∧ a ≤ 100000)
  · obtain ⟨⟨g, hx⟩, hy, ha⟩ := c
    have hn := g.1
    have hl : t.length ≤ 60 := g.2.1
    have hx2 := hx
    have hy2 := hy
    unfold Node at hx2 hy2
    have hA := allD_len g.1 t
    have dl := D_lim g x hy
    have lx := (dist_ok g x).1
    have er : rd (dist n t x) y = D n t x y := rfl
    have pre : ∀ (R : List Int), (∀ k, t.length * 15 + 2000 < k → (if x = y then spec_Shares.j1 k x y a false n t else spec_Shares.j1 k x y a (((hopsL n t x y).length : Int) == 0) n t) = some R) → (∀ k, t.length * 15 + 2000 < k → (if D n t x y = 1000000 then some ([] : List Int) else impl_Shares.l0 k ((List.replicate n.toNat 0).set x.toNat a) [] n 0 n t y (allD n t)) = some R) → ∀ k, t.length * 20 + 2500 < k → spec_Shares.f k n t x y a = some R ∧ impl_Shares.f k n t x y a = some R := by
      intro R hS hI k hk
      obtain ⟨k, rfl⟩ : ∃ m, k = m + 1 := ⟨k - 1, by omega⟩
      obtain ⟨b0, h1, h2, h3⟩ := both_Gok n (t := t) h (k := k + 1) (by omega)
      refine ⟨?_, ?_⟩
      · have hh := spec_HopsG g hx hy (k := k) (by omega)
        rw [hops_now g hx hy] at hh
        unfold spec_Shares.f
        rw [spec_In, decide_eq_true ha, h1]
        simp only [Option.bind_some, if_true]
        rw [if_pos (h3.2 g), spec_Node hn, spec_Node hn, decide_eq_true hx, decide_eq_true hy]
        simp only [Option.bind_some, if_true, Bool.not_true, spec_Shares.j0]
        rw [if_neg (by decide), hh]
        simp only [Option.bind_some]
        exact hS k (by omega)
      · unfold impl_Shares.f
        rw [impl_In, decide_eq_true ha, h2]
        simp only [Option.bind_some]
        rw [if_pos (h3.2 g), impl_Node hn, impl_Node hn, decide_eq_true hx, decide_eq_true hy]
        simp only [Option.bind_some, if_true, Bool.not_true, impl_Shares.j0]
        rw [if_neg (by decide), impl_all g (by omega)]
        simp only [Option.bind_some]
        rw [if_pos hx2.1, if_pos (by omega), if_pos hy2.1, allD_rd t hx, if_pos (by omega), er]
        have hk' := hI k (by omega)
        by_cases c4 : D n t x y = 1000000
        · rw [if_pos c4] at hk' ⊢
          exact hk'
        · rw [if_neg c4] at hk' ⊢
          rw [if_pos (by omega), if_pos (by omega), List.length_replicate, if_pos (by omega)]
          exact hk'
    have sj : ∀ k, t.length * 15 + 2000 < k → ∃ o', spec_Shares.j1 k x y a false n t = some o' ∧ Inv n t x y a (nodes n) o' := fun k hk => by
      obtain ⟨k, rfl⟩ : ∃ m, k = m + 1 := ⟨k - 1, by omega⟩
      obtain ⟨o', q1, q2⟩ := sh_start g hx hy ha (k := k) (by omega)
      refine ⟨o', ?_, q2⟩
      simp only [spec_Shares.j1]
      rw [if_neg (by decide), if_pos (by omega), if_pos (by omega)]
      simp only [Option.bind_some]
      rw [List.length_replicate, if_pos hx2.1, if_pos (by omega), if_pos (by omega)]
      exact q1
    by_cases c2 : D n t x y < 1000000
    · obtain ⟨R, _, hR⟩ := impl_SH g hx hy ha (k := t.length * 12 + 1001) (by omega)
      refine ⟨R, by have := hR.1; omega, fun _ => ⟨⟨g, hx, hy⟩, ha, c2, hR⟩, pre R (fun k hk => ?_) (fun k hk => ?_)⟩
      · obtain ⟨o', q1, q2⟩ := sj k hk
        have e := Inv.uniq g hy q2 hR
        rw [e] at q1
        by_cases c3 : x = y
        · rw [if_pos c3]; exact q1
        · rw [if_neg c3]
          obtain ⟨z, hz⟩ := hop_ex g hx hy c3 c2
          have : 0 < (hopsL n t x y).length := List.length_pos_of_mem hz
          have e2 : (((hopsL n t x y).length : Int) == 0) = false := by rw [beq_eq_false_iff_ne]; omega
          rw [e2]
          exact q1
      · obtain ⟨o', q1, q2⟩ := impl_SH g hx hy ha (k := k) (by omega)
        have e := Inv.uniq g hy q2 hR
        rw [e] at q1
        rw [if_neg (by omega)]
        exact q1
    · have hxy : ¬ x = y := fun e => by
        rw [← e, D_self g hx] at c2
        omega
      refine ⟨[], Nat.zero_le _, fun q => absurd rfl q, pre [] (fun k hk => ?_) (fun k hk => ?_)⟩
      · obtain ⟨k, rfl⟩ : ∃ m, k = m + 1 := ⟨k - 1, by omega⟩
        rw [if_neg hxy, hops_none g hx hy (.inr c2)]
        simp only [spec_Shares.j1]
        rfl
      · rw [if_pos (by omega)]
  · refine ⟨[], Nat.zero_le _, fun q => absurd rfl q, fun k hk => ?_⟩
    obtain ⟨k, rfl⟩ : ∃ m, k = m + 1 := ⟨k - 1, by omega⟩
    obtain ⟨b0, h1, h2, h3⟩ := both_Gok n (t := t) h (k := k + 1) (by omega)
    have js : spec_Shares.j0 (k + 1) x y a true n t = some [] := by
      simp only [spec_Shares.j0]
      rw [if_pos trivial]
    have ji : impl_Shares.j0 (k + 1) x a true n t y = some [] := by
      simp only [impl_Shares.j0]
      rw [if_pos trivial]
    unfold spec_Shares.f impl_Shares.f
    rw [spec_In, impl_In, h1, h2]
    simp only [Option.bind_some]
    by_cases d : b0 = true
    · have g := h3.1 d
      have hn := g.1
      rw [if_pos d, if_pos d, spec_Node hn, spec_Node hn, impl_Node hn, impl_Node hn]
      simp only [Option.bind_some]
      by_cases d1 : Node n x
      · by_cases d2 : Node n y
        · have d3 : ¬ (1 ≤ a ∧ a ≤ 100000) := fun d3 => c ⟨⟨g, d1⟩, d2, d3⟩
          rw [decide_eq_true d1, decide_eq_true d2, decide_eq_false d3]
          simp only [if_true, Bool.not_false, Bool.false_eq_true, if_false]
          exact ⟨js, ji⟩
        · rw [decide_eq_true d1, decide_eq_false d2]
          simp only [if_true, Bool.not_false, Bool.false_eq_true, if_false]
          by_cases d3 : 1 ≤ a ∧ a ≤ 100000
          · rw [decide_eq_true d3]
            simp only [if_true]
            exact ⟨js, ji⟩
          · rw [decide_eq_false d3]
            simp only [Bool.false_eq_true, if_false]
            exact ⟨js, ji⟩
      · rw [decide_eq_false d1]
        simp only [Bool.false_eq_true, if_false]
        by_cases d3 : 1 ≤ a ∧ a ≤ 100000
        · rw [decide_eq_true d3]
          simp only [if_true]
          exact ⟨js, ji⟩
        · rw [decide_eq_false d3]
          simp only [Bool.false_eq_true, if_false]
          exact ⟨js, ji⟩
    · rw [if_neg d, if_neg d]
      by_cases d3 : 1 ≤ a ∧ a ≤ 100000
      · rw [decide_eq_true d3]
        simp only [if_true]
        exact ⟨js, ji⟩
      · rw [decide_eq_false d3]
        simp only [Bool.false_eq_true, if_false]
        exact ⟨js, ji⟩
theorem tmod_lim' {a n : Int} (h0 : 0 ≤ a) (h1 : 0 < n) : 0 ≤ Int.tmod a n ∧ Int.tmod a n < n := by
  rw [Int.tmod_eq_emod_of_nonneg h0]
  exact ⟨Int.emod_nonneg _ (by omega), Int.emod_lt_of_pos _ h1⟩
theorem sm_comm {α β : Type} (F : α → β → Int) (M : List β) : ∀ L : List α, sm (fun a => sm (fun b => F a b) M) L = sm (fun b => sm (fun a => F a b) L) M
  | [] => (sm_zero M).symm
  | a :: L => by
    have ih := sm_comm F M L
    simp only [sm]
    rw [ih, ← sm_add]
theorem sm_mono {α : Type} {f h : α → Int} : ∀ L : List α, (∀ a ∈ L, f a ≤ h a) → sm f L ≤ sm h L
  | [], _ => Int.le_refl _
  | a :: L, H => by
    have ih := sm_mono L (fun b hb => H b (List.mem_cons_of_mem _ hb))
    have := H a List.mem_cons_self
    simp only [sm]
    omega
theorem sm_single {α : Type} {f : α → Int} : ∀ L : List α, (∀ a ∈ L, 0 ≤ f a) → ∀ x ∈ L, f x ≤ sm f L
  | [], _, x, hx => by cases hx
  | a :: L, H, x, hx => by
    have h0 := sm_nonneg L (fun b hb => H b (List.mem_cons_of_mem _ hb))
    have h1 := H a List.mem_cons_self
    simp only [sm]
    rcases List.mem_cons.1 hx with e | e
    · subst e; omega
    · have := sm_single L (fun b hb => H b (List.mem_cons_of_mem _ hb)) x e
      omega
/-- What all hops get together. -/
def SH (q L : Int) : Nat → Nat → Int
  | 0, _ => 0
  | d + 1, i => shr q L i + SH q L d (i + 1)
theorem SH_eq {q L : Int} : ∀ (d i : Nat), SH q L d i = (d : Int) * Int.tdiv q L + (if (i : Int) ≤ Int.tmod q L then (if (d : Int) ≤ Int.tmod q L - i then (d : Int) else Int.tmod q L - i) else 0) := by
  intro d
  induction d with
  | zero =>
    intro i
    simp only [SH]
    have e : ((0 : Nat) : Int) * Int.tdiv q L = 0 := by simp
    rw [e]
    split
    · split <;> omega
    · omega
  | succ d ih =>
    intro i
    have z := ih (i + 1)
    have e : ((d + 1 : Nat) : Int) * Int.tdiv q L = (d : Int) * Int.tdiv q L + Int.tdiv q L := by
      rw [Int.natCast_add, Int.add_mul]
      simp
    have e2 : ((i + 1 : Nat) : Int) = (i : Int) + 1 := by omega
    have e3 : ((d + 1 : Nat) : Int) = (d : Int) + 1 := by omega
    simp only [SH]
    rw [z, e, e2, e3]
    unfold shr
    generalize (d : Int) * Int.tdiv q L = m
    generalize Int.tdiv q L = T
    generalize Int.tmod q L = r
    by_cases c1 : (i : Int) < r
    · rw [if_pos c1, if_pos (c := (i : Int) + 1 ≤ r) (by omega), if_pos (c := (i : Int) ≤ r) (by omega)]
      by_cases c2 : (d : Int) ≤ r - (i + 1)
      · rw [if_pos c2, if_pos (by omega)]; omega
      · rw [if_neg c2, if_neg (by omega)]; omega
    · rw [if_neg c1, if_neg (c := (i : Int) + 1 ≤ r) (by omega)]
      by_cases c2 : (i : Int) ≤ r
      · rw [if_pos c2, if_neg (by omega)]; omega
      · rw [if_neg c2]; omega
theorem SH_all {q : Int} (hq : 0 ≤ q) {L : Nat} (hL : 0 < L) : SH q (L : Int) L 0 = q := by
  rw [SH_eq]
  have a := tmod_lim' hq (show 0 < (L : Int) by omega)
  have b : (L : Int) * Int.tdiv q L + Int.tmod q L = q := Int.mul_tdiv_add_tmod q L
  generalize (L : Int) * Int.tdiv q L = m at b ⊢
  generalize Int.tmod q L = r at a b ⊢
  have e0 : ((0 : Nat) : Int) = 0 := rfl
  rw [e0, if_pos a.1, if_neg (by omega)]
  omega
theorem SF_all {n q : Int} {h : List Int} (hh : ∀ w ∈ h, Node n w) : ∀ (d i : Nat), i + d = h.length → sm (fun v => SF q h v d i) (nodes n) = SH q h.length d i := by
  intro d
  induction d with
  | zero => intro i _; exact sm_zero _
  | succ d ih =>
    intro i hi
    have z := ih (i + 1) (by omega)
    have hm : rd h (i : Int) ∈ h := rd_mem (by omega) (by omega)
    have e1 := sm_congr (f := fun v => SF q h v (d + 1) i) (h := fun v => (if v = rd h i then shr q h.length i else 0) + SF q h v d (i + 1)) (nodes n) (fun v _ => by
      simp only [SF]
      by_cases c : rd h (i : Int) = v
      · rw [if_pos c, if_pos c.symm]
      · rw [if_neg c, if_neg (fun e => c e.symm)])
    rw [e1, sm_add, z, sm_one (fun _ => shr q h.length i) (rd h i) (nodes n) (nodes_nodup n) (mem_nodes.2 (hh _ hm))]
    rfl
theorem S_all {n : Int} {t : List S76} (g : Gok n t) {x y q : Int} (hq : 0 ≤ q) (h : hopsL n t x y ≠ []) : sm (fun v => S n t y q x v) (nodes n) = q := by
  have z := SF_all (n := n) (q := q) (h := hopsL n t x y) (hop_node g) (hopsL n t x y).length 0 (by omega)
  have hp : 0 < (hopsL n t x y).length := by
    cases c : hopsL n t x y with
    | nil => exact absurd c h
    | cons a l => simp
  rw [SH_all hq hp] at z
  exact z
section
variable {n : Int} {t : List S76} {f y a : Int} {o : List Int}
theorem S_nonneg {q x v : Int} (hq : 0 ≤ q) : 0 ≤ S n t y q x v := (SF_lim hq v _ 0 (by omega)).1
/-- Induction over the nodes, the farthest from the target first. -/
theorem far_ind (g : Gok n t) (hy : Node n y) {P : Int → Prop} (h : ∀ v, Node n v → (∀ x, Node n x → D n t v y < D n t x y → P x) → P v) : ∀ v, Node n v → P v := by
  have key : ∀ (N : Nat) (v : Int), (1000000 - D n t v y).toNat ≤ N → Node n v → P v := by
    intro N
    induction N with
    | zero =>
      intro v hN hv
      refine h v hv (fun x hx hd => ?_)
      have := (D_lim g x hy).2
      omega
    | succ N ih =>
      intro v hN hv
      refine h v hv (fun x hx hd => ih x ?_ hx)
      have := (D_lim g x hy).2
      omega
  exact fun v hv => key _ v (Nat.le_refl _) hv
theorem Inv.nonneg (g : Gok n t) (hy : Node n y) (ha : 0 ≤ a) (h : Inv n t f y a (nodes n) o) : ∀ v, Node n v → 0 ≤ rd o v := by
  refine far_ind g hy (fun v hv ih => ?_)
  rw [h.2.2 v hv]
  have z : 0 ≤ Fl n t y o (nodes n) v := by
    unfold Fl
    refine sm_nonneg _ (fun x hx => ?_)
    have hx' := mem_nodes.1 hx
    by_cases c : D n t x y ≤ D n t v y
    · rw [S_none g c]; exact Int.le_refl _
    · exact S_nonneg (ih x hx' (by omega))
  split <;> omega
theorem Inv.zero (g : Gok n t) (hy : Node n y) (h : Inv n t f y a (nodes n) o) : ∀ v, Node n v → v ≠ f → D n t f y ≤ D n t v y → rd o v = 0 := by
  refine far_ind g hy (fun v hv ih hvf hd => ?_)
  rw [h.2.2 v hv, if_neg (fun e => hvf e.symm)]
  have z : Fl n t y o (nodes n) v = 0 := by
    unfold Fl
    rw [sm_congr (h := fun _ => 0) (nodes n) (fun x hx => ?_), sm_zero]
    have hx' := mem_nodes.1 hx
    by_cases c : D n t x y ≤ D n t v y
    · exact S_none g c
    · rw [ih x hx' (by omega) (fun e => by rw [e] at c; omega) (by omega)]
      exact S_zero n t y x v
  omega
theorem Inv.first (g : Gok n t) (hf : Node n f) (hy : Node n y) (h : Inv n t f y a (nodes n) o) : rd o f = a := by
  rw [h.2.2 f hf, if_pos rfl]
  have z : Fl n t y o (nodes n) f = 0 := by
    unfold Fl
    rw [sm_congr (h := fun _ => 0) (nodes n) (fun x hx => ?_), sm_zero]
    have hx' := mem_nodes.1 hx
    by_cases c : D n t x y ≤ D n t f y
    · exact S_none g c
    · rw [h.zero g hy x hx' (fun e => by rw [e] at c; omega) (by omega)]
      exact S_zero n t y x f
  omega
/-- What goes over the border of the nodes farther than c is the whole amount. -/
theorem Inv.cut (g : Gok n t) (hf : Node n f) (hy : Node n y) (ha : 0 ≤ a) (hd : D n t f y < 1000000) (h : Inv n t f y a (nodes n) o) {c : Int} (hc : 0 ≤ c) (hfc : c < D n t f y) :
    sm (fun z => if c < D n t z y then sm (fun v => if c < D n t v y then 0 else S n t y (rd o z) z v) (nodes n) else 0) (nodes n) = a := by
  have nn := h.nonneg g hy ha
  have out : ∀ z, Node n z → c < D n t z y → rd o z = sm (fun v => S n t y (rd o z) z v) (nodes n) := by
    intro z hz hzc
    by_cases e : hopsL n t z y = []
    · have z0 : rd o z = 0 := by
        by_cases c2 : D n t z y < 1000000
        · by_cases c3 : z = y
          · rw [c3, D_self g hy] at hzc; omega
          · obtain ⟨w, hw⟩ := hop_ex g hz hy c3 c2
            rw [e] at hw; cases hw
        · exact h.zero g hy z hz (fun e => by rw [e] at c2; omega) (by omega)
      rw [sm_congr (h := fun _ => 0) (nodes n) (fun v _ => S_hops e), sm_zero]
      exact z0
    · exact (S_all g (nn z hz) e).symm
  -- the sum over the far nodes, by what comes in
  have A : sm (fun z => if c < D n t z y then rd o z else 0) (nodes n) = a + sm (fun z => sm (fun x => if c < D n t x y ∧ c < D n t z y then S n t y (rd o x) x z else 0) (nodes n)) (nodes n) := by
    have e := sm_congr (f := fun z => if c < D n t z y then rd o z else 0) (h := fun z => (if z = f then a else 0) + sm (fun x => if c < D n t x y ∧ c < D n t z y then S n t y (rd o x) x z else 0) (nodes n)) (nodes n) (fun z hz => by
      have hz' := mem_nodes.1 hz
      by_cases c1 : c < D n t z y
      · rw [if_pos c1, h.2.2 z hz']
        have e2 : Fl n t y o (nodes n) z = sm (fun x => if c < D n t x y ∧ c < D n t z y then S n t y (rd o x) x z else 0) (nodes n) := by
          unfold Fl
          refine sm_congr _ (fun x hx => ?_)
          by_cases c2 : c < D n t x y
          · rw [if_pos ⟨c2, c1⟩]
          · rw [if_neg (fun q => c2 q.1)]
            exact S_none g (by omega)
        rw [e2]
        by_cases c3 : f = z
        · rw [if_pos c3, if_pos c3.symm]
        · rw [if_neg c3, if_neg (fun e => c3 e.symm)]
      · rw [if_neg c1, if_neg (fun e => c1 (by rw [e]; exact hfc)), sm_congr (h := fun _ => 0) (nodes n) (fun x _ => if_neg (fun q => c1 q.2)), sm_zero]
        rfl)
    rw [e, sm_add, sm_one (fun _ => a) f (nodes n) (nodes_nodup n) (mem_nodes.2 hf)]
  have B : sm (fun z => if c < D n t z y then rd o z else 0) (nodes n) = sm (fun z => sm (fun v => if c < D n t z y ∧ c < D n t v y then S n t y (rd o z) z v else 0) (nodes n)) (nodes n) + sm (fun z => if c < D n t z y then sm (fun v => if c < D n t v y then 0 else S n t y (rd o z) z v) (nodes n) else 0) (nodes n) := by
    rw [← sm_add]
    refine sm_congr _ (fun z hz => ?_)
    have hz' := mem_nodes.1 hz
    by_cases c1 : c < D n t z y
    · rw [if_pos c1, if_pos c1]
      have q := out z hz' c1
      have e3 : sm (fun v => S n t y (rd o z) z v) (nodes n) = sm (fun v => if c < D n t z y ∧ c < D n t v y then S n t y (rd o z) z v else 0) (nodes n) + sm (fun v => if c < D n t v y then 0 else S n t y (rd o z) z v) (nodes n) := by
        rw [← sm_add]
        refine sm_congr _ (fun v _ => ?_)
        by_cases c2 : c < D n t v y
        · rw [if_pos ⟨c1, c2⟩, if_pos c2]; omega
        · rw [if_neg (fun q => c2 q.2), if_neg c2]; omega
      omega
    · rw [if_neg c1, if_neg c1, sm_congr (h := fun _ => 0) (nodes n) (fun v _ => if_neg (fun q => c1 q.1)), sm_zero]
      rfl
  have C := sm_comm (fun z x => if c < D n t x y ∧ c < D n t z y then S n t y (rd o x) x z else 0) (nodes n) (nodes n)
  rw [C] at A
  omega
theorem Inv.most (g : Gok n t) (hf : Node n f) (hy : Node n y) (ha : 0 ≤ a) (hd : D n t f y < 1000000) (h : Inv n t f y a (nodes n) o) : ∀ v, Node n v → rd o v ≤ a := by
  intro v hv
  have nn := h.nonneg g hy ha
  by_cases c0 : v = f
  · rw [c0, h.first g hf hy]; exact Int.le_refl _
  · by_cases c : D n t v y < D n t f y
    · have dv := D_lim g v hy
      have q := h.cut g hf hy ha hd (c := D n t v y) dv.1 c
      rw [h.2.2 v hv, if_neg (fun e => c0 e.symm)]
      have m : Fl n t y o (nodes n) v ≤ sm (fun z => if D n t v y < D n t z y then sm (fun w => if D n t v y < D n t w y then 0 else S n t y (rd o z) z w) (nodes n) else 0) (nodes n) := by
        unfold Fl
        refine sm_mono _ (fun z hz => ?_)
        have hz' := mem_nodes.1 hz
        by_cases c1 : D n t v y < D n t z y
        · rw [if_pos c1]
          have s := sm_single (f := fun w => if D n t v y < D n t w y then 0 else S n t y (rd o z) z w) (nodes n) (fun w _ => by
            by_cases c2 : D n t v y < D n t w y
            · simp only [if_pos c2]; exact Int.le_refl _
            · simp only [if_neg c2]; exact S_nonneg (nn z hz')) v (mem_nodes.2 hv)
          have e : (if D n t v y < D n t v y then (0 : Int) else S n t y (rd o z) z v) = S n t y (rd o z) z v := if_neg (by omega)
          rw [e] at s
          exact s
        · rw [if_neg c1, S_none g (by omega)]; exact Int.le_refl _
      omega
    · rw [h.zero g hy v hv c0 (by omega)]
      exact ha
theorem Inv.last (g : Gok n t) (hf : Node n f) (hy : Node n y) (ha : 0 ≤ a) (hd : D n t f y < 1000000) (h : Inv n t f y a (nodes n) o) : rd o y = a := by
  by_cases c0 : f = y
  · have z := h.first g hf hy
    rw [c0] at z
    exact z
  · have pos : ∀ v, Node n v → v ≠ y → 0 < D n t v y := by
      intro v hv e
      have dv := D_lim g v hy
      by_cases c2 : D n t v y < 1000000
      · obtain ⟨w, hw⟩ := hop_ex g hv hy e c2
        have hl := hop_lt g hw
        have := D_lim g w hy
        omega
      · omega
    have q := h.cut g hf hy ha hd (c := 0) (Int.le_refl _) (pos f hf c0)
    rw [h.2.2 y hy, if_neg c0]
    have e : Fl n t y o (nodes n) y = sm (fun z => if 0 < D n t z y then sm (fun v => if 0 < D n t v y then 0 else S n t y (rd o z) z v) (nodes n) else 0) (nodes n) := by
      unfold Fl
      refine sm_congr _ (fun z hz => ?_)
      have hz' := mem_nodes.1 hz
      by_cases c1 : 0 < D n t z y
      · rw [if_pos c1, sm_congr (h := fun v => if v = y then S n t y (rd o z) z v else 0) (nodes n) (fun v hv => ?_), sm_one (fun v => S n t y (rd o z) z v) y (nodes n) (nodes_nodup n) (mem_nodes.2 hy)]
        have hv' := mem_nodes.1 hv
        by_cases c2 : v = y
        · rw [if_pos c2, if_neg (by rw [c2, D_self g hy]; omega)]
        · rw [if_neg c2, if_pos (pos v hv' c2)]
      · rw [if_neg c1]
        exact S_none g (by rw [D_self g hy]; omega)
    omega
theorem Inv.onway (g : Gok n t) (hf : Node n f) (hy : Node n y) (ha : 0 ≤ a) (hd : D n t f y < 1000000) (h : Inv n t f y a (nodes n) o) : ∀ v, Node n v → 0 < rd o v → D n t f v + D n t v y = D n t f y := by
  have nn := h.nonneg g hy ha
  refine far_ind g hy (fun v hv ih hp => ?_)
  by_cases c0 : v = f
  · rw [c0, D_self g hf]; omega
  · have ex : ∃ x, Node n x ∧ 0 < S n t y (rd o x) x v := by
      refine Classical.byContradiction (fun hn => ?_)
      rw [h.2.2 v hv, if_neg (fun e => c0 e.symm)] at hp
      have m : Fl n t y o (nodes n) v ≤ 0 := by
        unfold Fl
        have q := sm_mono (f := fun x => S n t y (rd o x) x v) (h := fun _ => 0) (nodes n) (fun x hx => by
          by_cases c : 0 < S n t y (rd o x) x v
          · exact absurd ⟨x, mem_nodes.1 hx, c⟩ hn
          · omega)
        rw [sm_zero] at q
        exact q
      omega
    obtain ⟨x, hx, hs⟩ := ex
    have mem : v ∈ hopsL n t x y := by
      refine Classical.byContradiction (fun hn => ?_)
      have z : S n t y (rd o x) x v = 0 := SF_none hn _ 0 (by omega)
      omega
    have ox : 0 < rd o x := by
      have := nn x hx
      by_cases c : rd o x = 0
      · rw [c, S_zero] at hs; omega
      · omega
    have lt := hop_lt g mem
    have q := ih x hx lt.2.1 ox
    obtain ⟨e, he, e1, e2, e3⟩ := mem_hops.1 mem
    obtain ⟨a1, a2, a3, a4, a5⟩ := g.mem he
    have d1 := D_lim g f hx
    have d2 := D_lim g x hy
    have d3 := D_lim g v hy
    have d4 := D_lim g f hv
    have d5 := D_edge g he
    rw [e1, e2] at d5
    have t1 := D_tri g hf hx hv (by omega) (by omega)
    have t2 := D_tri g hf hv hy (by omega) (by omega)
    omega
end
/-- A node lies on a shortest path. -/
def OnW (n : Int) (t : List S76) (x y z : Int) : Prop := D n t x y < 1000000 ∧ D n t x z + D n t z y = D n t x y
instance (n : Int) (t : List S76) (x y z : Int) : Decidable (OnW n t x y z) := by unfold OnW; infer_instance
theorem impl_onw {n : Int} {t : List S76} (g : Gok n t) {x y z : Int} (hx : Node n x) (hy : Node n y) (hz : Node n z) : impl_onWay.f (allD n t) x y z = some (decide (OnW n t x y z)) := by
  have hn := g.1
  have la := allD_len hn t
  have lx := (dist_ok g x).1
  have lz := (dist_ok g z).1
  have d1 := D_lim g x hz
  have d2 := D_lim g z hy
  have a := hx; have b := hy; have c := hz
  unfold Node at a b c
  unfold impl_onWay.f
  rw [allD_rd t hx, allD_rd t hz, if_pos a.1, if_pos (by omega), if_pos b.1, if_pos (by omega)]
  by_cases e : D n t x y < 1000000
  · have e' : rd (dist n t x) y < 1000000 := e
    rw [if_pos e', if_pos c.1, if_pos (by omega), if_pos (by omega), if_pos (by omega)]
    have w : wrap64 (rd (dist n t x) z + rd (dist n t z) y) = D n t x z + D n t z y := w64 (by unfold D at d1 d2; omega) (by unfold D at d1 d2; omega)
    rw [w]
    congr 1
    rw [Bool.eq_iff_iff, beq_iff_eq, decide_eq_true_eq]
    exact ⟨fun h => ⟨e, h⟩, fun h => h.2⟩
  · have e' : ¬ rd (dist n t x) y < 1000000 := e
    rw [if_neg e', decide_eq_false (fun h => e h.1)]
theorem and255 (x : Int) : 0 ≤ Go.bits .and .i64 x 255 ∧ Go.bits .and .i64 x 255 ≤ 255 := by
  have e : Go.bits .and .i64 x 255 = IntKind.i64.wrap (((BitVec.ofInt 64 x).toNat &&& (BitVec.ofInt 64 255).toNat : Nat) : Int) := by
    simp only [Go.bits]
    rw [← BitVec.toNat_and]
    rfl
  have h : (BitVec.ofInt 64 x).toNat &&& (BitVec.ofInt 64 255).toNat ≤ 255 := Nat.and_le_right
  generalize (BitVec.ofInt 64 x).toNat &&& (BitVec.ofInt 64 255).toNat = m at e h
  rw [e, IntKind.wrap_i64]
  omega
theorem byte_ok (b : List Int) {i : Int} (h : Int) (hi : 0 ≤ i) (hb : b.length ≤ 1048576) : ∃ r i' h', spec_l01Byte.f b i h = some (r, i', h') ∧ (0 ≤ r ∧ r ≤ 255) ∧ 0 ≤ i' := by
  unfold spec_l01Byte.f
  by_cases c : i < (b.length : Int)
  · rw [if_pos c, if_pos hi]
    exact ⟨_, _, _, rfl, and255 _, by rw [w64 (by omega) (by omega)]; omega⟩
  · rw [if_neg c]
    exact ⟨_, _, _, rfl, and255 _, hi⟩
theorem tmod_ok {a n : Int} (h0 : 0 ≤ a) (h1 : 0 < n) : 0 ≤ Int.tmod a n ∧ Int.tmod a n < n := by
  rw [Int.tmod_eq_emod_of_nonneg h0]
  exact ⟨Int.emod_nonneg _ (by omega), Int.emod_lt_of_pos _ h1⟩
theorem below_ok (b : List Int) {i : Int} (h : Int) (hi : 0 ≤ i) (hb : b.length ≤ 1048576) (n : Int) : ∃ r i' h', spec_l01Below.f b i h n = some (r, i', h') ∧ 0 ≤ i' ∧ 0 ≤ r ∧ (0 < n → r < n) ∧ (n ≤ 0 → r = 0) := by
  unfold spec_l01Below.f
  by_cases c : n ≤ 0
  · rw [if_pos c]
    exact ⟨_, _, _, rfl, hi, Int.le_refl _, fun h => by omega, fun _ => rfl⟩
  · rw [if_neg c]
    obtain ⟨r1, i1, h1, e1, p1, q1⟩ := byte_ok b h hi hb
    rw [e1]
    simp only [Option.bind_some]
    by_cases c2 : n ≤ 256
    · rw [if_pos c2, if_neg (by omega)]
      have z := tmod_ok p1.1 (show 0 < n by omega)
      exact ⟨_, _, _, rfl, q1, z.1, fun _ => z.2, fun h => by omega⟩
    · rw [if_neg c2]
      obtain ⟨r2, i2, h2, e2, p2, q2⟩ := byte_ok b h1 q1 hb
      rw [e2]
      simp only [Option.bind_some]
      obtain ⟨r3, i3, h3, e3, p3, q3⟩ := byte_ok b h2 q2 hb
      rw [e3]
      simp only [Option.bind_some]
      have z := tmod_ok (a := r1 * 65536 + r2 * 256 + r3) (by omega) (show 0 < n by omega)
      rw [if_neg (by omega), w64 (n := r1 * 65536) (by omega) (by omega), w64 (n := r2 * 256) (by omega) (by omega), w64 (n := r1 * 65536 + r2 * 256) (by omega) (by omega), w64 (n := r1 * 65536 + r2 * 256 + r3) (by omega) (by omega)]
      exact ⟨_, _, _, rfl, q3, z.1, fun _ => z.2, fun h => by omega⟩
theorem pick_ok (b : List Int) {i : Int} (h : Int) (hi : 0 ≤ i) (hb : b.length ≤ 1048576) {l : List Int} (hl : 0 < l.length) : ∃ r i' h', spec_l01PickInt.f b i h l = some (r, i', h') ∧ 0 ≤ i' ∧ r ∈ l := by
  unfold spec_l01PickInt.f
  obtain ⟨r, i', h', e, p, q0, q, -⟩ := below_ok b h hi hb (l.length : Int)
  rw [e]
  simp only [Option.bind_some]
  have q1 := q (by omega)
  rw [if_pos q0, if_pos q1]
  exact ⟨_, _, _, rfl, p, rd_mem q0 q1⟩
theorem once_ok (b : List Int) {i : Int} (h : Int) (hi : 0 ≤ i) (hb : b.length ≤ 1048576) (n : Int) : ∃ r i' h', spec_l01Once.f b i h n = some (r, i', h') ∧ 0 ≤ i' := by
  unfold spec_l01Once.f
  obtain ⟨r, i', h', e, p, -⟩ := below_ok b h hi hb n
  rw [e]
  simp only [Option.bind_some]
  exact ⟨_, _, _, rfl, p⟩
theorem new_ok {l : List Int} (hl : l.length ≤ 1048576) {k : Nat} (hk : 4001 < k) : ∃ h, spec_l01New.f k l = some (l, 0, h) := by
  have key : ∀ (d i k : Nat) (x : Int), i + d = 4000 → d < k → ∃ h, spec_l01New.l0 k l x i = some (l, 0, h) := by
    intro d
    induction d with
    | zero =>
      intro i k x hi hk
      obtain ⟨k, rfl⟩ : ∃ m, k = m + 1 := ⟨k - 1, by omega⟩
      simp only [spec_l01New.l0]
      rw [if_neg (c := (i : Int) < 4000) (by omega)]
      by_cases c : (i : Int) < (l.length : Int)
      · rw [if_pos c]; exact ⟨_, rfl⟩
      · rw [if_neg c]; exact ⟨_, rfl⟩
    | succ d ih =>
      intro i k x hi hk
      obtain ⟨k, rfl⟩ : ∃ m, k = m + 1 := ⟨k - 1, by omega⟩
      simp only [spec_l01New.l0]
      rw [if_pos (c := (i : Int) < 4000) (by omega)]
      by_cases c : (i : Int) < (l.length : Int)
      · rw [if_pos c, if_pos (by omega), wr1 (by omega)]
        exact ih (i + 1) k _ (by omega) (by omega)
      · rw [if_neg c]; exact ⟨_, rfl⟩
  exact key 4000 0 k _ (by omega) (by omega)
theorem size_ok {l : List Int} (hl : l.length ≤ 1048576) : ∃ s, spec_l01Size.f l 9 = some s ∧ 0 < s ∧ s ≤ 9 := by
  unfold spec_l01Size.f
  rw [w64 (n := (l.length : Int) / 16) (by omega) (by omega), w64 (n := 2 + (l.length : Int) / 16) (by omega) (by omega)]
  by_cases c : 2 + (l.length : Int) / 16 > 9
  · rw [if_pos c]; exact ⟨_, rfl, by omega, by omega⟩
  · rw [if_neg c]; exact ⟨_, rfl, by omega, by omega⟩
theorem put_ok {t : List S76} (ht : t.length ≤ 1000) (a b c : Int) {k : Nat} (hk : t.length * 2 + 1 < k) : ∃ out, spec_l03Put.f k t a b c = some out ∧ out.length ≤ t.length + 1 := by
  have key : ∀ (d i k : Nat) (acc : List S76) (p : Bool), i + d = t.length → acc.length ≤ 3 * i → d * 2 < k → ∃ out, spec_l03Put.l0 k t acc p i a b c = some out ∧ out.length ≤ acc.length + d + (if p = true then 0 else 1) := by
    intro d
    induction d with
    | zero =>
      intro i k acc p hi ha hk
      obtain ⟨k, rfl⟩ : ∃ m, k = m + 1 := ⟨k - 1, by omega⟩
      simp only [spec_l03Put.l0]
      rw [if_neg (by omega)]
      by_cases cp : p = true
      · rw [if_pos cp, if_pos cp]; exact ⟨_, rfl, by omega⟩
      · rw [if_neg cp, if_neg cp, if_pos (by omega)]
        exact ⟨_, rfl, by rw [List.length_append, List.length_singleton]; omega⟩
    | succ d ih =>
      intro i k acc p hi ha hk
      obtain ⟨k, rfl⟩ : ∃ m, k = m + 2 := ⟨k - 2, by omega⟩
      have one : ∀ (q : Bool) (e0 e1 e2 : Int), (q = true → p = false) → ∃ out, spec_l03Put.j1 (k + 1) t acc p i q a b c e0 e1 e2 = some out ∧ out.length ≤ acc.length + (d + 1) + (if p = true then 0 else 1) := by
        intro q e0 e1 e2 hq
        simp only [spec_l03Put.j1]
        rw [wr1 (by omega)]
        have last : ∀ (A : List S76) (p' : Bool), A.length ≤ acc.length + (if p' = true then (if p = true then 0 else 1) else 0) → (p = true → p' = true) → ∃ out, (if e0 = a then if e1 = b then spec_l03Put.l0 k t A p' ((i + 1 : Nat) : Int) a b c else if A.length < 5864062014805 then spec_l03Put.l0 k t (A ++ [(⟨e0, e1, e2⟩ : S76)]) p' ((i + 1 : Nat) : Int) a b c else none else if A.length < 5864062014805 then spec_l03Put.l0 k t (A ++ [(⟨e0, e1, e2⟩ : S76)]) p' ((i + 1 : Nat) : Int) a b c else none) = some out ∧ out.length ≤ acc.length + (d + 1) + (if p = true then 0 else 1) := by
          intro A p' hA hp'
          have hA2 : A.length ≤ acc.length + 1 := by
            revert hA
            cases p' <;> cases p <;> simp <;> omega
          have fin : ∀ (B : List S76), B.length ≤ A.length + 1 → ∃ out, spec_l03Put.l0 k t B p' ((i + 1 : Nat) : Int) a b c = some out ∧ out.length ≤ acc.length + (d + 1) + (if p = true then 0 else 1) := by
            intro B hB
            obtain ⟨out, o1, o2⟩ := ih (i + 1) k B p' (by omega) (by omega) (by omega)
            refine ⟨out, o1, ?_⟩
            revert o2 hA hp'
            cases p' <;> cases p <;> simp <;> omega
          have snoc := fin (A ++ [(⟨e0, e1, e2⟩ : S76)]) (by rw [List.length_append, List.length_singleton]; omega)
          rw [if_pos (c := A.length < 5864062014805) (by omega)]
          by_cases c1 : e0 = a
          · rw [if_pos c1]
            by_cases c2 : e1 = b
            · rw [if_pos c2]; exact fin A (by omega)
            · rw [if_neg c2]; exact snoc
          · rw [if_neg c1]; exact snoc
        cases q with
        | true =>
          have hp := hq rfl
          rw [if_pos rfl, if_pos (by omega)]
          simp only [Option.bind_some]
          exact last _ true (by rw [hp, List.length_append, List.length_singleton]; simp) (fun _ => rfl)
        | false =>
          rw [if_neg (by decide)]
          exact last acc p (by cases p <;> simp) (fun h => h)
      simp only [spec_l03Put.l0]
      rw [if_pos (by omega), if_pos (by omega)]
      cases p with
      | true => rw [if_pos rfl]; exact one false _ _ _ (fun h => by cases h)
      | false =>
        rw [if_neg (by decide)]
        split
        · exact one true _ _ _ (fun _ => rfl)
        · split
          · exact one _ _ _ _ (fun _ => rfl)
          · exact one false _ _ _ (fun _ => rfl)
  obtain ⟨out, o1, o2⟩ := key t.length 0 k [] false (by omega) (by simp) (by omega)
  exact ⟨out, o1, by simpa using o2⟩
theorem graph_ok {b : List Int} (hb : b.length ≤ 1048576) {x1 : Int} (hx : x1 ≤ 10) {n : Int} (hn : n ≤ 60) (m : Int) : ∀ (d i k : Nat) (s1 s2 : Int) (t : List S76), n ≤ (i : Int) + d → i ≤ 60 → 0 ≤ s1 → t.length ≤ 60 → d * 4 + 200 < k →
    ∃ out s1' s2', spec_l03DrawGraph.l0 k x1 n i b s1 s2 m t = some (m, out, s1', s2') ∧ out.length ≤ 60 ∧ 0 ≤ s1' := by
  intro d
  induction d with
  | zero =>
    intro i k s1 s2 t hi h60 hs ht hk
    obtain ⟨k, rfl⟩ : ∃ m, k = m + 2 := ⟨k - 2, by omega⟩
    simp only [spec_l03DrawGraph.l0]
    rw [if_neg (by omega)]
    simp only [spec_l03DrawGraph.j1]
    rw [if_neg (by decide)]
    exact ⟨_, _, _, rfl, ht, hs⟩
  | succ d ih =>
    intro i k s1 s2 t hi h60 hs ht hk
    obtain ⟨k, rfl⟩ : ∃ m, k = m + 4 := ⟨k - 4, by omega⟩
    simp only [spec_l03DrawGraph.l0]
    have stop : ∃ out s1' s2', spec_l03DrawGraph.j1 (k + 3) x1 n i false b s1 s2 m t = some (m, out, s1', s2') ∧ out.length ≤ 60 ∧ 0 ≤ s1' := by
      simp only [spec_l03DrawGraph.j1]
      rw [if_neg (by decide)]
      exact ⟨_, _, _, rfl, ht, hs⟩
    by_cases c : (i : Int) < n
    · rw [if_pos c]
      by_cases c1 : x1 > 1
      · rw [decide_eq_true c1]
        have go3 : ∀ (s1 s2 e0 e1 e2 : Int), 0 ≤ s1 → ∃ out s1' s2', spec_l03DrawGraph.j3 (k + 1) x1 n i b s1 s2 m t e0 e1 e2 = some (m, out, s1', s2') ∧ out.length ≤ 60 ∧ 0 ≤ s1' := by
          intro s1 s2 e0 e1 e2 hs
          have nx : ∀ (s1 s2 : Int) (u : List S76), 0 ≤ s1 → u.length ≤ 60 → ∃ out s1' s2', spec_l03DrawGraph.l0 k x1 n (wrap64 ((i : Int) + 1)) b s1 s2 m u = some (m, out, s1', s2') ∧ out.length ≤ 60 ∧ 0 ≤ s1' := fun s1 s2 u hs hu => by
            rw [wr1 (by omega)]; exact ih (i + 1) k s1 s2 u (by omega) (by omega) hs hu (by omega)
          simp only [spec_l03DrawGraph.j3]
          by_cases c2 : e0 = e1
          · rw [if_pos c2]; exact nx _ _ _ hs ht
          · rw [if_neg c2]
            by_cases c3 : (t.length : Int) < 59
            · rw [if_pos c3]
              obtain ⟨t1, p1, p2⟩ := put_ok (t := t) (by omega) e0 e1 e2 (k := k) (by omega)
              rw [p1]
              simp only [Option.bind_some]
              obtain ⟨r2, i2, h2, q2, w2, -⟩ := below_ok b s2 hs hb 4
              rw [q2]
              simp only [Option.bind_some]
              by_cases c4 : r2 > 0
              · rw [if_pos c4]
                obtain ⟨r3, i3, h3, q3, w3⟩ := once_ok b h2 w2 hb 4
                rw [q3]
                simp only [Option.bind_some]
                by_cases c5 : r3 = true
                · rw [if_pos c5]
                  obtain ⟨r4, i4, h4, q4, w4, -⟩ := below_ok b h3 w3 hb 6
                  rw [q4]
                  simp only [Option.bind_some]
                  obtain ⟨t2, p3, p4⟩ := put_ok (t := t1) (by omega) e1 e0 (wrap64 (1 + r4)) (k := k) (by omega)
                  rw [p3]
                  simp only [Option.bind_some]
                  exact nx _ _ _ w4 (by omega)
                · rw [if_neg c5]
                  obtain ⟨t2, p3, p4⟩ := put_ok (t := t1) (by omega) e1 e0 e2 (k := k) (by omega)
                  rw [p3]
                  simp only [Option.bind_some]
                  exact nx _ _ _ w3 (by omega)
              · rw [if_neg c4]
                exact nx _ _ _ w2 (by omega)
            · rw [if_neg c3]
              exact nx _ _ _ hs ht
        have go2 : ∀ (s1 s2 e0 e1 e2 : Int) (q : Bool), 0 ≤ s1 → ∃ out s1' s2', spec_l03DrawGraph.j2 (k + 2) x1 n i q b s1 s2 m t e0 e1 e2 = some (m, out, s1', s2') ∧ out.length ≤ 60 ∧ 0 ≤ s1' := by
          intro s1 s2 e0 e1 e2 q hs
          simp only [spec_l03DrawGraph.j2]
          by_cases cq : q = true
          · rw [if_pos cq]; exact go3 _ _ _ _ _ hs
          · rw [if_neg cq]; exact go3 _ _ _ _ _ hs
        simp only [spec_l03DrawGraph.j1]
        rw [if_pos trivial]
        obtain ⟨r1, i1, h1, q1, w1, -⟩ := below_ok b s2 hs hb x1
        rw [q1]
        simp only [Option.bind_some]
        obtain ⟨r2, i2, h2, q2, w2, -⟩ := below_ok b h1 w1 hb x1
        rw [q2]
        simp only [Option.bind_some]
        obtain ⟨r3, i3, h3, q3, w3, -⟩ := below_ok b h2 w2 hb 9
        rw [q3]
        simp only [Option.bind_some]
        obtain ⟨r4, i4, h4, q4, w4, -⟩ := pick_ok b h3 w3 hb (l := [1, 1, 2, 2, 3, 5, wrap64 (1 + r3), 1000]) (by simp)
        rw [q4]
        simp only [Option.bind_some]
        by_cases c2 : (i : Int) < wrap64 (x1 - 1)
        · rw [if_pos c2]
          obtain ⟨r5, i5, h5, q5, w5, -⟩ := below_ok b h4 w4 hb 3
          rw [q5]
          simp only [Option.bind_some]
          exact go2 _ _ _ _ _ _ w5
        · rw [if_neg c2]
          exact go2 _ _ _ _ _ _ w4
      · rw [decide_eq_false c1]
        exact stop
    · rw [if_neg c]
      exact stop
theorem bend_ok {b : List Int} (hb : b.length ≤ 1048576) {s1 : Int} (hs : 0 ≤ s1) (s2 m : Int) {t : List S76} (ht : t.length ≤ 60) : ∃ m' out s1' s2', spec_l03Bend.f b s1 s2 m t = some (m', out, s1', s2') ∧ out.length ≤ 61 ∧ 0 ≤ s1' := by
  unfold spec_l03Bend.f
  obtain ⟨r1, i1, h1, q1, w1, -⟩ := below_ok b s2 hs hb 4
  rw [q1]
  simp only [Option.bind_some]
  have same : ∃ m' out s1' s2', some (m, t, i1, h1) = some (m', out, s1', s2') ∧ out.length ≤ 61 ∧ 0 ≤ s1' := ⟨_, _, _, _, rfl, by omega, w1⟩
  by_cases c1 : r1 = 0
  · rw [if_pos c1]
    obtain ⟨r4, i4, h4, q4, w4, -⟩ := pick_ok b h1 w1 hb (l := [0, 1, 11, wrap64 (m - 1)]) (by simp)
    rw [q4]
    simp only [Option.bind_some]
    exact ⟨_, _, _, _, rfl, by omega, w4⟩
  · rw [if_neg c1]
    by_cases c2 : r1 = 1
    · rw [if_pos c2]
      by_cases c3 : (t.length : Int) > 0
      · rw [if_pos c3]
        obtain ⟨r3, i3, h3, q3, w3, u3, v3, -⟩ := below_ok b h1 w1 hb (t.length : Int)
        rw [q3]
        simp only [Option.bind_some]
        obtain ⟨r4, i4, h4, q4, w4, -⟩ := pick_ok b h3 w3 hb (l := [0, 1000, 1001]) (by simp)
        rw [q4]
        simp only [Option.bind_some]
        rw [if_pos u3, if_pos (v3 (by omega))]
        exact ⟨_, _, _, _, rfl, by rw [List.length_set]; omega, w4⟩
      · rw [if_neg c3]; exact same
    · rw [if_neg c2]
      by_cases c3 : r1 = 2
      · rw [if_pos c3]
        by_cases c4 : (t.length : Int) > 0
        · rw [if_pos c4, if_pos (by omega), if_pos (by omega)]
          exact ⟨_, _, _, _, rfl, by rw [List.length_append, List.length_singleton]; omega, w1⟩
        · rw [if_neg c4]; exact same
      · rw [if_neg c3]
        by_cases c4 : r1 = 3
        · rw [if_pos c4]
          by_cases c5 : (t.length : Int) > 0
          · rw [if_pos c5]
            obtain ⟨r3, i3, h3, q3, w3, u3, v3, -⟩ := below_ok b h1 w1 hb (t.length : Int)
            rw [q3]
            simp only [Option.bind_some]
            rw [if_pos u3, if_pos (v3 (by omega))]
            exact ⟨_, _, _, _, rfl, by rw [List.length_set]; omega, w3⟩
          · rw [if_neg c5]; exact same
        · rw [if_neg c4]; exact same
theorem j0_ok {l : List Int} (hl : l.length ≤ 1048576) {k : Nat} (hk : 0 < k) (s1 s2 m : Int) (t : List S76) (hs : 0 ≤ s1) (ht : t.length ≤ 60) : ∃ n t' i h, spec_l03Draw.j0 k l s1 s2 m t = some (n, t', l, i, h) ∧ t'.length ≤ 61 ∧ 0 ≤ i := by
  obtain ⟨k, rfl⟩ : ∃ m, k = m + 1 := ⟨k - 1, by omega⟩
  simp only [spec_l03Draw.j0]
  obtain ⟨r, i, h, q, w⟩ := once_ok l s2 hs hl 20
  rw [q]
  simp only [Option.bind_some]
  by_cases c : r = true
  · rw [if_pos c]
    obtain ⟨m', out, i', h', e, p1, p2⟩ := bend_ok hl w h m ht
    rw [e]
    simp only [Option.bind_some]
    exact ⟨_, _, _, _, rfl, p1, p2⟩
  · rw [if_neg c]
    exact ⟨_, _, _, _, rfl, by omega, w⟩
theorem ex_bind {α β : Type} {o : Option α} {f : α → Option β} {Q : β → Prop} (a : α) (h : o = some a) (h2 : ∃ b, f a = some b ∧ Q b) : ∃ b, o.bind f = some b ∧ Q b := by
  obtain ⟨b, h3, h4⟩ := h2
  exact ⟨b, by rw [h]; exact h3, h4⟩
theorem ex_pos {β : Type} {p : Prop} [Decidable p] {x y : Option β} {Q : β → Prop} (h : p) (h2 : ∃ b, x = some b ∧ Q b) : ∃ b, (if p then x else y) = some b ∧ Q b := by
  rw [if_pos h]; exact h2
theorem ex_neg {β : Type} {p : Prop} [Decidable p] {x y : Option β} {Q : β → Prop} (h : ¬ p) (h2 : ∃ b, y = some b ∧ Q b) : ∃ b, (if p then x else y) = some b ∧ Q b := by
  rw [if_neg h]; exact h2
/-- A drawn graph has few edges. -/
theorem draw_ok {l : List Int} (hl : l.length ≤ 1048576) {k : Nat} (hk : 5000 < k) : ∃ b : Int × List S76 × List Int × Int × Int, spec_l03Draw.f k l = some b ∧ b.2.1.length ≤ 61 ∧ b.2.2.1 = l ∧ 0 ≤ b.2.2.2.1 := by
  obtain ⟨h0, e0⟩ := new_ok hl (k := k) (by omega)
  obtain ⟨s, e1, s1, s2⟩ := size_ok hl
  obtain ⟨r1, i1, h1, q1, w1, u1, v1, -⟩ := below_ok l h0 (Int.le_refl 0) hl s
  have v1' := v1 s1
  obtain ⟨N, hN⟩ : ∃ N, N = wrap64 ((wrap64 (3 * (wrap64 (1 + r1)))) + 1) := ⟨_, rfl⟩
  have eN : N = 3 * (1 + r1) + 1 := by
    rw [hN, w64 (n := 1 + r1) (by omega) (by omega), w64 (n := 3 * (1 + r1)) (by omega) (by omega), w64 (n := 3 * (1 + r1) + 1) (by omega) (by omega)]
  obtain ⟨M, hM⟩ : ∃ M, M = wrap64 (1 + r1) := ⟨_, rfl⟩
  have eM : M = 1 + r1 := by rw [hM, w64 (n := 1 + r1) (by omega) (by omega)]
  obtain ⟨r2, i2, h2, q2, w2, u2, v2, -⟩ := below_ok l h1 w1 hl N
  rw [hN] at q2
  replace hN := Aside0.mk hN
  replace hM := Aside0.mk hM
  have v2' := v2 (by omega)
  have gr : ∀ (x1 n s1 s2 : Int), x1 ≤ 10 → n ≤ 60 → 0 ≤ s1 → ∃ out s1' s2', spec_l03DrawGraph.f k l s1 s2 x1 n = some (x1, out, s1', s2') ∧ out.length ≤ 60 ∧ 0 ≤ s1' := fun x1 n s1 s2 hx hn hs => by
    unfold spec_l03DrawGraph.f
    exact graph_ok hl hx hn x1 60 0 k s1 s2 [] (by omega) (by omega) hs (Nat.zero_le _) (by omega)
  have fin : ∀ (s1 s2 m : Int) (t : List S76), 0 ≤ s1 → t.length ≤ 60 → ∃ b : Int × List S76 × List Int × Int × Int, spec_l03Draw.j0 k l s1 s2 m t = some b ∧ b.2.1.length ≤ 61 ∧ b.2.2.1 = l ∧ 0 ≤ b.2.2.2.1 := fun s1 s2 m t hs ht => by
    obtain ⟨n, t', i, h, p1, p2, p3⟩ := j0_ok hl (k := k) (by omega) s1 s2 m t hs ht
    exact ⟨_, p1, p2, rfl, p3⟩
  obtain ⟨t1, i3, h3, q3, p3, w3⟩ := gr M r2 i2 h2 (by omega) (by omega) w2
  rw [hM.out] at q3
  obtain ⟨r4, i4, h4, q4, w4⟩ := once_ok l h3 w3 hl 25
  unfold spec_l03Draw.f
  refine ex_bind (l, 0, h0) e0 ?_
  refine ex_bind s e1 ?_
  refine ex_bind (r1, i1, h1) q1 ?_
  refine ex_bind (r2, i2, h2) q2 ?_
  refine ex_bind (wrap64 (1 + r1), t1, i3, h3) q3 ?_
  refine ex_bind (r4, i4, h4) q4 ?_
  by_cases c : r4 = true
  · refine ex_pos c ?_
    obtain ⟨t2, i5, h5, q5, p5, w5⟩ := gr 10 50 i4 h4 (by omega) (by omega) w4
    refine ex_bind (10, t2, i5, h5) q5 ?_
    exact fin _ _ _ _ w5 p5
  · refine ex_neg c ?_
    exact fin _ _ _ _ w4 p3
theorem node_ok {b : List Int} (hb : b.length ≤ 1048576) {s1 : Int} (hs : 0 ≤ s1) (s2 m : Int) (t : List S76) {k : Nat} (hk : 0 < k) : ∃ r s1' s2', spec_l03DrawNode.f k b s1 s2 m t = some (r, s1', s2') ∧ 0 ≤ s1' := by
  obtain ⟨k, rfl⟩ : ∃ j, k = j + 1 := ⟨k - 1, by omega⟩
  have key : ∀ (q : Bool) (s1 s2 : Int), 0 ≤ s1 → ∃ r s1' s2', spec_l03DrawNode.j0 (k + 1) q b s1 s2 m t = some (r, s1', s2') ∧ 0 ≤ s1' := by
    intro q s1 s2 hs
    simp only [spec_l03DrawNode.j0]
    by_cases c : q = true
    · rw [if_pos c]
      obtain ⟨r, i, h, e, p, -⟩ := below_ok b s2 hs hb m
      rw [e]
      simp only [Option.bind_some]
      exact ⟨_, _, _, rfl, p⟩
    · rw [if_neg c]
      obtain ⟨r, i, h, e, p, -⟩ := pick_ok b s2 hs hb (l := [(-1), m, 0]) (by simp)
      rw [e]
      simp only [Option.bind_some]
      exact ⟨_, _, _, rfl, p⟩
  unfold spec_l03DrawNode.f
  by_cases c : m > 0
  · rw [if_pos c]
    obtain ⟨r, i, h, e, p⟩ := once_ok b s2 hs hb 15
    rw [e]
    simp only [Option.bind_some]
    exact key _ _ _ p
  · rw [if_neg c]
    exact key _ _ _ hs
theorem same_ok {l : List Int} (hl : l.length ≤ 1048576) {k : Nat} (hk : l.length < k) : laws_same.f k l l = some true := by
  have key : ∀ (d i k : Nat), i + d = l.length → d < k → laws_same.l0 k l l i = some true := by
    intro d
    induction d with
    | zero =>
      intro i k hi hk
      obtain ⟨k, rfl⟩ : ∃ m, k = m + 1 := ⟨k - 1, by omega⟩
      simp only [laws_same.l0]
      rw [if_neg (by omega)]
    | succ d ih =>
      intro i k hi hk
      obtain ⟨k, rfl⟩ : ∃ m, k = m + 1 := ⟨k - 1, by omega⟩
      simp only [laws_same.l0]
      rw [if_pos (by omega), if_pos (by omega), if_pos (by omega), if_pos trivial, wr1 (by omega)]
      exact ih (i + 1) k (by omega) (by omega)
  unfold laws_same.f
  rw [if_pos rfl]
  exact key l.length 0 k (by omega) (by omega)
theorem impl_OnWay' {n : Int} {t : List S76} (g : Gok n t) {x y z : Int} (hx : Node n x) (hy : Node n y) (hz : Node n z) (h : OnW n t x y z) {k : Nat} (hk : t.length * 12 + 100 < k) : impl_OnWay.f k n t x y z = some true := by
  have hn := g.1
  obtain ⟨b0, h1, h2, h3⟩ := both_Gok n (t := t) (by have := g.2.1; omega) (k := k) (by omega)
  unfold impl_OnWay.f
  rw [h2]
  simp only [Option.bind_some]
  rw [if_pos (h3.2 g), impl_Node hn, impl_Node hn, impl_Node hn, decide_eq_true hx, decide_eq_true hy, decide_eq_true hz]
  simp only [Option.bind_some, if_true]
  rw [impl_all g (by omega)]
  simp only [Option.bind_some]
  rw [impl_onw g hx hy hz, decide_eq_true h]
  rfl
theorem shares_l0 {n : Int} {t : List S76} (g : Gok n t) {x y a : Int} (hx : Node n x) (hy : Node n y) {o : List Int} (lo : (o.length : Int) = n) (h1 : ∀ v, Node n v → rd o v ≤ a) (h2 : ∀ v, Node n v → 0 < rd o v → OnW n t x y v) : ∀ (d i : Nat), (i : Int) + d = n → ∀ K, d + t.length * 12 + 200 < K → laws_FnShares.l0 K x y a o i n t = some true := by
  have hn := g.1
  intro d
  induction d with
  | zero =>
    intro i hi K hK
    obtain ⟨K, rfl⟩ : ∃ m, K = m + 1 := ⟨K - 1, by omega⟩
    simp only [laws_FnShares.l0]
    rw [if_neg (by omega)]
  | succ d ih =>
    intro i hi K hK
    obtain ⟨K, rfl⟩ : ∃ m, K = m + 1 := ⟨K - 1, by omega⟩
    have hi2 : Node n i := by unfold Node; omega
    have e1 : (i : Int) + 1 = ((i + 1 : Nat) : Int) := by omega
    have a1 := h1 i hi2
    have nx := ih (i + 1) (by omega) K (by omega)
    simp only [laws_FnShares.l0]
    rw [w64 (n := (i : Int) + 1) (by omega) (by omega), e1, nx, if_pos (by omega), if_pos (by omega), if_pos (by omega), if_neg (by omega)]
    by_cases c : rd o (i : Int) > 0
    · rw [if_pos c, impl_OnWay' g hx hy hi2 (h2 i hi2 c) (by omega)]
      rfl
    · rw [if_neg c]
theorem FnShares : FnShares.Pure := by
  intro l _
  refine ⟨l.length + 20000, ?_⟩
  have key : ∃ b, laws_FnShares.f (l.length + 20000) l = some b ∧ b = true := by
    unfold laws_FnShares.f
    by_cases hb : l.length ≤ 1048576
    · refine ex_bind false (by unfold laws_big.f; rw [decide_eq_false (by omega)]) ?_
      refine ex_neg (by decide) ?_
      obtain ⟨⟨n, t, b, i, h⟩, e, p1, p2, p3⟩ := draw_ok hb (k := l.length + 20000) (by omega)
      have p1' : t.length ≤ 61 := p1
      have p2' : b = l := p2
      have p3' : 0 ≤ i := p3
      have hbb : b.length ≤ 1048576 := by rw [p2']; exact hb
      obtain ⟨x, i2, s2, e2, w2⟩ := node_ok hbb p3' h n t (k := l.length + 20000) (by omega)
      obtain ⟨y, i3, s3, e3, w3⟩ := node_ok hbb w2 s2 n t (k := l.length + 20000) (by omega)
      obtain ⟨r, i4, s4, e4, w4, -⟩ := below_ok b s3 w3 hbb 1000
      obtain ⟨a, i5, s5, e5, w5, -⟩ := pick_ok b s4 w4 hbb (l := [1, 2, 7, wrap64 (1 + r), 100000, 100001, 0]) (by simp)
      have e6 : spec_DrawShares.f (l.length + 20000) l = some (n, t, x, y, a) := by
        unfold spec_DrawShares.f
        rw [e]
        simp only [Option.bind_some]
        rw [e2]
        simp only [Option.bind_some]
        rw [e3]
        simp only [Option.bind_some]
        rw [e4]
        simp only [Option.bind_some]
        rw [e5]
        rfl
      refine ex_bind (n, t, x, y, a) e6 ?_
      obtain ⟨R, r1, r2, r3⟩ := both_SharesI n (t := t) (by omega) x y a
      obtain ⟨q1, q2⟩ := r3 (l.length + 20000) (by omega)
      refine ex_bind R q1 ?_
      refine ex_bind R q2 ?_
      refine ex_bind true (same_ok (by omega) (by omega)) ?_
      refine ex_pos rfl ?_
      by_cases c : (R.length : Int) = 0
      · exact ex_pos c ⟨true, rfl, rfl⟩
      · refine ex_neg c ?_
        obtain ⟨⟨g, hx, hy⟩, ha, hd, I⟩ := r2 (fun e => c (by rw [e]; rfl))
        have hn := g.1
        have lo := I.1
        have hx2 := hx
        have hy2 := hy
        unfold Node at hx2 hy2
        have il := I.last g hx hy (show 0 ≤ a by omega) hd
        refine ex_pos hy2.1 ?_
        refine ex_pos (show y < (R.length : Int) by omega) ?_
        refine ex_pos il ?_
        refine ex_pos hx2.1 ?_
        refine ex_pos (show x < (R.length : Int) by omega) ?_
        have ef : (rd R x != a) = false := by rw [bne_eq_false_iff_eq]; exact I.first g hx hy
        have z := shares_l0 g hx hy lo (I.most g hx hy (by omega) hd) (fun v hv hp => ⟨hd, I.onway g hx hy (by omega) hd v hv hp⟩) n.toNat 0 (by omega) (l.length + 19999) (by omega)
        have j : laws_FnShares.j0 (l.length + 20000) x y a R (rd R x != a) n t = some true := by
          rw [ef]
          simp only [laws_FnShares.j0]
          rw [if_neg (by decide)]
          exact z
        exact ⟨true, j, rfl⟩
    · refine ex_bind true (by unfold laws_big.f; rw [decide_eq_true (by omega)]) ?_
      exact ex_pos rfl ⟨true, rfl, rfl⟩
  obtain ⟨b, e, rfl⟩ := key
  exact e

end Go.Proofs.Ythmahcohcphljaa.Pure
