/- The plain law of FnHops: the program's law answers true at every draw. -/
import Derived.Test.YthmahcohcphljaaStmtFnHops
namespace Go.Proofs.Ythmahcohcphljaa.Pure
open Go.RowKit Go.Proofs.Ythmahcohcphljaa.QFnHops Go.Proofs.YthmahcohcphljaaP.PrintWords Go.Proofs.YthmahcohcphljaaP.PrintLast Go.Proofs.YthmahcohcphljaaP.PrintMore
set_option linter.unusedVariables false
set_option linter.unusedSimpArgs false

theorem w64 {n : Int} (h0 : -9223372036854775808 ≤ n) (h1 : n ≤ 9223372036854775807) : wrap64 n = n := by unfold wrap64; omega
theorem wr1 {i : Nat} (h : i ≤ 1048576) : wrap64 ((i : Int) + 1) = ((i + 1 : Nat) : Int) := by rw [w64 (by omega) (by omega)]; omega
theorem spec_In (a b c : Int) : spec_l01In.f a b c = some (decide (b ≤ a ∧ a ≤ c)) := by
  unfold spec_l01In.f
  by_cases h : b ≤ a <;> simp [h]
theorem impl_In (a b c : Int) : impl_within.f a b c = some (decide (b ≤ a ∧ a ≤ c)) := by
  unfold impl_within.f
  by_cases h : b ≤ a <;> simp [h]
/-- A loop that asks each index and ends at the first refusal. -/
theorem all_loop {F : Nat → Int → Option Bool} {n : Nat} {P : Nat → Prop} {e : Bool}
    (hs : ∀ (k i : Nat), i < n → (∀ j, j < i → P j) → (P i ∧ F (k + 1) i = F k ((i : Int) + 1)) ∨ (¬ P i ∧ F (k + 1) i = some false))
    (he : ∀ k : Nat, (∀ j, j < n → P j) → F (k + 1) n = some e) : ∀ (d k i : Nat), i + d = n → d < k → (∀ j, j < i → P j) →
    ∃ b, F k i = some b ∧ (b = true ↔ ((∀ j, j < n → P j) ∧ e = true)) := by
  intro d
  induction d with
  | zero =>
    intro k i hi hk hp
    obtain ⟨k, rfl⟩ : ∃ m, k = m + 1 := ⟨k - 1, by omega⟩
    obtain rfl : i = n := by omega
    exact ⟨e, he k hp, ⟨fun h => ⟨hp, h⟩, fun h => h.2⟩⟩
  | succ d ih =>
    intro k i hi hk hp
    obtain ⟨k, rfl⟩ : ∃ m, k = m + 1 := ⟨k - 1, by omega⟩
    rcases hs k i (by omega) hp with ⟨h1, h2⟩ | ⟨h1, h2⟩
    · have e1 : (i : Int) + 1 = ((i + 1 : Nat) : Int) := by omega
      rw [h2, e1]
      refine ih k (i + 1) (by omega) (by omega) (fun j hj => ?_)
      by_cases hji : j = i
      · rw [hji]; exact h1
      · exact hp j (by omega)
    · refine ⟨false, h2, ⟨(fun h => by cases h), fun h => absurd (h.1 i (by omega)) h1⟩⟩
/-- A loop that copies a list, element by element. -/
theorem copy_loop {α β : Type} {F : Nat → List α → List β → Int → Option (List β)} {cv : α → β} (z : α) {N : Nat}
    (hs : ∀ (k i : Nat) (x : List α) (y : List β), x.length ≤ N → i < x.length → i < y.length → F (k + 1) x y i = F k x (y.set i (cv (x.getD i z))) ((i : Int) + 1))
    (he : ∀ (k : Nat) (x : List α) (y : List β), F (k + 1) x y x.length = some y) (x : List α) (hN : x.length ≤ N) : ∀ (d k i : Nat) (y : List β), i + d = x.length → d < k → y.length = x.length →
    y.take i = (x.take i).map cv → F k x y i = some (x.map cv) := by
  intro d
  induction d with
  | zero =>
    intro k i y hi hk hl ht
    obtain ⟨k, rfl⟩ : ∃ m, k = m + 1 := ⟨k - 1, by omega⟩
    obtain rfl : i = x.length := by omega
    rw [he]
    rw [List.take_of_length_le (by omega), List.take_of_length_le (by omega)] at ht
    rw [ht]
  | succ d ih =>
    intro k i y hi hk hl ht
    obtain ⟨k, rfl⟩ : ∃ m, k = m + 1 := ⟨k - 1, by omega⟩
    have e1 : (i : Int) + 1 = ((i + 1 : Nat) : Int) := by omega
    rw [hs k i x y hN (by omega) (by omega), e1]
    refine ih k (i + 1) _ (by omega) (by omega) (by rw [List.length_set, hl]) ?_
    have hx : i < x.length := by omega
    have hy : i < y.length := by omega
    rw [List.take_succ_eq_append_getElem (by rw [List.length_set]; exact hy), List.take_succ_eq_append_getElem hx, List.map_append, List.take_set, ht]
    congr 1
    · rw [List.set_eq_of_length_le]
      simp; omega
    · simp [List.getD_eq_getElem?_getD, hx]
/-- Two equal lists, compared element by element. -/
theorem same_loop {α : Type} {F : Nat → List α → List α → Int → Option Bool} {N : Nat}
    (hs : ∀ (k i : Nat) (x : List α), x.length ≤ N → i < x.length → F (k + 1) x x i = F k x x ((i : Int) + 1))
    (he : ∀ (k : Nat) (x : List α), F (k + 1) x x x.length = some true) (x : List α) (hN : x.length ≤ N) : ∀ (d k i : Nat), i + d = x.length → d < k → F k x x i = some true := by
  intro d
  induction d with
  | zero =>
    intro k i hi hk
    obtain ⟨k, rfl⟩ : ∃ m, k = m + 1 := ⟨k - 1, by omega⟩
    obtain rfl : i = x.length := by omega
    exact he k x
  | succ d ih =>
    intro k i hi hk
    obtain ⟨k, rfl⟩ : ∃ m, k = m + 1 := ⟨k - 1, by omega⟩
    have e1 : (i : Int) + 1 = ((i + 1 : Nat) : Int) := by omega
    rw [hs k i x hN (by omega), e1]
    exact ih k (i + 1) (by omega) (by omega)
/-- The same where a round costs c + 1 rounds of the count. -/
theorem all_loopc (c : Nat) {F : Nat → Int → Option Bool} {n : Nat} {P : Nat → Prop} {e : Bool}
    (hs : ∀ (k i : Nat), i < n → (∀ j, j < i → P j) → (P i ∧ F (k + (c + 1)) i = F k ((i : Int) + 1)) ∨ (¬ P i ∧ F (k + (c + 1)) i = some false))
    (he : ∀ k : Nat, (∀ j, j < n → P j) → F (k + 1) n = some e) : ∀ (d k i : Nat), i + d = n → d * (c + 1) < k → (∀ j, j < i → P j) →
    ∃ b, F k i = some b ∧ (b = true ↔ ((∀ j, j < n → P j) ∧ e = true)) := by
  intro d
  induction d with
  | zero =>
    intro k i hi hk hp
    obtain ⟨k, rfl⟩ : ∃ m, k = m + 1 := ⟨k - 1, by omega⟩
    obtain rfl : i = n := by omega
    exact ⟨e, he k hp, ⟨fun h => ⟨hp, h⟩, fun h => h.2⟩⟩
  | succ d ih =>
    intro k i hi hk hp
    rw [Nat.add_mul, Nat.one_mul] at hk
    obtain ⟨k, rfl⟩ : ∃ m, k = m + (c + 1) := ⟨k - (c + 1), by omega⟩
    rcases hs k i (by omega) hp with ⟨h1, h2⟩ | ⟨h1, h2⟩
    · have e1 : (i : Int) + 1 = ((i + 1 : Nat) : Int) := by omega
      rw [h2, e1]
      refine ih k (i + 1) (by omega) (by omega) (fun j hj => ?_)
      by_cases hji : j = i
      · rw [hji]; exact h1
      · exact hp j (by omega)
    · refine ⟨false, h2, ⟨(fun h => by cases h), fun h => absurd (h.1 i (by omega)) h1⟩⟩
/-- A loop that looks for something in a list, from an index on. -/
theorem find_loop {α ρ : Type} {F : Nat → Int → Option ρ} {h : List α → ρ} (t : List α)
    (hs : ∀ (k i : Nat), i < t.length → (F (k + 1) i = F k ((i : Int) + 1) ∧ h (t.drop i) = h (t.drop (i + 1))) ∨ F (k + 1) i = some (h (t.drop i)))
    (he : ∀ (k : Nat), F (k + 1) t.length = some (h [])) : ∀ (d k i : Nat), i + d = t.length → d < k → F k i = some (h (t.drop i)) := by
  intro d
  induction d with
  | zero =>
    intro k i hi hk
    obtain ⟨k, rfl⟩ : ∃ m, k = m + 1 := ⟨k - 1, by omega⟩
    obtain rfl : i = t.length := by omega
    rw [he, List.drop_length]
  | succ d ih =>
    intro k i hi hk
    obtain ⟨k, rfl⟩ : ∃ m, k = m + 1 := ⟨k - 1, by omega⟩
    rcases hs k i (by omega) with ⟨h1, h2⟩ | h1
    · have e1 : (i : Int) + 1 = ((i + 1 : Nat) : Int) := by omega
      rw [h1, e1, ih k (i + 1) (by omega) (by omega), h2]
    · exact h1
theorem drop_getD {α : Type} (t : List α) (z : α) {i : Nat} (hi : i < t.length) : t.drop i = t.getD i z :: t.drop (i + 1) := by
  rw [List.drop_eq_getElem_cons hi, List.getD_eq_getElem?_getD, List.getElem?_eq_getElem hi]; rfl
/-- A node of a graph of n nodes. -/
def Node (n x : Int) : Prop := 0 ≤ x ∧ x ≤ n - 1
instance (n x : Int) : Decidable (Node n x) := by unfold Node; infer_instance
def EAhead (a b : S76) : Prop := a.f0 < b.f0 ∨ a.f0 = b.f0 ∧ a.f1 < b.f1
/-- The edge at an index is valid and stands behind the one ahead of it. -/
def Eat (n : Int) (t : List S76) (j : Nat) : Prop :=
  Node n (rd_T76 t j).f0 ∧ Node n (rd_T76 t j).f1 ∧ (rd_T76 t j).f0 ≠ (rd_T76 t j).f1 ∧ (1 ≤ (rd_T76 t j).f2 ∧ (rd_T76 t j).f2 ≤ 1000) ∧
    (0 < j → EAhead (rd_T76 t ((j : Int) - 1)) (rd_T76 t j))
/-- A valid graph. -/
def Gok (n : Int) (t : List S76) : Prop := (1 ≤ n ∧ n ≤ 10) ∧ t.length ≤ 60 ∧ ∀ j, j < t.length → Eat n t j
theorem spec_Node {n : Int} (h : 1 ≤ n ∧ n ≤ 10) (t : List S76) (x : Int) : spec_l03Node.f n t x = some (decide (Node n x)) := by
  unfold spec_l03Node.f
  rw [w64 (by omega) (by omega), spec_In]
  rfl
theorem impl_Node {n : Int} (h : 1 ≤ n ∧ n ≤ 10) (t : List S76) (x : Int) : impl_Graph_isNode.f n t x = some (decide (Node n x)) := by
  unfold impl_Graph_isNode.f
  rw [w64 (by omega) (by omega), impl_In]
  rfl
theorem spec_edges {n : Int} (hn : 1 ≤ n ∧ n ≤ 10) {t : List S76} (h : t.length ≤ 1048576) {k : Nat} (hk : t.length * 2 < k) : ∃ b, spec_GraphOk.l0 k 0 n t = some b ∧ (b = true ↔ ∀ j, j < t.length → Eat n t j) := by
  have x := all_loopc 1 (F := fun k i => spec_GraphOk.l0 k i n t) (n := t.length) (P := Eat n t) (e := true) ?_ ?_ t.length k 0 (by omega) hk (fun j hj => by omega)
  · obtain ⟨b, h1, h2⟩ := x
    exact ⟨b, h1, by simpa using h2⟩
  · intro k i hi hp
    simp only [spec_GraphOk.l0]
    rw [if_pos (by omega), if_pos (by omega), spec_Node hn, spec_Node hn, spec_In]
    simp only [Option.bind_some, decide_eq_true_eq]
    by_cases c1 : Node n (rd_T76 t i).f0
    · rw [if_pos c1]
      by_cases c2 : Node n (rd_T76 t i).f1
      · rw [if_pos c2]
        by_cases c3 : (rd_T76 t i).f0 = (rd_T76 t i).f1
        · rw [if_pos c3]
          simp only [spec_GraphOk.j2]
          exact .inr ⟨fun h => h.2.2.1 c3, rfl⟩
        · rw [if_neg c3]
          simp only [spec_GraphOk.j2]
          by_cases c4 : 1 ≤ (rd_T76 t i).f2 ∧ (rd_T76 t i).f2 ≤ 1000
          · rw [decide_eq_true c4, if_neg (by decide)]
            by_cases c5 : i = 0
            · subst c5
              rw [if_neg (by omega), w64 (by omega) (by omega)]
              exact .inl ⟨⟨c1, c2, c3, c4, fun h => by omega⟩, rfl⟩
            · rw [if_pos (by omega), w64 (n := (i : Int) - 1) (by omega) (by omega), if_pos (by omega), if_pos (by omega), w64 (n := (i : Int) + 1) (by omega) (by omega)]
              by_cases c6 : (rd_T76 t ((i : Int) - 1)).f0 > (rd_T76 t i).f0
              · rw [if_pos c6]
                refine .inr ⟨fun h => ?_, rfl⟩
                have := h.2.2.2.2 (by omega)
                unfold EAhead at this; omega
              · rw [if_neg c6]
                by_cases c7 : (rd_T76 t ((i : Int) - 1)).f0 = (rd_T76 t i).f0
                · rw [if_pos c7]
                  by_cases c8 : (rd_T76 t ((i : Int) - 1)).f1 ≥ (rd_T76 t i).f1
                  · rw [if_pos c8]
                    refine .inr ⟨fun h => ?_, rfl⟩
                    have := h.2.2.2.2 (by omega)
                    unfold EAhead at this; omega
                  · rw [if_neg c8]
                    exact .inl ⟨⟨c1, c2, c3, c4, fun _ => .inr ⟨c7, by omega⟩⟩, rfl⟩
                · rw [if_neg c7]
                  exact .inl ⟨⟨c1, c2, c3, c4, fun _ => .inl (by omega)⟩, rfl⟩
          · rw [decide_eq_false c4]
            exact .inr ⟨fun h => c4 h.2.2.2.1, rfl⟩
      · rw [if_neg c2]
        simp only [spec_GraphOk.j2]
        exact .inr ⟨fun h => c2 h.2.1, rfl⟩
    · rw [if_neg c1]
      simp only [spec_GraphOk.j2]
      exact .inr ⟨fun h => c1 h.1, rfl⟩
  · intro k _
    simp only [spec_GraphOk.l0]
    rw [if_neg (by omega)]
theorem spec_Gok (n : Int) {t : List S76} (h : t.length ≤ 1048576) {k : Nat} (hk : t.length * 2 + 1 < k) : ∃ b, spec_GraphOk.f k n t = some b ∧ (b = true ↔ Gok n t) := by
  obtain ⟨k, rfl⟩ : ∃ m, k = m + 1 := ⟨k - 1, by omega⟩
  unfold spec_GraphOk.f Gok
  rw [spec_In]
  simp only [Option.bind_some, decide_eq_true_eq, spec_GraphOk.j0]
  by_cases hn : 1 ≤ n ∧ n ≤ 10
  · rw [if_pos hn]
    by_cases hl : (t.length : Int) > 60
    · refine ⟨false, by rw [if_pos hl], ⟨(fun h => by cases h), fun h => by omega⟩⟩
    · obtain ⟨b, h1, h2⟩ := spec_edges hn h (k := k) (by omega)
      exact ⟨b, by rw [if_neg hl, h1], by rw [h2]; exact ⟨fun x => ⟨hn, by omega, x⟩, fun x => x.2.2⟩⟩
  · rw [if_neg hn]
    exact ⟨false, rfl, ⟨(fun h => by cases h), fun h => absurd h.1 hn⟩⟩
theorem impl_CompareE {n : Int} {a b : S76} (hn : 1 ≤ n ∧ n ≤ 10) (h1 : Node n a.f0) (h2 : Node n a.f1) (h3 : Node n b.f0) (h4 : Node n b.f1) : ∃ c, impl_compareEdges.f a.f0 a.f1 a.f2 b.f0 b.f1 b.f2 = some c ∧ (¬ c ≥ 0 ↔ EAhead a b) := by
  unfold Node at h1 h2 h3 h4
  unfold impl_compareEdges.f EAhead
  by_cases h : a.f0 = b.f0
  · refine ⟨a.f1 - b.f1, by rw [if_pos h, w64 (by omega) (by omega)], by omega⟩
  · refine ⟨a.f0 - b.f0, by rw [if_neg h, w64 (by omega) (by omega)], by omega⟩
theorem impl_edges {n : Int} (hn : 1 ≤ n ∧ n ≤ 10) {t : List S76} (h : t.length ≤ 1048576) {k : Nat} (hk : t.length < k) : ∃ b, impl_GraphOk.l0 k t t.length 0 n t = some b ∧ (b = true ↔ ∀ j, j < t.length → Eat n t j) := by
  have x := all_loop (F := fun k i => impl_GraphOk.l0 k t t.length i n t) (n := t.length) (P := Eat n t) (e := true) ?_ ?_ t.length k 0 (by omega) hk (fun j hj => by omega)
  · obtain ⟨b, h1, h2⟩ := x
    exact ⟨b, h1, by simpa using h2⟩
  · intro k i hi hp
    simp only [impl_GraphOk.l0]
    rw [if_pos (by omega), if_pos (by omega), if_pos (by omega), impl_Node hn, impl_Node hn, impl_In]
    simp only [Option.bind_some, decide_eq_true_eq]
    by_cases c1 : Node n (rd_T76 t i).f0
    · rw [if_pos c1]
      by_cases c2 : Node n (rd_T76 t i).f1
      · rw [if_pos c2]
        by_cases c3 : (rd_T76 t i).f0 = (rd_T76 t i).f1
        · rw [if_pos c3]
          exact .inr ⟨fun h => h.2.2.1 c3, rfl⟩
        · rw [if_neg c3]
          by_cases c4 : 1 ≤ (rd_T76 t i).f2 ∧ (rd_T76 t i).f2 ≤ 1000
          · rw [if_pos c4]
            by_cases c5 : i = 0
            · subst c5
              rw [if_neg (by omega), w64 (by omega) (by omega)]
              exact .inl ⟨⟨c1, c2, c3, c4, fun h => by omega⟩, rfl⟩
            · rw [if_pos (by omega), w64 (n := (i : Int) - 1) (by omega) (by omega), if_pos (by omega), if_pos (by omega)]
              have e1 : (((i - 1 : Nat) : Int)) = (i : Int) - 1 := by omega
              have pv := hp (i - 1) (by omega)
              unfold Eat at pv
              rw [e1] at pv
              obtain ⟨b, hb, hb2⟩ := impl_CompareE hn pv.1 pv.2.1 c1 c2
              rw [hb]
              simp only [Option.bind_some]
              by_cases c6 : b ≥ 0
              · rw [if_pos c6]
                exact .inr ⟨fun h => hb2.2 (h.2.2.2.2 (by omega)) c6, rfl⟩
              · rw [if_neg c6, w64 (by omega) (by omega)]
                exact .inl ⟨⟨c1, c2, c3, c4, fun _ => hb2.1 c6⟩, rfl⟩
          · rw [if_neg c4]
            exact .inr ⟨fun h => c4 h.2.2.2.1, rfl⟩
      · rw [if_neg c2]
        exact .inr ⟨fun h => c2 h.2.1, rfl⟩
    · rw [if_neg c1]
      exact .inr ⟨fun h => c1 h.1, rfl⟩
  · intro k _
    simp only [impl_GraphOk.l0]
    rw [if_neg (by omega)]
theorem impl_Gok (n : Int) {t : List S76} (h : t.length ≤ 1048576) {k : Nat} (hk : t.length + 1 < k) : ∃ b, impl_GraphOk.f k n t = some b ∧ (b = true ↔ Gok n t) := by
  obtain ⟨k, rfl⟩ : ∃ m, k = m + 1 := ⟨k - 1, by omega⟩
  unfold impl_GraphOk.f Gok
  rw [impl_In]
  simp only [Option.bind_some, decide_eq_true_eq, impl_GraphOk.j0]
  by_cases hn : 1 ≤ n ∧ n ≤ 10
  · rw [if_pos hn]
    by_cases hl : (t.length : Int) > 60
    · refine ⟨false, by rw [if_pos hl], ⟨(fun h => by cases h), fun h => by omega⟩⟩
    · obtain ⟨b, h1, h2⟩ := impl_edges hn h (k := k) (by omega)
      exact ⟨b, by rw [if_neg hl, h1], by rw [h2]; exact ⟨fun x => ⟨hn, by omega, x⟩, fun x => x.2.2⟩⟩
  · rw [if_neg hn]
    exact ⟨false, rfl, ⟨(fun h => by cases h), fun h => absurd h.1 hn⟩⟩
/-- Both ask the same of a graph. -/
theorem both_Gok (n : Int) {t : List S76} (h : t.length ≤ 1048576) {k : Nat} (hk : t.length * 2 + 1 < k) : ∃ b, spec_GraphOk.f k n t = some b ∧ impl_GraphOk.f k n t = some b ∧ (b = true ↔ Gok n t) := by
  obtain ⟨b1, s1, s2⟩ := spec_Gok n h hk
  obtain ⟨b2, i1, i2⟩ := impl_Gok n h (k := k) (by omega)
  have e : b2 = b1 := by rw [Bool.eq_iff_iff, i2, s2]
  exact ⟨b1, s1, by rw [i1, e], s2⟩
/-- The cost of the edge from x to y, far where there is none. -/
def ecost : List S76 → Int → Int → Int
  | [], _, _ => 1000000
  | e :: t, x, y => if e.f0 = x then (if e.f1 = y then e.f2 else ecost t x y) else ecost t x y
def gcost (n : Int) (t : List S76) (x y : Int) : Int := if Node n x ∧ Node n y then (if x = y then 0 else ecost t x y) else 1000000
theorem rdE_get (t : List S76) (i : Nat) : rd_T76 t i = t.getD i z76 := by simp [rd_T76]
theorem Gok.mem {n : Int} {t : List S76} (h : Gok n t) {e : S76} (he : e ∈ t) : Node n e.f0 ∧ Node n e.f1 ∧ e.f0 ≠ e.f1 ∧ 1 ≤ e.f2 ∧ e.f2 ≤ 1000 := by
  obtain ⟨i, hi, rfl⟩ := List.getElem_of_mem he
  have x := h.2.2 i hi
  have e1 : rd_T76 t i = t[i] := by rw [rdE_get, List.getD_eq_getElem?_getD, List.getElem?_eq_getElem hi]; rfl
  unfold Eat at x
  rw [e1] at x
  exact ⟨x.1, x.2.1, x.2.2.1, x.2.2.2.1.1, x.2.2.2.1.2⟩
theorem ecost_mem {t : List S76} {x y : Int} (h : ecost t x y ≠ 1000000) : ∃ e ∈ t, e.f0 = x ∧ e.f1 = y ∧ ecost t x y = e.f2 := by
  induction t with
  | nil => exact absurd rfl h
  | cons e t ih =>
    simp only [ecost] at h ⊢
    by_cases h1 : e.f0 = x
    · by_cases h2 : e.f1 = y
      · rw [if_pos h1, if_pos h2]
        exact ⟨e, List.mem_cons_self, h1, h2, rfl⟩
      · rw [if_pos h1, if_neg h2] at h ⊢
        obtain ⟨e', m, r⟩ := ih h
        exact ⟨e', List.mem_cons_of_mem _ m, r⟩
    · rw [if_neg h1] at h ⊢
      obtain ⟨e', m, r⟩ := ih h
      exact ⟨e', List.mem_cons_of_mem _ m, r⟩
theorem ecost_far {n : Int} {t : List S76} (h : Gok n t) {x y : Int} (hxy : ¬ (Node n x ∧ Node n y ∧ x ≠ y)) : ecost t x y = 1000000 := by
  by_cases c : ecost t x y = 1000000
  · exact c
  · obtain ⟨e, m, h1, h2, _⟩ := ecost_mem c
    have g := h.mem m
    rw [h1, h2] at g
    exact absurd ⟨g.1, g.2.1, g.2.2.1⟩ hxy
theorem gcost_lim {n : Int} {t : List S76} (h : Gok n t) (x y : Int) : gcost n t x y = 1000000 ∨ (0 ≤ gcost n t x y ∧ gcost n t x y ≤ 1000) := by
  unfold gcost
  by_cases c : Node n x ∧ Node n y
  · rw [if_pos c]
    by_cases c2 : x = y
    · rw [if_pos c2]; exact .inr ⟨by omega, by omega⟩
    · rw [if_neg c2]
      by_cases c3 : ecost t x y = 1000000
      · exact .inl c3
      · obtain ⟨e, m, _, _, h3⟩ := ecost_mem c3
        have g := h.mem m
        rw [h3]
        exact .inr ⟨by omega, by omega⟩
  · rw [if_neg c]; exact .inl rfl
theorem spec_Cost {n : Int} (hn : 1 ≤ n ∧ n ≤ 10) {t : List S76} (h : t.length ≤ 1048576) (x y : Int) {k : Nat} (hk : t.length + 1 < k) : spec_l03Cost.f k n t x y = some (gcost n t x y) := by
  obtain ⟨k, rfl⟩ : ∃ m, k = m + 1 := ⟨k - 1, by omega⟩
  unfold spec_l03Cost.f gcost
  rw [spec_Node hn, spec_Node hn]
  simp only [Option.bind_some, decide_eq_true_eq, spec_l03Cost.j0]
  by_cases c1 : Node n x
  · by_cases c2 : Node n y
    · rw [if_pos c1, decide_eq_true c2, if_neg (by decide), if_pos (⟨c1, c2⟩ : Node n x ∧ Node n y)]
      by_cases c3 : x = y
      · rw [if_pos c3, if_pos c3]
      · rw [if_neg c3, if_neg c3]
        have z := find_loop (F := fun k i => spec_l03Cost.l0 k x y i n t) (h := fun l => ecost l x y) t ?_ ?_ t.length k 0 (by omega) (by omega)
        · exact z
        · intro k i hi
          simp only [spec_l03Cost.l0]
          rw [if_pos (by omega), if_pos (by omega), w64 (by omega) (by omega), drop_getD t z76 hi, ← rdE_get]
          simp only [ecost]
          by_cases d1 : (rd_T76 t i).f0 = x
          · by_cases d2 : (rd_T76 t i).f1 = y
            · rw [if_pos d1, if_pos d2, if_pos d1, if_pos d2]; exact .inr rfl
            · rw [if_pos d1, if_neg d2, if_pos d1, if_neg d2]; exact .inl ⟨rfl, rfl⟩
          · rw [if_neg d1, if_neg d1]; exact .inl ⟨rfl, rfl⟩
        · intro k
          simp only [spec_l03Cost.l0]
          rw [if_neg (by omega)]; rfl
    · rw [if_pos c1, decide_eq_false c2, if_pos (by decide), if_neg (c := Node n x ∧ Node n y) (fun z => c2 z.2)]
  · rw [if_neg c1, if_pos trivial, if_neg (c := Node n x ∧ Node n y) (fun z => c1 z.1)]
theorem impl_Cost {n : Int} {t : List S76} (g : Gok n t) (x y : Int) {k : Nat} (hk : t.length + 1 < k) : impl_Graph_cost.f k n t x y = some (gcost n t x y) := by
  obtain ⟨k, rfl⟩ : ∃ m, k = m + 1 := ⟨k - 1, by omega⟩
  have hl : t.length ≤ 60 := g.2.1
  have z : impl_Graph_cost.l0 k x y t t.length 0 = some (ecost t x y) := by
    have z := find_loop (F := fun k i => impl_Graph_cost.l0 k x y t t.length i) (h := fun l => ecost l x y) t ?_ ?_ t.length k 0 (by omega) (by omega)
    · exact z
    · intro k i hi
      simp only [impl_Graph_cost.l0]
      rw [if_pos (by omega), if_pos (by omega), if_pos (by omega), w64 (by omega) (by omega), drop_getD t z76 hi, ← rdE_get]
      simp only [ecost]
      by_cases d1 : (rd_T76 t i).f0 = x
      · by_cases d2 : (rd_T76 t i).f1 = y
        · rw [if_pos d1, if_pos d2, if_pos d1, if_pos d2]; exact .inr rfl
        · rw [if_pos d1, if_neg d2, if_pos d1, if_neg d2]; exact .inl ⟨rfl, rfl⟩
      · rw [if_neg d1, if_neg d1]; exact .inl ⟨rfl, rfl⟩
    · intro k
      simp only [impl_Graph_cost.l0]
      rw [if_neg (by omega)]; rfl
  unfold impl_Graph_cost.f gcost
  simp only [impl_Graph_cost.j0]
  by_cases c : x = y
  · subst c
    rw [if_pos rfl, impl_Node g.1]
    simp only [Option.bind_some, decide_eq_true_eq]
    by_cases c1 : Node n x
    · rw [if_pos c1, if_pos ⟨c1, c1⟩]; simp
    · rw [if_neg c1, if_neg (fun z => c1 z.1), z, ecost_far g (fun h => h.2.2 rfl)]
  · rw [if_neg c, if_neg (by decide), z]
    by_cases c1 : Node n x ∧ Node n y
    · rw [if_pos c1, if_neg c]
    · rw [if_neg c1, ecost_far g (fun h => c1 ⟨h.1, h.2.1⟩)]
theorem rd_getI (t : List Int) (i : Nat) : rd t i = t.getD i 0 := by simp [rd]
/-- One edge more: the way over it, where it is shorter. -/
def relax (o : List Int) (e : S76) : List Int := if rd o e.f0 < 1000000 then o.set e.f1.toNat (mn (rd o e.f1) (rd o e.f0 + e.f2)) else o
def relaxAll (t : List S76) (o : List Int) : List Int := t.foldl relax o
def rounds (t : List S76) : Nat → List Int → List Int
  | 0, o => o
  | d + 1, o => rounds t d (relaxAll t o)
/-- The distances from a node. -/
def dist (n : Int) (t : List S76) (x : Int) : List Int := rounds t n.toNat ((List.replicate n.toNat 1000000).set x.toNat 0)
/-- Distances of n nodes: all between 0 and far. -/
def Dok (n : Int) (o : List Int) : Prop := (o.length : Int) = n ∧ ∀ v ∈ o, 0 ≤ v ∧ v ≤ 1000000
theorem rd_mem {o : List Int} {i : Int} (h0 : 0 ≤ i) (h : i < o.length) : rd o i ∈ o := by
  unfold rd
  have hi : i.toNat < o.length := by omega
  rw [List.getD_eq_getElem?_getD, List.getElem?_eq_getElem hi]
  exact List.getElem_mem hi
theorem mn_le (a b : Int) : mn a b ≤ a ∧ mn a b ≤ b := by unfold mn; split <;> omega
theorem Dok.relax {n : Int} {t : List S76} (g : Gok n t) {e : S76} (he : e ∈ t) {o : List Int} (h : Dok n o) : Dok n (relax o e) := by
  obtain ⟨a1, a2, a3, a4, a5⟩ := g.mem he
  unfold Node at a1 a2
  have b1 := h.2 _ (rd_mem (o := o) (i := e.f0) a1.1 (by have := h.1; omega))
  have b2 := h.2 _ (rd_mem (o := o) (i := e.f1) a2.1 (by have := h.1; omega))
  unfold Pure.relax
  by_cases c : rd o e.f0 < 1000000
  · rw [if_pos c]
    refine ⟨by rw [List.length_set]; exact h.1, fun v hv => ?_⟩
    rcases List.mem_or_eq_of_mem_set hv with hv | rfl
    · exact h.2 v hv
    · have := mn_le (rd o e.f1) (rd o e.f0 + e.f2)
      refine ⟨?_, by omega⟩
      unfold mn; split <;> omega
  · rw [if_neg c]; exact h
theorem set_self {o : List Int} {i : Nat} (h : i < o.length) : o.set i (o.getD i 0) = o := by
  apply List.ext_getElem?
  intro j
  rw [List.getElem?_set]
  by_cases c : i = j
  · subst c; rw [if_pos rfl, if_pos h, List.getD_eq_getElem?_getD, List.getElem?_eq_getElem h]; rfl
  · rw [if_neg c]
theorem Dok.all {n : Int} {t : List S76} (g : Gok n t) {o : List Int} (h : Dok n o) : ∀ (s : List S76), (∀ e ∈ s, e ∈ t) → Dok n (s.foldl Pure.relax o) := by
  intro s
  induction s generalizing o with
  | nil => intro _; exact h
  | cons e s ih =>
    intro hs
    exact ih (h.relax g (hs e List.mem_cons_self)) (fun e' he' => hs e' (List.mem_cons_of_mem _ he'))
theorem spec_inner {n : Int} {t : List S76} (g : Gok n t) (k : Nat) (r : Int) : ∀ (d i K : Nat) (o : List Int), i + d = t.length → K = k + d + 1 → Dok n o →
    spec_Distances.l2 K o r i n t = spec_Distances.l1 k ((t.drop i).foldl relax o) (wrap64 (r + 1)) n t := by
  have hl : t.length ≤ 60 := g.2.1
  intro d
  induction d with
  | zero =>
    intro i K o hi hK ho
    obtain rfl : i = t.length := by omega
    obtain rfl : K = k + 1 := by omega
    simp only [spec_Distances.l2]
    rw [if_neg (by omega), List.drop_length]; rfl
  | succ d ih =>
    intro i K o hi hK ho
    obtain ⟨K, rfl⟩ : ∃ m, K = m + 1 := ⟨K - 1, by omega⟩
    have hil : i < t.length := by omega
    have e1 : (i : Int) + 1 = ((i + 1 : Nat) : Int) := by omega
    have hmem : rd_T76 t i ∈ t := by
      rw [rdE_get, List.getD_eq_getElem?_getD, List.getElem?_eq_getElem hil]; exact List.getElem_mem hil
    obtain ⟨a1, a2, a3, a4, a5⟩ := g.mem hmem
    have hd := ho.relax g hmem
    have hlen := ho.1
    unfold Node at a1 a2
    have b1 := ho.2 _ (rd_mem (o := o) (i := (rd_T76 t i).f0) a1.1 (by omega))
    simp only [spec_Distances.l2]
    rw [if_pos (by omega), if_pos (by omega), if_pos a1.1, if_pos (by omega), w64 (n := (i : Int) + 1) (by omega) (by omega), e1, drop_getD t z76 hil, ← rdE_get, List.foldl_cons]
    by_cases c : rd o (rd_T76 t i).f0 < 1000000
    · rw [if_pos c, if_pos a2.1, if_pos (by omega), w64 (by omega) (by omega)]
      by_cases c2 : rd o (rd_T76 t i).f0 + (rd_T76 t i).f2 < rd o (rd_T76 t i).f1
      · have er : Pure.relax o (rd_T76 t i) = o.set (rd_T76 t i).f1.toNat (rd o (rd_T76 t i).f0 + (rd_T76 t i).f2) := by
          unfold Pure.relax mn; rw [if_pos c, if_pos c2]
        rw [if_pos c2, ← er, ih (i + 1) K _ (by omega) (by omega) hd]
      · have er : Pure.relax o (rd_T76 t i) = o := by
          unfold Pure.relax mn
          rw [if_pos c, if_neg c2]
          exact set_self (by omega)
        rw [if_neg c2, er, ih (i + 1) K _ (by omega) (by omega) ho]
    · have er : Pure.relax o (rd_T76 t i) = o := by unfold Pure.relax; rw [if_neg c]
      rw [if_neg c, er, ih (i + 1) K _ (by omega) (by omega) ho]
theorem spec_outer {n : Int} {t : List S76} (g : Gok n t) : ∀ (d k i : Nat) (o : List Int), (i : Int) + d = n → d * (t.length + 2) < k → Dok n o →
    spec_Distances.l1 k o i n t = some (rounds t d o) := by
  have hn := g.1
  intro d
  induction d with
  | zero =>
    intro k i o hi hk ho
    obtain ⟨k, rfl⟩ : ∃ m, k = m + 1 := ⟨k - 1, by omega⟩
    simp only [spec_Distances.l1]
    rw [if_neg (by omega)]; rfl
  | succ d ih =>
    intro k i o hi hk ho
    rw [Nat.add_mul, Nat.one_mul] at hk
    obtain ⟨k, rfl⟩ : ∃ m, k = (m + t.length + 1) + 1 := ⟨k - t.length - 2, by omega⟩
    have e1 : (i : Int) + 1 = ((i + 1 : Nat) : Int) := by omega
    have z := spec_inner g k i t.length 0 (k + t.length + 1) o (by omega) rfl ho
    have z' : spec_Distances.l2 (k + t.length + 1) o i 0 n t = spec_Distances.l1 k (relaxAll t o) (wrap64 ((i : Int) + 1)) n t := z
    simp only [spec_Distances.l1]
    rw [if_pos (by omega), z', w64 (by omega) (by omega), e1, ih k (i + 1) (relaxAll t o) (by omega) (by omega) (ho.all g t (fun e he => he))]
    rfl
theorem Dok.start {n x : Int} (hn : 1 ≤ n ∧ n ≤ 10) : Dok n ((List.replicate n.toNat 1000000).set x.toNat 0) := by
  refine ⟨by rw [List.length_set, List.length_replicate]; omega, fun v hv => ?_⟩
  rcases List.mem_or_eq_of_mem_set hv with hv | rfl
  · rw [List.eq_of_mem_replicate hv]; omega
  · omega
theorem spec_fars {n x : Int} {t : List S76} (g : Gok n t) (hx : Node n x) (k : Nat) : ∀ (d i K : Nat), (i : Int) + d = n → K = k + d + 1 →
    spec_Distances.l0 K x (List.replicate i 1000000) i n t = spec_Distances.l1 k ((List.replicate n.toNat 1000000).set x.toNat 0) 0 n t := by
  have hn := g.1
  unfold Node at hx
  intro d
  induction d with
  | zero =>
    intro i K hi hK
    have e : n.toNat = i := by omega
    obtain rfl : K = k + 1 := by omega
    simp only [spec_Distances.l0]
    rw [if_neg (by omega), if_pos hx.1, List.length_replicate, if_pos (by omega), e]
  | succ d ih =>
    intro i K hi hK
    have e1 : (i : Int) + 1 = ((i + 1 : Nat) : Int) := by omega
    obtain ⟨K, rfl⟩ : ∃ m, K = m + 1 := ⟨K - 1, by omega⟩
    simp only [spec_Distances.l0]
    rw [if_pos (by omega), List.length_replicate, if_pos (by omega), w64 (by omega) (by omega), e1, ← List.replicate_succ', ih (i + 1) K (by omega) (by omega)]
theorem spec_Dist {n : Int} {t : List S76} (h : t.length ≤ 1048576) (x : Int) {k : Nat} (hk : t.length * 12 + 60 < k) :
    ∃ b : Bool, (b = true ↔ (Gok n t ∧ Node n x)) ∧ spec_Distances.f k n t x = some (if b = true then dist n t x else []) := by
  obtain ⟨k, rfl⟩ : ∃ m, k = m + 1 := ⟨k - 1, by omega⟩
  obtain ⟨b, h1, _, h3⟩ := both_Gok n h (k := k + 1) (by omega)
  unfold spec_Distances.f
  rw [h1]
  simp only [Option.bind_some, spec_Distances.j0]
  by_cases c : b = true
  · have g := h3.1 c
    have hn := g.1
    have hl : t.length ≤ 60 := g.2.1
    rw [if_pos c, spec_Node hn]
    simp only [Option.bind_some]
    by_cases c2 : Node n x
    · rw [decide_eq_true c2, if_neg (by decide)]
      refine ⟨true, ⟨fun _ => ⟨g, c2⟩, fun _ => rfl⟩, ?_⟩
      obtain ⟨k, rfl⟩ : ∃ m, k = m + n.toNat + 1 := ⟨k - n.toNat - 1, by omega⟩
      have z := spec_fars g c2 k n.toNat 0 (k + n.toNat + 1) (by omega) rfl
      have hm : n.toNat * (t.length + 2) ≤ 10 * (t.length + 2) := Nat.mul_le_mul_right _ (by omega)
      have z2 := spec_outer g n.toNat k 0 _ (by omega) (by omega) (Dok.start (x := x) hn)
      have z' : spec_Distances.l0 (k + n.toNat + 1) x [] 0 n t = _ := z
      rw [z']
      exact z2
    · rw [decide_eq_false c2, if_pos (by decide)]
      exact ⟨false, ⟨(fun h => by cases h), fun h => absurd h.2 c2⟩, rfl⟩
  · rw [if_neg c, if_pos trivial]
    exact ⟨false, ⟨(fun h => by cases h), fun h => absurd (h3.2 h.1) c⟩, rfl⟩
theorem impl_inner {n : Int} {t : List S76} (g : Gok n t) (k : Nat) (r : Int) : ∀ (d i K : Nat) (o : List Int), i + d = t.length → K = k + d + 1 → Dok n o →
    impl_Graph_distances.l1 K o n r t t.length i n t = impl_Graph_distances.l0 k ((t.drop i).foldl relax o) n (wrap64 (r + 1)) n t := by
  have hl : t.length ≤ 60 := g.2.1
  intro d
  induction d with
  | zero =>
    intro i K o hi hK ho
    obtain rfl : i = t.length := by omega
    obtain rfl : K = k + 1 := by omega
    simp only [impl_Graph_distances.l1]
    rw [if_neg (by omega), List.drop_length]; rfl
  | succ d ih =>
    intro i K o hi hK ho
    obtain ⟨K, rfl⟩ : ∃ m, K = m + 1 := ⟨K - 1, by omega⟩
    have hil : i < t.length := by omega
    have e1 : (i : Int) + 1 = ((i + 1 : Nat) : Int) := by omega
    have hmem : rd_T76 t i ∈ t := by
      rw [rdE_get, List.getD_eq_getElem?_getD, List.getElem?_eq_getElem hil]; exact List.getElem_mem hil
    obtain ⟨a1, a2, a3, a4, a5⟩ := g.mem hmem
    have hd := ho.relax g hmem
    have hlen := ho.1
    unfold Node at a1 a2
    have b1 := ho.2 _ (rd_mem (o := o) (i := (rd_T76 t i).f0) a1.1 (by omega))
    simp only [impl_Graph_distances.l1]
    rw [if_pos (by omega), if_pos (by omega), if_pos (by omega), if_pos a1.1, if_pos (by omega), w64 (n := (i : Int) + 1) (by omega) (by omega), e1, drop_getD t z76 hil, ← rdE_get, List.foldl_cons]
    by_cases c : rd o (rd_T76 t i).f0 < 1000000
    · have er : Pure.relax o (rd_T76 t i) = o.set (rd_T76 t i).f1.toNat (mn (rd o (rd_T76 t i).f1) (rd o (rd_T76 t i).f0 + (rd_T76 t i).f2)) := by
        unfold Pure.relax; rw [if_pos c]
      rw [if_pos c, if_pos a2.1, if_pos (by omega), w64 (by omega) (by omega), ← er, ih (i + 1) K _ (by omega) (by omega) hd]
    · have er : Pure.relax o (rd_T76 t i) = o := by unfold Pure.relax; rw [if_neg c]
      rw [if_neg c, er, ih (i + 1) K _ (by omega) (by omega) ho]
theorem impl_outer {n : Int} {t : List S76} (g : Gok n t) : ∀ (d k i : Nat) (o : List Int), (i : Int) + d = n → d * (t.length + 2) < k → Dok n o →
    impl_Graph_distances.l0 k o n i n t = some (rounds t d o) := by
  have hn := g.1
  intro d
  induction d with
  | zero =>
    intro k i o hi hk ho
    obtain ⟨k, rfl⟩ : ∃ m, k = m + 1 := ⟨k - 1, by omega⟩
    simp only [impl_Graph_distances.l0]
    rw [if_neg (by omega)]; rfl
  | succ d ih =>
    intro k i o hi hk ho
    rw [Nat.add_mul, Nat.one_mul] at hk
    obtain ⟨k, rfl⟩ : ∃ m, k = (m + t.length + 1) + 1 := ⟨k - t.length - 2, by omega⟩
    have e1 : (i : Int) + 1 = ((i + 1 : Nat) : Int) := by omega
    have z := impl_inner g k i t.length 0 (k + t.length + 1) o (by omega) rfl ho
    have z' : impl_Graph_distances.l1 (k + t.length + 1) o n i t t.length 0 n t = impl_Graph_distances.l0 k (relaxAll t o) n (wrap64 ((i : Int) + 1)) n t := z
    simp only [impl_Graph_distances.l0]
    rw [if_pos (by omega), z', w64 (by omega) (by omega), e1, ih k (i + 1) (relaxAll t o) (by omega) (by omega) (ho.all g t (fun e he => he))]
    rfl
theorem impl_dist {n : Int} {t : List S76} (g : Gok n t) {x : Int} (hx : Node n x) {k : Nat} (hk : t.length * 12 + 60 < k) : impl_Graph_distances.f k n t x = some (dist n t x) := by
  have hn := g.1
  have hl : t.length ≤ 60 := g.2.1
  have hx2 := hx
  unfold Node at hx2
  have hm : n.toNat * (t.length + 2) ≤ 10 * (t.length + 2) := Nat.mul_le_mul_right _ (by omega)
  unfold impl_Graph_distances.f slices_Repeat_int_int.f
  have e1 : ([1000000] : List Int).length = 1 := rfl
  rw [if_pos e1, if_pos (by omega), if_pos (by omega)]
  have e2 : rd ([1000000] : List Int) 0 = 1000000 := rfl
  simp only [Option.bind_some, e2]
  rw [if_pos hx2.1, List.length_replicate, if_pos (by omega)]
  exact impl_outer g n.toNat k 0 _ (by omega) (by omega) (Dok.start (x := x) hn)
theorem spec_Dist' {n : Int} {t : List S76} (g : Gok n t) {x : Int} (hx : Node n x) {k : Nat} (hk : t.length * 12 + 60 < k) : spec_Distances.f k n t x = some (dist n t x) := by
  have hl : t.length ≤ 60 := g.2.1
  obtain ⟨b, h1, h2⟩ := spec_Dist (n := n) (t := t) (by omega) x hk
  rw [h2, if_pos (h1.2 ⟨g, hx⟩)]
theorem Dok.rounds {n : Int} {t : List S76} (g : Gok n t) : ∀ (d : Nat) {o : List Int}, Dok n o → Dok n (Pure.rounds t d o) := by
  intro d
  induction d with
  | zero => intro o h; exact h
  | succ d ih => intro o h; exact ih (h.all g t (fun e he => he))
theorem dist_ok {n : Int} {t : List S76} (g : Gok n t) (x : Int) : Dok n (dist n t x) := Dok.rounds g _ (Dok.start g.1)
/-- The distance between two nodes. -/
def D (n : Int) (t : List S76) (x y : Int) : Int := rd (dist n t x) y
theorem D_lim {n : Int} {t : List S76} (g : Gok n t) (x : Int) {y : Int} (hy : Node n y) : 0 ≤ D n t x y ∧ D n t x y ≤ 1000000 := by
  have h := dist_ok g x
  unfold Node at hy
  have := h.1
  exact h.2 _ (rd_mem hy.1 (by omega))
/-- All distances, row by row. -/
def allD (n : Int) (t : List S76) : List (List Int) := (List.range n.toNat).map fun (i : Nat) => dist n t i
theorem allD_len {n : Int} (h : 1 ≤ n ∧ n ≤ 10) (t : List S76) : ((allD n t).length : Int) = n := by
  simp [allD]; omega
theorem allD_rd {n : Int} (t : List S76) {x : Int} (hx : Node n x) : rd_L2 (allD n t) x = dist n t x := by
  unfold Node at hx
  unfold rd_L2 allD
  have h1 : x.toNat < n.toNat := by omega
  rw [List.getD_eq_getElem?_getD, List.getElem?_map, List.getElem?_range h1]
  simp only [Option.map_some, Option.getD_some]
  have e : ((x.toNat : Nat) : Int) = x := by omega
  rw [e]
theorem impl_all {n : Int} {t : List S76} (g : Gok n t) {k : Nat} (hk : t.length * 12 + 80 < k) : impl_Graph_all.f k n t = some (allD n t) := by
  have hn := g.1
  have key : ∀ (d k i : Nat), (i : Int) + d = n → d + (t.length * 12 + 62) < k → impl_Graph_all.l0 k ((List.range i).map fun (j : Nat) => dist n t j) n i n t = some (allD n t) := by
    intro d
    induction d with
    | zero =>
      intro k i hi hk
      obtain ⟨k, rfl⟩ : ∃ m, k = m + 1 := ⟨k - 1, by omega⟩
      simp only [impl_Graph_all.l0]
      rw [if_neg (by omega)]
      unfold allD
      have e : n.toNat = i := by omega
      rw [e]
    | succ d ih =>
      intro k i hi hk
      obtain ⟨k, rfl⟩ : ∃ m, k = m + 1 := ⟨k - 1, by omega⟩
      have e1 : (i : Int) + 1 = ((i + 1 : Nat) : Int) := by omega
      simp only [impl_Graph_all.l0]
      rw [if_pos (by omega), impl_dist g (⟨by omega, by omega⟩ : Node n i) (by omega)]
      simp only [Option.bind_some]
      rw [if_pos (by simp; omega), w64 (by omega) (by omega), e1, ← ih k (i + 1) (by omega) (by omega), List.range_succ, List.map_append]
      rfl
  have z := key n.toNat k 0 (by omega) (by omega)
  exact z
/-- A walk of edges, and what it costs. -/
inductive Walk (t : List S76) (x : Int) : Int → Int → Prop
  | nil : Walk t x x 0
  | snoc {y c : Int} (e : S76) : Walk t x y c → e ∈ t → e.f0 = y → Walk t x e.f1 (c + e.f2)
theorem Walk.nonneg {n : Int} {t : List S76} (g : Gok n t) {x y c : Int} (h : Walk t x y c) : 0 ≤ c := by
  induction h with
  | nil => exact Int.le_refl _
  | snoc e _ he _ ih => have := (g.mem he).2.2.2; omega
theorem Walk.node {n : Int} {t : List S76} (g : Gok n t) {x y c : Int} (hx : Node n x) (h : Walk t x y c) : Node n y := by
  cases h with
  | nil => exact hx
  | snoc e _ he _ => exact (g.mem he).2.1
theorem Walk.trans {t : List S76} {x y z c d : Int} (h : Walk t x y c) (h2 : Walk t y z d) : Walk t x z (c + d) := by
  induction h2 with
  | nil => rw [Int.add_zero]; exact h
  | snoc e _ he h0 ih => rw [← Int.add_assoc]; exact .snoc e ih he h0
theorem Walk.edge {t : List S76} {e : S76} (he : e ∈ t) : Walk t e.f0 e.f1 e.f2 := by
  have := Walk.snoc (x := e.f0) e .nil he rfl
  rwa [Int.zero_add] at this
theorem Walk.least {n : Int} {t : List S76} (g : Gok n t) {x y : Int} : ∀ (N : Nat) (c : Int), c.toNat ≤ N → Walk t x y c → ∃ c0, Walk t x y c0 ∧ c0 ≤ c ∧ ∀ c', Walk t x y c' → c0 ≤ c' := by
  intro N
  induction N with
  | zero =>
    intro c hc h
    exact ⟨c, h, Int.le_refl _, fun c' h' => by have := h'.nonneg g; have := h.nonneg g; omega⟩
  | succ N ih =>
    intro c hc h
    by_cases q : ∃ c', Walk t x y c' ∧ c' < c
    · obtain ⟨c', h', hlt⟩ := q
      have := h'.nonneg g
      obtain ⟨c0, a, b, d⟩ := ih c' (by omega) h'
      exact ⟨c0, a, by omega, d⟩
    · exact ⟨c, h, Int.le_refl _, fun c' h' => Int.not_lt.1 (fun hlt => q ⟨c', h', hlt⟩)⟩
theorem filter_le' {α : Type} (p q : α → Bool) : ∀ l : List α, (∀ a ∈ l, p a = true → q a = true) → (l.filter p).length ≤ (l.filter q).length
  | [], _ => Nat.le_refl _
  | a :: l, h => by
    have ih := filter_le' p q l (fun b hb => h b (List.mem_cons_of_mem _ hb))
    have ha := h a List.mem_cons_self
    rw [List.filter_cons, List.filter_cons]
    by_cases c : p a = true
    · rw [if_pos c, if_pos (ha c)]
      simp only [List.length_cons]
      omega
    · rw [if_neg c]
      by_cases c2 : q a = true
      · rw [if_pos c2]
        simp only [List.length_cons]
        omega
      · rw [if_neg c2]
        exact ih
theorem filter_lt' {α : Type} (p q : α → Bool) : ∀ l : List α, (∀ a ∈ l, p a = true → q a = true) → (∃ a ∈ l, q a = true ∧ ¬ p a = true) → (l.filter p).length < (l.filter q).length
  | [], _, h => by obtain ⟨a, ha, _⟩ := h; cases ha
  | a :: l, h, h2 => by
    have ha := h a List.mem_cons_self
    have hl : ∀ b ∈ l, p b = true → q b = true := fun b hb => h b (List.mem_cons_of_mem _ hb)
    rw [List.filter_cons, List.filter_cons]
    by_cases c : q a = true ∧ ¬ p a = true
    · have := filter_le' p q l hl
      rw [if_neg c.2, if_pos c.1]
      simp only [List.length_cons]
      omega
    · obtain ⟨b, hb, hq⟩ := h2
      have hb2 : b ∈ l := by
        rcases List.mem_cons.1 hb with rfl | hb
        · exact absurd hq c
        · exact hb
      have ih := filter_lt' p q l hl ⟨b, hb2, hq⟩
      by_cases c2 : p a = true
      · rw [if_pos c2, if_pos (ha c2)]
        simp only [List.length_cons]
        omega
      · rw [if_neg c2, if_neg (fun h => c ⟨h, c2⟩)]
        exact ih
open Classical in
/-- How many nodes can be reached for less than c. -/
noncomputable def rk (n : Int) (t : List S76) (x c : Int) : Nat := ((List.range n.toNat).filter fun (u : Nat) => decide (∃ c', Walk t x (u : Int) c' ∧ c' < c)).length
theorem rk_le {n : Int} (t : List S76) (x c : Int) : rk n t x c ≤ n.toNat := by
  unfold rk
  exact Nat.le_trans (List.length_filter_le _ _) (by rw [List.length_range]; exact Nat.le_refl _)
open Classical in
theorem rk_lt {n : Int} {t : List S76} (x : Int) {y c d : Int} (hy : Node n y) (h : Walk t x y c) (hm : ∀ c', Walk t x y c' → c ≤ c') (hcd : c < d) : rk n t x c < rk n t x d := by
  unfold Node at hy
  unfold rk
  refine filter_lt' _ _ _ (fun u _ hu => ?_) ⟨y.toNat, List.mem_range.2 (by omega), ?_⟩
  · obtain ⟨c', h1, h2⟩ := of_decide_eq_true hu
    exact decide_eq_true ⟨c', h1, by omega⟩
  · have e : ((y.toNat : Nat) : Int) = y := by omega
    rw [e]
    refine ⟨decide_eq_true ⟨c, h, hcd⟩, fun hh => ?_⟩
    obtain ⟨c', h1, h2⟩ := of_decide_eq_true hh
    have := hm c' h1
    omega
theorem rdn_set {o : List Int} {i j : Int} (v : Int) (h0 : 0 ≤ i) (h1 : i < o.length) (hj : 0 ≤ j) : rd (o.set i.toNat v) j = if i = j then v else rd o j := by
  unfold rd
  rw [List.getD_eq_getElem?_getD, List.getD_eq_getElem?_getD, List.getElem?_set]
  by_cases c : i = j
  · subst c
    rw [if_pos rfl, if_pos (by omega), if_pos rfl]
    rfl
  · rw [if_neg (by omega), if_neg c]
theorem relax_le {n : Int} {t : List S76} (g : Gok n t) {e : S76} (he : e ∈ t) {o : List Int} (h : Dok n o) {v : Int} (hv : Node n v) : rd (Pure.relax o e) v ≤ rd o v := by
  obtain ⟨a1, a2, a3, a4, a5⟩ := g.mem he
  unfold Node at a1 a2 hv
  have := h.1
  unfold Pure.relax
  by_cases c : rd o e.f0 < 1000000
  · rw [if_pos c, rdn_set _ a2.1 (by omega) hv.1]
    by_cases q : e.f1 = v
    · rw [if_pos q, q]
      exact (mn_le _ _).1
    · rw [if_neg q]
      exact Int.le_refl _
  · rw [if_neg c]
    exact Int.le_refl _
theorem relax_at {n : Int} {t : List S76} (g : Gok n t) {e : S76} (he : e ∈ t) {o : List Int} (h : Dok n o) (c : rd o e.f0 < 1000000) : rd (Pure.relax o e) e.f1 ≤ rd o e.f0 + e.f2 := by
  obtain ⟨a1, a2, a3, a4, a5⟩ := g.mem he
  unfold Node at a1 a2
  have := h.1
  unfold Pure.relax
  rw [if_pos c, rdn_set _ a2.1 (by omega) a2.1, if_pos rfl]
  exact (mn_le _ _).2
theorem fold_le {n : Int} {t : List S76} (g : Gok n t) {v : Int} (hv : Node n v) : ∀ (s : List S76) (o : List Int), (∀ e ∈ s, e ∈ t) → Dok n o → rd (s.foldl Pure.relax o) v ≤ rd o v := by
  intro s
  induction s with
  | nil => intro o _ _; exact Int.le_refl _
  | cons e s ih =>
    intro o hs h
    have he := hs e List.mem_cons_self
    have a := ih (Pure.relax o e) (fun b hb => hs b (List.mem_cons_of_mem _ hb)) (h.relax g he)
    have b := relax_le g he h hv
    exact Int.le_trans a b
theorem fold_at {n : Int} {t : List S76} (g : Gok n t) {e : S76} : ∀ (s : List S76) (o : List Int), (∀ e ∈ s, e ∈ t) → Dok n o → e ∈ s → rd o e.f0 < 1000000 → rd (s.foldl Pure.relax o) e.f1 ≤ rd o e.f0 + e.f2 := by
  intro s
  induction s with
  | nil => intro o _ _ h; cases h
  | cons a s ih =>
    intro o hs h he c
    have ha := hs a List.mem_cons_self
    have hs' : ∀ b ∈ s, b ∈ t := fun b hb => hs b (List.mem_cons_of_mem _ hb)
    have het := hs e he
    obtain ⟨a1, a2, _⟩ := g.mem het
    rcases List.mem_cons.1 he with rfl | he
    · exact Int.le_trans (fold_le g a2 s _ hs' (h.relax g ha)) (relax_at g ha h c)
    · have q := relax_le g ha h a1
      have := ih (Pure.relax o a) hs' (h.relax g ha) he (by omega)
      show rd (s.foldl Pure.relax (Pure.relax o a)) e.f1 ≤ _
      omega
theorem rounds_succ (t : List S76) : ∀ (d : Nat) (o : List Int), Pure.rounds t (d + 1) o = relaxAll t (Pure.rounds t d o)
  | 0, _ => rfl
  | d + 1, o => rounds_succ t d (relaxAll t o)
/-- What is told of a node is the cost of a walk. -/
def Real (n : Int) (t : List S76) (x : Int) (o : List Int) : Prop := ∀ v, Node n v → rd o v < 1000000 → Walk t x v (rd o v)
theorem Real.relax {n : Int} {t : List S76} (g : Gok n t) {x : Int} {e : S76} (he : e ∈ t) {o : List Int} (h : Dok n o) (r : Real n t x o) : Real n t x (Pure.relax o e) := by
  intro v hv hl
  obtain ⟨a1, a2, a3, a4, a5⟩ := g.mem he
  have b1 := a1
  have b2 := a2
  have bv := hv
  unfold Node at b1 b2 bv
  have := h.1
  unfold Pure.relax at hl ⊢
  by_cases c : rd o e.f0 < 1000000
  · rw [if_pos c, rdn_set _ b2.1 (by omega) bv.1] at hl ⊢
    by_cases q : e.f1 = v
    · rw [if_pos q] at hl ⊢
      subst q
      unfold mn at hl ⊢
      by_cases d : rd o e.f0 + e.f2 < rd o e.f1
      · rw [if_pos d]
        exact .snoc e (r _ a1 c) he rfl
      · rw [if_neg d] at hl ⊢
        exact r _ a2 hl
    · rw [if_neg q] at hl ⊢
      exact r v hv hl
  · rw [if_neg c] at hl ⊢
    exact r v hv hl
theorem Real.fold {n : Int} {t : List S76} (g : Gok n t) {x : Int} : ∀ (s : List S76) (o : List Int), (∀ e ∈ s, e ∈ t) → Dok n o → Real n t x o → Real n t x (s.foldl Pure.relax o) := by
  intro s
  induction s with
  | nil => intro o _ _ r; exact r
  | cons e s ih =>
    intro o hs h r
    have he := hs e List.mem_cons_self
    exact ih _ (fun b hb => hs b (List.mem_cons_of_mem _ hb)) (h.relax g he) (r.relax g he h)
theorem Real.rounds {n : Int} {t : List S76} (g : Gok n t) {x : Int} : ∀ (d : Nat) (o : List Int), Dok n o → Real n t x o → Real n t x (Pure.rounds t d o) := by
  intro d
  induction d with
  | zero => intro o _ r; exact r
  | succ d ih => intro o h r; exact ih _ (h.all g t (fun e he => he)) (Real.fold g t o (fun e he => he) h r)
theorem rd_rep' {m : Nat} {v i : Int} (h0 : 0 ≤ i) (h1 : i < m) : rd (List.replicate m v) i = v := by
  unfold rd
  rw [List.getD_eq_getElem?_getD, List.getElem?_replicate, if_pos (by omega)]
  rfl
theorem start_rd {n x v : Int} (hx : Node n x) (hv : Node n v) : rd ((List.replicate n.toNat 1000000).set x.toNat 0) v = if x = v then 0 else 1000000 := by
  unfold Node at hx hv
  rw [rdn_set _ hx.1 (by rw [List.length_replicate]; omega) hv.1, rd_rep' hv.1 (by omega)]
theorem Real.start {n x : Int} (t : List S76) (hx : Node n x) : Real n t x ((List.replicate n.toNat 1000000).set x.toNat 0) := by
  intro v hv hl
  rw [start_rd hx hv] at hl ⊢
  by_cases c : x = v
  · rw [if_pos c, ← c]
    exact .nil
  · rw [if_neg c] at hl
    exact absurd hl (by omega)
theorem D_walk {n : Int} {t : List S76} (g : Gok n t) {x y : Int} (hx : Node n x) (hy : Node n y) (h : D n t x y < 1000000) : Walk t x y (D n t x y) :=
  Real.rounds g _ _ (Dok.start g.1) (Real.start t hx) y hy h
theorem conv {n : Int} {t : List S76} (g : Gok n t) {x : Int} (hx : Node n x) : ∀ (N : Nat) (v c : Int), c.toNat ≤ N → Walk t x v c → (∀ c', Walk t x v c' → c ≤ c') →
    c ≤ 1000 * (rk n t x c : Int) ∧ ∀ r, rk n t x c ≤ r → rd (Pure.rounds t r ((List.replicate n.toNat 1000000).set x.toNat 0)) v ≤ c := by
  have hn := g.1
  have s0 := Dok.start (x := x) hn
  have base : ∀ r, rd (Pure.rounds t r ((List.replicate n.toNat 1000000).set x.toNat 0)) x ≤ 0 := by
    intro r
    induction r with
    | zero =>
      show rd ((List.replicate n.toNat 1000000).set x.toNat 0) x ≤ 0
      rw [start_rd hx hx, if_pos rfl]
      exact Int.le_refl _
    | succ r ih =>
      rw [rounds_succ]
      exact Int.le_trans (fold_le g hx t _ (fun e he => he) (Dok.rounds g r s0)) ih
  intro N
  induction N with
  | zero =>
    intro v c hN h hm
    cases h with
    | nil => exact ⟨by omega, fun r _ => base r⟩
    | snoc e h1 he h0 =>
      have := h1.nonneg g
      have := (g.mem he).2.2.2
      omega
  | succ N ih =>
    intro v c hN h hm
    cases h with
    | nil => exact ⟨by omega, fun r _ => base r⟩
    | @snoc y c1 e h1 he h0 =>
      subst h0
      obtain ⟨a1, a2, a3, a4, a5⟩ := g.mem he
      have p1 := h1.nonneg g
      have m1 : ∀ c', Walk t x e.f0 c' → c1 ≤ c' := fun c' h' => by
        have := hm _ (.snoc e h' he rfl)
        omega
      obtain ⟨q1, q2⟩ := ih e.f0 c1 (by omega) h1 m1
      have hr := rk_lt (n := n) x (d := c1 + e.f2) a1 h1 m1 (by omega)
      refine ⟨by omega, fun r hrr => ?_⟩
      obtain ⟨r', rfl⟩ : ∃ r', r = r' + 1 := ⟨r - 1, by omega⟩
      have z := q2 r' (by omega)
      have hk := rk_le (n := n) t x c1
      rw [rounds_succ]
      have f := fold_at g (e := e) t _ (fun e he => he) (Dok.rounds g r' s0) he (by omega)
      show rd (t.foldl Pure.relax (Pure.rounds t r' _)) e.f1 ≤ _
      omega
theorem walk_D {n : Int} {t : List S76} (g : Gok n t) {x y c : Int} (hx : Node n x) (h : Walk t x y c) : D n t x y ≤ c := by
  obtain ⟨c0, h1, h2, h3⟩ := h.least g c.toNat c (Nat.le_refl _)
  have := (conv g hx c0.toNat y c0 (Nat.le_refl _) h1 h3).2 n.toNat (rk_le t x c0)
  exact Int.le_trans this h2
theorem D_self {n : Int} {t : List S76} (g : Gok n t) {x : Int} (hx : Node n x) : D n t x x = 0 := by
  have a := walk_D g hx (Walk.nil (t := t))
  have b := D_lim g x hx
  omega
theorem D_tri {n : Int} {t : List S76} (g : Gok n t) {x y z : Int} (hx : Node n x) (hy : Node n y) (hz : Node n z) (h1 : D n t x y < 1000000) (h2 : D n t y z < 1000000) : D n t x z ≤ D n t x y + D n t y z :=
  walk_D g hx ((D_walk g hx hy h1).trans (D_walk g hy hz h2))
theorem D_edge {n : Int} {t : List S76} (g : Gok n t) {e : S76} (he : e ∈ t) : D n t e.f0 e.f1 ≤ e.f2 := walk_D g (g.mem he).1 (Walk.edge he)
/-- Two ascending lists of the same members are one list. -/
theorem asc_eq : ∀ {a b : List Int}, a.Pairwise (· < ·) → b.Pairwise (· < ·) → (∀ z, z ∈ a ↔ z ∈ b) → a = b := by
  intro a
  induction a with
  | nil =>
    intro b _ _ h
    cases b with
    | nil => rfl
    | cons q b => exact absurd ((h q).2 List.mem_cons_self) (by simp)
  | cons p a ih =>
    intro b ha hb h
    cases b with
    | nil => exact absurd ((h p).1 List.mem_cons_self) (by simp)
    | cons q b =>
      have ha' := List.pairwise_cons.1 ha
      have hb' := List.pairwise_cons.1 hb
      have e : p = q := by
        rcases List.mem_cons.1 ((h p).1 List.mem_cons_self) with h1 | h1
        · exact h1
        · rcases List.mem_cons.1 ((h q).2 List.mem_cons_self) with h2 | h2
          · exact h2.symm
          · have := ha'.1 q h2; have := hb'.1 p h1; omega
      subst e
      congr 1
      refine ih ha'.2 hb'.2 (fun z => ⟨fun hz => ?_, fun hz => ?_⟩)
      · rcases List.mem_cons.1 ((h z).1 (List.mem_cons_of_mem _ hz)) with h1 | h1
        · have := ha'.1 z hz; omega
        · exact h1
      · rcases List.mem_cons.1 ((h z).2 (List.mem_cons_of_mem _ hz)) with h1 | h1
        · have := hb'.1 z hz; omega
        · exact h1
theorem Gok.asc {n : Int} {t : List S76} (g : Gok n t) : t.Pairwise EAhead := by
  have key : ∀ (j i : Nat), i < j → j < t.length → EAhead (rd_T76 t i) (rd_T76 t j) := by
    intro j
    induction j with
    | zero => intro i hi _; omega
    | succ j ih =>
      intro i hi hj
      have x := (g.2.2 (j + 1) hj).2.2.2.2 (by omega)
      have e : ((j + 1 : Nat) : Int) - 1 = (j : Int) := by omega
      rw [e] at x
      by_cases c : i = j
      · subst c; exact x
      · have y := ih i (by omega) (by omega)
        unfold EAhead at x y ⊢
        omega
  rw [List.pairwise_iff_getElem]
  intro i j hi hj hij
  have z := key j i hij hj
  rw [rdE_get, rdE_get, List.getD_eq_getElem?_getD, List.getD_eq_getElem?_getD, List.getElem?_eq_getElem hi, List.getElem?_eq_getElem hj] at z
  exact z
theorem ecost_of_mem : ∀ {t : List S76} {e : S76}, t.Pairwise EAhead → e ∈ t → ecost t e.f0 e.f1 = e.f2 := by
  intro t
  induction t with
  | nil => intro e _ h; cases h
  | cons a t ih =>
    intro e hp he
    have hp' := List.pairwise_cons.1 hp
    simp only [ecost]
    rcases List.mem_cons.1 he with h | h
    · subst h; rw [if_pos rfl, if_pos rfl]
    · have x := hp'.1 e h
      have y := ih hp'.2 h
      unfold EAhead at x
      by_cases c1 : a.f0 = e.f0
      · rw [if_pos c1, if_neg (by omega)]; exact y
      · rw [if_neg c1]; exact y
/-- The next nodes, out of the edges. -/
def hopE (n : Int) (t : List S76) (x y : Int) (e : S76) : Bool := decide (e.f0 = x ∧ e.f2 + D n t e.f1 y = D n t x y)
def hopsL (n : Int) (t : List S76) (x y : Int) : List Int := (t.filter (hopE n t x y)).map fun e => e.f1
/-- The next nodes, out of the nodes. -/
def hopN (n : Int) (t : List S76) (x y z : Int) : Bool := decide (z ≠ x ∧ gcost n t x z < 1000000 ∧ gcost n t x z + D n t z y = D n t x y)
def hopsR (n : Int) (t : List S76) (x y : Int) : List Int := ((List.range' 0 n.toNat).map fun (i : Nat) => (i : Int)).filter (hopN n t x y)
theorem hops_eq {n : Int} {t : List S76} (g : Gok n t) {x y : Int} (hx : Node n x) : hopsL n t x y = hopsR n t x y := by
  refine asc_eq ?_ ?_ (fun z => ?_)
  · unfold hopsL
    rw [List.pairwise_map]
    refine (g.asc.filter _).imp_of_mem ?_
    intro a b ha hb hab
    have ha2 := (List.mem_filter.1 ha).2
    have hb2 := (List.mem_filter.1 hb).2
    unfold hopE at ha2 hb2
    rw [decide_eq_true_eq] at ha2 hb2
    unfold EAhead at hab
    omega
  · unfold hopsR
    refine List.Pairwise.filter _ ?_
    rw [List.pairwise_map]
    refine (List.pairwise_lt_range' (s := 0) (n := n.toNat)).imp ?_
    intro a b hab
    omega
  · unfold hopsL hopsR
    simp only [List.mem_map, List.mem_filter, List.mem_range'_1, hopE, hopN, decide_eq_true_eq]
    constructor
    · rintro ⟨e, ⟨hm, h1, h2⟩, rfl⟩
      obtain ⟨a1, a2, a3, a4, a5⟩ := g.mem hm
      have hc : gcost n t x e.f1 = e.f2 := by
        unfold gcost
        rw [if_pos ⟨hx, a2⟩, if_neg (by omega), ← h1]
        exact ecost_of_mem g.asc hm
      unfold Node at a2
      refine ⟨⟨e.f1.toNat, by omega, by omega⟩, by omega, by omega, ?_⟩
      rw [hc]; exact h2
    · rintro ⟨⟨i, hi, rfl⟩, h1, h2, h3⟩
      have hn : Node n (i : Int) := ⟨by omega, by omega⟩
      unfold gcost at h2 h3
      rw [if_pos ⟨hx, hn⟩, if_neg (by omega)] at h2 h3
      obtain ⟨e, m, e1, e2, e3⟩ := ecost_mem (t := t) (x := x) (y := (i : Int)) (by omega)
      refine ⟨e, ⟨m, e1, ?_⟩, e2⟩
      rw [e2, ← e3]; exact h3
theorem spec_hops {n : Int} {t : List S76} (g : Gok n t) {x y : Int} (hx : Node n x) (hy : Node n y) : ∀ (d k i : Nat) (acc : List Int), (i : Int) + d = n → d + (t.length * 12 + 62) < k → acc.length ≤ i →
    spec_HopsTo.l0 k x y acc (D n t x y) i n t = some (acc ++ ((List.range' i d).map fun (j : Nat) => (j : Int)).filter (hopN n t x y)) := by
  have hn := g.1
  have hl : t.length ≤ 60 := g.2.1
  intro d
  induction d with
  | zero =>
    intro k i acc hi hk ha
    obtain ⟨k, rfl⟩ : ∃ m, k = m + 1 := ⟨k - 1, by omega⟩
    simp only [spec_HopsTo.l0]
    rw [if_neg (by omega)]
    simp
  | succ d ih =>
    intro k i acc hi hk ha
    obtain ⟨k, rfl⟩ : ∃ m, k = m + 1 := ⟨k - 1, by omega⟩
    have e1 : (i : Int) + 1 = ((i + 1 : Nat) : Int) := by omega
    have hi' : Node n (i : Int) := ⟨by omega, by omega⟩
    have lz := (dist_ok g (i : Int)).1
    have d2 := D_lim g (i : Int) hy
    have c := hy
    unfold Node at c
    have next : ∀ acc' : List Int, acc'.length ≤ i + 1 → spec_HopsTo.l0 k x y acc' (D n t x y) ((i + 1 : Nat) : Int) n t = _ := fun acc' h => ih k (i + 1) acc' (by omega) (by omega) h
    simp only [spec_HopsTo.l0, List.range'_succ, List.map_cons, List.filter_cons]
    rw [if_pos (by omega), spec_Cost hn (by omega) x i (by omega)]
    simp only [Option.bind_some]
    rw [wr1 (by omega)]
    by_cases h1 : (i : Int) = x
    · have hf : hopN n t x y (i : Int) = false := by unfold hopN; simp [h1]
      rw [if_pos h1, hf, next acc (by omega)]
      rfl
    · rw [if_neg h1]
      by_cases h2 : gcost n t x (i : Int) < 1000000
      · have gl := gcost_lim g x (i : Int)
        rw [if_pos h2, spec_Dist' g hi' (by omega)]
        simp only [Option.bind_some]
        rw [if_pos c.1, if_pos (by omega)]
        unfold D at d2
        rw [w64 (n := gcost n t x (i : Int) + rd (dist n t i) y) (by omega) (by omega)]
        by_cases h3 : gcost n t x (i : Int) + D n t i y = D n t x y
        · have hf : hopN n t x y (i : Int) = true := by unfold hopN; simp [h1, h2, h3]
          have h3' : gcost n t x (i : Int) + rd (dist n t i) y = D n t x y := h3
          rw [if_pos h3', if_pos (by omega), hf, next (acc ++ [(i : Int)]) (by simp; omega)]
          simp
        · have hf : hopN n t x y (i : Int) = false := by unfold hopN; simp [h3]
          have h3' : ¬ gcost n t x (i : Int) + rd (dist n t i) y = D n t x y := h3
          rw [if_neg h3', hf, next acc (by omega)]
          rfl
      · have hf : hopN n t x y (i : Int) = false := by unfold hopN; simp [h2]
        rw [if_neg h2, hf, next acc (by omega)]
        rfl
theorem impl_hops {n : Int} {t : List S76} (g : Gok n t) {x y : Int} (hx : Node n x) (hy : Node n y) : ∀ (d k i : Nat) (acc : List Int), i + d = t.length → d < k → acc.length ≤ i →
    impl_Graph_hopsTo.l0 k x y (allD n t) acc t t.length i = some (acc ++ ((t.drop i).filter (hopE n t x y)).map fun e => e.f1) := by
  have hn := g.1
  have hl : t.length ≤ 60 := g.2.1
  have la := allD_len hn t
  have lx := (dist_ok g x).1
  intro d
  induction d with
  | zero =>
    intro k i acc hi hk ha
    obtain ⟨k, rfl⟩ : ∃ m, k = m + 1 := ⟨k - 1, by omega⟩
    obtain rfl : i = t.length := by omega
    simp only [impl_Graph_hopsTo.l0]
    rw [if_neg (by omega), List.drop_length]
    simp
  | succ d ih =>
    intro k i acc hi hk ha
    obtain ⟨k, rfl⟩ : ∃ m, k = m + 1 := ⟨k - 1, by omega⟩
    have e1 : (i : Int) + 1 = ((i + 1 : Nat) : Int) := by omega
    have hil : i < t.length := by omega
    have hmem : rd_T76 t i ∈ t := by
      rw [rdE_get, List.getD_eq_getElem?_getD, List.getElem?_eq_getElem hil]; exact List.getElem_mem hil
    obtain ⟨a1, a2, a3, a4, a5⟩ := g.mem hmem
    have d2 := D_lim g (rd_T76 t i).f1 hy
    have lz := (dist_ok g (rd_T76 t i).f1).1
    have c := hy
    have b := hx
    have a2' := a2
    unfold Node at c b a2'
    have next : ∀ acc' : List Int, acc'.length ≤ i + 1 → impl_Graph_hopsTo.l0 k x y (allD n t) acc' t t.length ((i + 1 : Nat) : Int) = _ := fun acc' h => ih k (i + 1) acc' (by omega) (by omega) h
    simp only [impl_Graph_hopsTo.l0]
    rw [drop_getD t z76 hil, ← rdE_get, List.filter_cons, if_pos (by omega), if_pos (by omega), if_pos (by omega), wr1 (by omega)]
    by_cases h1 : (rd_T76 t i).f0 = x
    · rw [if_pos h1, if_pos a2'.1, if_pos (by omega), allD_rd t a2, allD_rd t hx, if_pos c.1, if_pos (by omega), if_pos b.1, if_pos (by omega), if_pos (by omega)]
      unfold D at d2
      rw [w64 (n := (rd_T76 t i).f2 + rd (dist n t (rd_T76 t i).f1) y) (by omega) (by omega)]
      by_cases h3 : (rd_T76 t i).f2 + D n t (rd_T76 t i).f1 y = D n t x y
      · have h3' : (rd_T76 t i).f2 + rd (dist n t (rd_T76 t i).f1) y = rd (dist n t x) y := h3
        have hf : hopE n t x y (rd_T76 t i) = true := by unfold hopE; simp [h1, h3]
        rw [if_pos h3', if_pos (by omega), hf, next _ (by simp; omega)]
        simp
      · have h3' : ¬ (rd_T76 t i).f2 + rd (dist n t (rd_T76 t i).f1) y = rd (dist n t x) y := h3
        have hf : hopE n t x y (rd_T76 t i) = false := by unfold hopE; simp [h3]
        rw [if_neg h3', hf, next acc (by omega)]
        rfl
    · have hf : hopE n t x y (rd_T76 t i) = false := by unfold hopE; simp [h1]
      rw [if_neg h1, hf, next acc (by omega)]
      rfl
theorem impl_HopsG {n : Int} {t : List S76} (g : Gok n t) {x y : Int} (hx : Node n x) (hy : Node n y) {k : Nat} (hk : t.length * 12 + 90 < k) :
    impl_Graph_hopsTo.f k n t x y (allD n t) = some (if x = y ∨ D n t x y = 1000000 then [] else hopsR n t x y) := by
  obtain ⟨k, rfl⟩ : ∃ m, k = m + 1 := ⟨k - 1, by omega⟩
  have hn := g.1
  have la := allD_len hn t
  have lx := (dist_ok g x).1
  have a := hx; have b := hy
  unfold Node at a b
  unfold impl_Graph_hopsTo.f
  simp only [Option.bind_some, impl_Graph_hopsTo.j0]
  by_cases c : x = y
  · rw [if_pos c, if_pos trivial, if_pos (.inl c)]
  · rw [if_neg c, if_pos a.1, if_pos (by omega), allD_rd t hx, if_pos b.1, if_pos (by omega)]
    by_cases c2 : D n t x y = 1000000
    · have e : (rd (dist n t x) y == 1000000) = true := by rw [beq_iff_eq]; exact c2
      rw [e, if_pos rfl, if_pos (.inr c2)]
    · have e : (rd (dist n t x) y == 1000000) = false := by rw [beq_eq_false_iff_ne]; exact c2
      have z := impl_hops g hx hy t.length k 0 [] (by omega) (by omega) (by simp)
      have z' : impl_Graph_hopsTo.l0 k x y (allD n t) [] t t.length 0 = some (hopsL n t x y) := z
      rw [e, if_neg (by decide), z', if_neg (by omega), hops_eq g hx]
theorem spec_HopsG {n : Int} {t : List S76} (g : Gok n t) {x y : Int} (hx : Node n x) (hy : Node n y) {k : Nat} (hk : t.length * 12 + 90 < k) :
    spec_HopsTo.f k n t x y = some (if x = y ∨ D n t x y = 1000000 then [] else hopsR n t x y) := by
  obtain ⟨k, rfl⟩ : ∃ m, k = m + 1 := ⟨k - 1, by omega⟩
  have hn := g.1
  have hl : t.length ≤ 60 := g.2.1
  have lx := (dist_ok g x).1
  have b := hy
  unfold Node at b
  obtain ⟨b0, h1, _, h3⟩ := both_Gok n (t := t) (by omega) (k := k + 1) (by omega)
  unfold spec_HopsTo.f
  rw [h1]
  simp only [Option.bind_some, spec_HopsTo.j0]
  rw [if_pos (h3.2 g), spec_Node hn, spec_Node hn, decide_eq_true hx, decide_eq_true hy]
  simp only [Option.bind_some, if_true]
  by_cases c : x = y
  · have e : (x == y) = true := by rw [beq_iff_eq]; exact c
    rw [e, if_pos rfl, if_pos (.inl c)]
  · have e : (x == y) = false := by rw [beq_eq_false_iff_ne]; exact c
    rw [e, if_neg (by decide), spec_Dist' g hx (by omega)]
    simp only [Option.bind_some]
    rw [if_pos b.1, if_pos (by omega)]
    by_cases c2 : D n t x y = 1000000
    · have c2' : rd (dist n t x) y = 1000000 := c2
      rw [if_pos c2', if_pos (.inr c2)]
    · have c2' : ¬ rd (dist n t x) y = 1000000 := c2
      have z := spec_hops g hx hy n.toNat k 0 [] (by omega) (by omega) (by simp)
      have z' : spec_HopsTo.l0 k x y [] (rd (dist n t x) y) 0 n t = some (hopsR n t x y) := z
      rw [if_neg c2', z', if_neg (by omega)]
theorem both_HopsTo (n : Int) {t : List S76} (h : t.length ≤ 1048576) (x y : Int) : ∃ r : List Int, r.length ≤ 1048576 ∧ ∀ k, t.length * 12 + 95 < k → spec_HopsTo.f k n t x y = some r ∧ impl_HopsTo.f k n t x y = some r := by
  by_cases c : Gok n t ∧ Node n x ∧ Node n y
  · obtain ⟨g, hx, hy⟩ := c
    have hn := g.1
    refine ⟨_, ?_, fun k hk => ⟨spec_HopsG g hx hy (by omega), ?_⟩⟩
    · by_cases c2 : x = y ∨ D n t x y = 1000000
      · rw [if_pos c2]; exact Nat.zero_le _
      · rw [if_neg c2]
        unfold hopsR
        have := List.length_filter_le (hopN n t x y) ((List.range' 0 n.toNat).map fun (i : Nat) => (i : Int))
        rw [List.length_map, List.length_range'] at this
        omega
    · obtain ⟨k, rfl⟩ : ∃ m, k = m + 1 := ⟨k - 1, by omega⟩
      obtain ⟨b0, _, h2, h3⟩ := both_Gok n (t := t) h (k := k + 1) (by omega)
      unfold impl_HopsTo.f
      rw [h2]
      simp only [Option.bind_some, impl_HopsTo.j0]
      rw [if_pos (h3.2 g), impl_Node hn, impl_Node hn, decide_eq_true hx, decide_eq_true hy]
      simp only [Option.bind_some, if_true]
      rw [if_neg (by decide), impl_all g (by omega)]
      simp only [Option.bind_some]
      rw [impl_HopsG g hx hy (by omega)]
      rfl
  · refine ⟨[], Nat.zero_le _, fun k hk => ?_⟩
    obtain ⟨k, rfl⟩ : ∃ m, k = m + 1 := ⟨k - 1, by omega⟩
    obtain ⟨b0, h1, h2, h3⟩ := both_Gok n (t := t) h (k := k + 1) (by omega)
    unfold impl_HopsTo.f spec_HopsTo.f
    rw [h1, h2]
    simp only [Option.bind_some, impl_HopsTo.j0, spec_HopsTo.j0]
    by_cases c0 : b0 = true
    · have g := h3.1 c0
      have hn := g.1
      rw [if_pos c0, if_pos c0, impl_Node hn, impl_Node hn, spec_Node hn, spec_Node hn]
      simp only [Option.bind_some]
      by_cases hx : Node n x
      · have hy : ¬ Node n y := fun hy => c ⟨g, hx, hy⟩
        rw [decide_eq_true hx, decide_eq_false hy]
        simp
      · rw [decide_eq_false hx]
        simp
    · rw [if_neg c0, if_neg c0]
      simp
/-- A sum over a list. -/
def sm {α : Type} (f : α → Int) : List α → Int
  | [] => 0
  | a :: l => f a + sm f l
theorem sm_fold {α : Type} (f : α → Int) : ∀ (l : List α) (a0 : Int), l.foldl (fun a z => a + f z) a0 = a0 + sm f l
  | [], a0 => by simp [sm]
  | a :: l, a0 => by simp only [List.foldl_cons, sm]; rw [sm_fold f l, Int.add_assoc]
theorem sm_congr {α : Type} {f h : α → Int} : ∀ (l : List α), (∀ a ∈ l, f a = h a) → sm f l = sm h l
  | [], _ => rfl
  | a :: l, e => by
    simp only [sm]
    rw [e a List.mem_cons_self, sm_congr l (fun b hb => e b (List.mem_cons_of_mem _ hb))]
theorem sm_append {α : Type} (f : α → Int) : ∀ (l m : List α), sm f (l ++ m) = sm f l + sm f m
  | [], m => by simp [sm]
  | a :: l, m => by simp only [List.cons_append, sm]; rw [sm_append f l m, Int.add_assoc]
theorem sm_le {α : Type} {f : α → Int} {c : Int} : ∀ (l : List α), (∀ a ∈ l, f a ≤ c) → sm f l ≤ c * l.length
  | [], _ => by simp [sm]
  | a :: l, e => by
    simp only [sm, List.length_cons]
    have h1 := e a List.mem_cons_self
    have h2 := sm_le l (fun b hb => e b (List.mem_cons_of_mem _ hb))
    have h3 : c * ((l.length + 1 : Nat) : Int) = c * (l.length : Int) + c := by
      rw [Int.natCast_add, Int.mul_add]; simp
    rw [h3]
    omega
theorem sm_nonneg {α : Type} {f : α → Int} : ∀ (l : List α), (∀ a ∈ l, 0 ≤ f a) → 0 ≤ sm f l
  | [], _ => Int.le_refl _
  | a :: l, e => by
    simp only [sm]
    have h1 := e a List.mem_cons_self
    have h2 := sm_nonneg l (fun b hb => e b (List.mem_cons_of_mem _ hb))
    omega
theorem sm_pos {α : Type} {f : α → Int} : ∀ (l : List α), (∀ a ∈ l, 0 ≤ f a) → (∃ a ∈ l, 0 < f a) → 0 < sm f l
  | [], _, h => by obtain ⟨a, ha, _⟩ := h; cases ha
  | a :: l, e, h => by
    simp only [sm]
    have h1 := e a List.mem_cons_self
    have hl : ∀ b ∈ l, 0 ≤ f b := fun b hb => e b (List.mem_cons_of_mem _ hb)
    have h2 := sm_nonneg l hl
    obtain ⟨b, hb, hp⟩ := h
    rcases List.mem_cons.1 hb with rfl | hb
    · omega
    · have := sm_pos l hl ⟨b, hb, hp⟩
      omega
theorem mem_hops {n : Int} {t : List S76} {x y z : Int} : z ∈ hopsL n t x y ↔ ∃ e ∈ t, e.f0 = x ∧ e.f1 = z ∧ e.f2 + D n t z y = D n t x y := by
  unfold hopsL hopE
  simp only [List.mem_map, List.mem_filter, decide_eq_true_eq]
  constructor
  · rintro ⟨e, ⟨h1, h2, h3⟩, rfl⟩
    exact ⟨e, h1, h2, rfl, h3⟩
  · rintro ⟨e, h1, h2, rfl, h3⟩
    exact ⟨e, ⟨h1, h2, h3⟩, rfl⟩
theorem hop_lt {n : Int} {t : List S76} (g : Gok n t) {x y z : Int} (h : z ∈ hopsL n t x y) : Node n z ∧ D n t z y < D n t x y ∧ z ≠ x := by
  obtain ⟨e, h1, h2, h3, h4⟩ := mem_hops.1 h
  obtain ⟨a1, a2, a3, a4, a5⟩ := g.mem h1
  rw [h3] at a2
  exact ⟨a2, by omega, by omega⟩
/-- From a node that is not the target, and from which it can be reached, there is a hop. -/
theorem hop_ex {n : Int} {t : List S76} (g : Gok n t) {x y : Int} (hx : Node n x) (hy : Node n y) (hxy : x ≠ y) (h : D n t x y < 1000000) : ∃ z, z ∈ hopsL n t x y := by
  have first : ∀ {v c : Int}, Walk t x v c → v = x ∧ c = 0 ∨ ∃ e ∈ t, e.f0 = x ∧ ∃ d, Walk t e.f1 v d ∧ c = e.f2 + d := by
    intro v c w
    induction w with
    | nil => exact .inl ⟨rfl, rfl⟩
    | snoc e w he h0 ih =>
      rcases ih with ⟨rfl, rfl⟩ | ⟨e', he', h1, d, w', rfl⟩
      · exact .inr ⟨e, he, h0, 0, .nil, by omega⟩
      · exact .inr ⟨e', he', h1, d + e.f2, .snoc e w' he h0, by omega⟩
  rcases first (D_walk g hx hy h) with ⟨h1, _⟩ | ⟨e, he, h1, d, w, hd⟩
  · exact absurd h1.symm hxy
  · obtain ⟨a1, a2, a3, a4, a5⟩ := g.mem he
    have b1 := walk_D g a2 w
    have dl : D n t e.f1 y < 1000000 := by omega
    have b2 := walk_D g hx ((h1 ▸ Walk.edge he).trans (D_walk g a2 hy dl))
    exact ⟨e.f1, mem_hops.2 ⟨e, he, h1, rfl, by omega⟩⟩
/-- How many shortest ways there are, and the least number of nodes of one; m bounds the depth. -/
def waysF (n : Int) (t : List S76) (y : Int) : Nat → Int → Int
  | 0, _ => 0
  | m + 1, x => if x = y then 1 else sm (waysF n t y m) (hopsL n t x y)
def minz (s v : Int) : Int := if s = 0 then v else if v < s then v else s
def stepsF (n : Int) (t : List S76) (y : Int) : Nat → Int → Int
  | 0, _ => 0
  | m + 1, x => if x = y then 1 else (hopsL n t x y).foldl (fun s z => minz s (stepsF n t y m z + 1)) 0
theorem fold_congr' {α β : Type} {f h : β → α → β} : ∀ (l : List α) (b : β), (∀ a ∈ l, ∀ b, f b a = h b a) → l.foldl f b = l.foldl h b
  | [], _, _ => rfl
  | a :: l, b, e => by
    simp only [List.foldl_cons]
    rw [e a List.mem_cons_self, fold_congr' l _ (fun c hc => e c (List.mem_cons_of_mem _ hc))]
theorem waysF_stable {n : Int} {t : List S76} (g : Gok n t) {y : Int} (hy : Node n y) : ∀ (m m' : Nat) (x : Int), Node n x → (D n t x y).toNat < m → (D n t x y).toNat < m' → waysF n t y m x = waysF n t y m' x ∧ stepsF n t y m x = stepsF n t y m' x := by
  intro m
  induction m with
  | zero => intro m' x _ h _; omega
  | succ m ih =>
    intro m' x hx h h'
    obtain ⟨m', rfl⟩ : ∃ q, m' = q + 1 := ⟨m' - 1, by omega⟩
    have key : ∀ z ∈ hopsL n t x y, waysF n t y m z = waysF n t y m' z ∧ stepsF n t y m z = stepsF n t y m' z := fun z hz => by
      obtain ⟨a, b, _⟩ := hop_lt g hz
      have c := D_lim g z hy
      exact ih m' z a (by omega) (by omega)
    simp only [waysF, stepsF]
    by_cases c : x = y
    · rw [if_pos c, if_pos c, if_pos c, if_pos c]
      exact ⟨rfl, rfl⟩
    · rw [if_neg c, if_neg c, if_neg c, if_neg c]
      exact ⟨sm_congr _ (fun z hz => (key z hz).1), fold_congr' _ _ (fun z hz s => by rw [(key z hz).2])⟩
def ways (n : Int) (t : List S76) (y x : Int) : Int := waysF n t y ((D n t x y).toNat + 1) x
def steps (n : Int) (t : List S76) (y x : Int) : Int := stepsF n t y ((D n t x y).toNat + 1) x
theorem ways_at (n : Int) (t : List S76) (y : Int) : ways n t y y = 1 ∧ steps n t y y = 1 := by
  unfold ways steps
  simp [waysF, stepsF]
theorem ways_eq {n : Int} {t : List S76} (g : Gok n t) {x y : Int} (hy : Node n y) (hxy : x ≠ y) : ways n t y x = sm (ways n t y) (hopsL n t x y) ∧ steps n t y x = (hopsL n t x y).foldl (fun s z => minz s (steps n t y z + 1)) 0 := by
  have key : ∀ z ∈ hopsL n t x y, waysF n t y (D n t x y).toNat z = ways n t y z ∧ stepsF n t y (D n t x y).toNat z = steps n t y z := fun z hz => by
    obtain ⟨a, b, _⟩ := hop_lt g hz
    have c := D_lim g z hy
    exact waysF_stable g hy _ _ z a (by omega) (by omega)
  constructor
  · show waysF n t y ((D n t x y).toNat + 1) x = _
    simp only [waysF]
    rw [if_neg hxy]
    exact sm_congr _ (fun z hz => (key z hz).1)
  · show stepsF n t y ((D n t x y).toNat + 1) x = _
    simp only [stepsF]
    rw [if_neg hxy]
    exact fold_congr' _ _ (fun z hz s => by rw [(key z hz).2])
theorem minz_min {f : Int → Int} : ∀ (l : List Int) (s : Int), (∀ z ∈ l, 1 ≤ f z) → 0 ≤ s → (s = 0 → ∃ z, z ∈ l) →
    (1 ≤ l.foldl (fun s z => minz s (f z)) s) ∧ (∀ z ∈ l, l.foldl (fun s z => minz s (f z)) s ≤ f z) ∧ (s ≠ 0 → l.foldl (fun s z => minz s (f z)) s ≤ s) ∧ ((∃ z ∈ l, l.foldl (fun s z => minz s (f z)) s = f z) ∨ (s ≠ 0 ∧ l.foldl (fun s z => minz s (f z)) s = s))
  | [], s, _, h0, hs => by
    have hne : s ≠ 0 := fun e => by obtain ⟨z, hz⟩ := hs e; cases hz
    have h1 : 1 ≤ s := by omega
    exact And.intro h1 (And.intro (fun z hz => absurd hz (by simp)) (And.intro (fun _ => Int.le_refl _) (Or.inr (And.intro hne rfl))))
  | a :: l, s, h, h0, _ => by
    have ha := h a List.mem_cons_self
    have hl : ∀ z ∈ l, 1 ≤ f z := fun b hb => h b (List.mem_cons_of_mem _ hb)
    have hm : minz s (f a) ≠ 0 ∧ 0 ≤ minz s (f a) ∧ minz s (f a) ≤ f a ∧ (s ≠ 0 → minz s (f a) ≤ s) ∧ (minz s (f a) = f a ∨ s ≠ 0 ∧ minz s (f a) = s) := by
      unfold minz
      by_cases c : s = 0
      · rw [if_pos c]; exact ⟨by omega, by omega, Int.le_refl _, fun e => absurd c e, .inl rfl⟩
      · rw [if_neg c]
        by_cases c2 : f a < s
        · rw [if_pos c2]; exact ⟨by omega, by omega, Int.le_refl _, fun _ => by omega, .inl rfl⟩
        · rw [if_neg c2]; exact ⟨c, h0, by omega, fun _ => Int.le_refl _, .inr ⟨c, rfl⟩⟩
    obtain ⟨m1, m2, m3, m4, m5⟩ := hm
    obtain ⟨q1, q2, q3, q4⟩ := minz_min l (minz s (f a)) hl m2 (fun e => absurd e m1)
    simp only [List.foldl_cons]
    refine ⟨q1, fun z hz => ?_, fun e => Int.le_trans (q3 m1) (m4 e), ?_⟩
    · rcases List.mem_cons.1 hz with rfl | hz
      · exact Int.le_trans (q3 m1) m3
      · exact q2 z hz
    · rcases q4 with ⟨z, hz, e⟩ | ⟨_, e⟩
      · exact .inl ⟨z, List.mem_cons_of_mem _ hz, e⟩
      · rcases m5 with m5 | ⟨m6, m5⟩
        · exact .inl ⟨a, List.mem_cons_self, by rw [e, m5]⟩
        · exact .inr ⟨m6, by rw [e, m5]⟩
/-- Steps, where the target can be reached: one at the target, else one more than the least of the hops. -/
theorem steps_pos {n : Int} {t : List S76} (g : Gok n t) {y : Int} (hy : Node n y) : ∀ (N : Nat) (x : Int), (D n t x y).toNat ≤ N → Node n x → D n t x y < 1000000 → 1 ≤ steps n t y x ∧ 1 ≤ ways n t y x := by
  intro N
  induction N with
  | zero =>
    intro x hN hx hf
    by_cases c : x = y
    · rw [c, (ways_at n t y).1, (ways_at n t y).2]
      exact ⟨Int.le_refl _, Int.le_refl _⟩
    · obtain ⟨z, hz⟩ := hop_ex g hx hy c hf
      have := (hop_lt g hz).2.1
      have := D_lim g z hy
      omega
  | succ N ih =>
    intro x hN hx hf
    by_cases c : x = y
    · rw [c, (ways_at n t y).1, (ways_at n t y).2]
      exact ⟨Int.le_refl _, Int.le_refl _⟩
    · obtain ⟨z, hz⟩ := hop_ex g hx hy c hf
      have key : ∀ z ∈ hopsL n t x y, 1 ≤ steps n t y z ∧ 1 ≤ ways n t y z := fun z hz => by
        obtain ⟨p1, p2, _⟩ := hop_lt g hz
        have := D_lim g z hy
        exact ih z (by omega) p1 (by omega)
      obtain ⟨e1, e2⟩ := ways_eq g (x := x) hy c
      rw [e1, e2]
      refine ⟨(minz_min (f := fun z => steps n t y z + 1) _ 0 (fun z hz => by have := (key z hz).1; omega) (Int.le_refl _) (fun _ => ⟨z, hz⟩)).1, ?_⟩
      have := sm_pos (f := ways n t y) (hopsL n t x y) (fun z hz => by have := (key z hz).2; omega) ⟨z, hz, by have := (key z hz).2; omega⟩
      omega
theorem steps_min {n : Int} {t : List S76} (g : Gok n t) {x y : Int} (hx : Node n x) (hy : Node n y) (hxy : x ≠ y) (hf : D n t x y < 1000000) :
    (∀ z ∈ hopsL n t x y, steps n t y x ≤ steps n t y z + 1) ∧ ∃ z ∈ hopsL n t x y, steps n t y x = steps n t y z + 1 := by
  obtain ⟨z, hz⟩ := hop_ex g hx hy hxy hf
  have key : ∀ z ∈ hopsL n t x y, 1 ≤ steps n t y z := fun z hz => by
    obtain ⟨p1, p2, _⟩ := hop_lt g hz
    exact (steps_pos g hy _ z (Nat.le_refl _) p1 (by omega)).1
  rw [(ways_eq g (x := x) hy hxy).2]
  obtain ⟨_, q2, _, q4⟩ := minz_min (f := fun z => steps n t y z + 1) (hopsL n t x y) 0 (fun z hz => by have := key z hz; omega) (Int.le_refl _) (fun _ => ⟨z, hz⟩)
  refine ⟨q2, ?_⟩
  rcases q4 with q4 | ⟨q4, _⟩
  · exact q4
  · exact absurd rfl q4
/-- One edge of the program's steps. -/
def rlx (n : Int) (t : List S76) (y : Int) (o : List Int) (e : S76) : List Int := if D n t e.f0 y < 1000000 ∧ e.f2 + D n t e.f1 y = D n t e.f0 y then o.set e.f0.toNat (mn (rd o e.f0) (rd o e.f1 + 1)) else o
/-- Lower bound, and what is kept. -/
def Low (n : Int) (t : List S76) (y : Int) (o : List Int) : Prop := Dok n o ∧ ∀ v, Node n v → (D n t v y < 1000000 → steps n t y v - 1 ≤ rd o v) ∧ (¬ D n t v y < 1000000 → rd o v = 1000000)
theorem tight {n : Int} {t : List S76} (g : Gok n t) {y : Int} {e : S76} (he : e ∈ t) (h : D n t e.f0 y < 1000000 ∧ e.f2 + D n t e.f1 y = D n t e.f0 y) (hy : Node n y) : e.f1 ∈ hopsL n t e.f0 y ∧ e.f0 ≠ y := by
  refine ⟨mem_hops.2 ⟨e, he, rfl, rfl, h.2⟩, fun c => ?_⟩
  obtain ⟨a1, a2, a3, a4, a5⟩ := g.mem he
  have := D_lim g e.f1 hy
  rw [c, D_self g hy] at h
  omega
theorem Low.rlx {n : Int} {t : List S76} (g : Gok n t) {y : Int} (hy : Node n y) {e : S76} (he : e ∈ t) {o : List Int} (h : Low n t y o) : Low n t y (Pure.rlx n t y o e) := by
  obtain ⟨a1, a2, a3, a4, a5⟩ := g.mem he
  obtain ⟨h1, h2⟩ := h
  have b1 := a1
  have b2 := a2
  unfold Node at b1 b2
  have hl := h1.1
  unfold Pure.rlx
  by_cases c : D n t e.f0 y < 1000000 ∧ e.f2 + D n t e.f1 y = D n t e.f0 y
  · rw [if_pos c]
    obtain ⟨p1, p2⟩ := tight g he c hy
    have s := (steps_min g a1 hy p2 c.1).1 _ p1
    have c0 := h2 e.f0 a1
    have c1 := h2 e.f1 a2
    have dl := D_lim g e.f1 hy
    have r0 := h1.2 _ (rd_mem (o := o) (i := e.f0) b1.1 (by omega))
    have r1 := h1.2 _ (rd_mem (o := o) (i := e.f1) b2.1 (by omega))
    have f1 : D n t e.f1 y < 1000000 := by omega
    have ml := mn_le (rd o e.f0) (rd o e.f1 + 1)
    have mg : steps n t y e.f0 - 1 ≤ mn (rd o e.f0) (rd o e.f1 + 1) ∧ 0 ≤ mn (rd o e.f0) (rd o e.f1 + 1) := by
      have := c0.1 c.1
      have := c1.1 f1
      unfold mn
      split <;> omega
    refine ⟨⟨by rw [List.length_set]; exact hl, fun v hv => ?_⟩, fun v hv => ?_⟩
    · rcases List.mem_or_eq_of_mem_set hv with hv | rfl
      · exact h1.2 v hv
      · omega
    · have hv2 := hv
      unfold Node at hv2
      rw [rdn_set _ b1.1 (by omega) hv2.1]
      by_cases q : e.f0 = v
      · rw [if_pos q, ← q]
        exact ⟨fun _ => mg.1, fun hh => absurd c.1 hh⟩
      · rw [if_neg q]
        exact h2 v hv
  · rw [if_neg c]
    exact ⟨h1, h2⟩
theorem rlx_le {n : Int} {t : List S76} (g : Gok n t) {y : Int} {e : S76} (he : e ∈ t) {o : List Int} (h : Dok n o) {v : Int} (hv : Node n v) : rd (Pure.rlx n t y o e) v ≤ rd o v := by
  obtain ⟨a1, a2, a3, a4, a5⟩ := g.mem he
  unfold Node at a1 a2 hv
  have := h.1
  unfold Pure.rlx
  by_cases c : D n t e.f0 y < 1000000 ∧ e.f2 + D n t e.f1 y = D n t e.f0 y
  · rw [if_pos c, rdn_set _ a1.1 (by omega) hv.1]
    by_cases q : e.f0 = v
    · rw [if_pos q, ← q]
      exact (mn_le _ _).1
    · rw [if_neg q]
      exact Int.le_refl _
  · rw [if_neg c]
    exact Int.le_refl _
theorem rlx_at {n : Int} {t : List S76} (g : Gok n t) {y : Int} {e : S76} (he : e ∈ t) {o : List Int} (h : Dok n o) (c : D n t e.f0 y < 1000000 ∧ e.f2 + D n t e.f1 y = D n t e.f0 y) : rd (Pure.rlx n t y o e) e.f0 ≤ rd o e.f1 + 1 := by
  obtain ⟨a1, a2, a3, a4, a5⟩ := g.mem he
  unfold Node at a1 a2
  have := h.1
  unfold Pure.rlx
  rw [if_pos c, rdn_set _ a1.1 (by omega) a1.1, if_pos rfl]
  exact (mn_le _ _).2
theorem Low.fold {n : Int} {t : List S76} (g : Gok n t) {y : Int} (hy : Node n y) : ∀ (s : List S76) (o : List Int), (∀ e ∈ s, e ∈ t) → Low n t y o → Low n t y (s.foldl (Pure.rlx n t y) o) := by
  intro s
  induction s with
  | nil => intro o _ h; exact h
  | cons e s ih => intro o hs h; exact ih _ (fun b hb => hs b (List.mem_cons_of_mem _ hb)) (h.rlx g hy (hs e List.mem_cons_self))
theorem rfold_le {n : Int} {t : List S76} (g : Gok n t) {y v : Int} (hy : Node n y) (hv : Node n v) : ∀ (s : List S76) (o : List Int), (∀ e ∈ s, e ∈ t) → Low n t y o → rd (s.foldl (Pure.rlx n t y) o) v ≤ rd o v := by
  intro s
  induction s with
  | nil => intro o _ _; exact Int.le_refl _
  | cons e s ih =>
    intro o hs h
    have he := hs e List.mem_cons_self
    have a := ih (Pure.rlx n t y o e) (fun b hb => hs b (List.mem_cons_of_mem _ hb)) (h.rlx g hy he)
    have b := rlx_le (y := y) g he h.1 hv
    exact Int.le_trans a b
theorem rfold_at {n : Int} {t : List S76} (g : Gok n t) {y : Int} (hy : Node n y) {e : S76} (c : D n t e.f0 y < 1000000 ∧ e.f2 + D n t e.f1 y = D n t e.f0 y) : ∀ (s : List S76) (o : List Int), (∀ e ∈ s, e ∈ t) → Low n t y o → e ∈ s → rd (s.foldl (Pure.rlx n t y) o) e.f0 ≤ rd o e.f1 + 1 := by
  intro s
  induction s with
  | nil => intro o _ _ h; cases h
  | cons b s ih =>
    intro o hs h he
    have hb := hs b List.mem_cons_self
    have hs2 : ∀ e ∈ s, e ∈ t := fun a ha => hs a (List.mem_cons_of_mem _ ha)
    obtain ⟨a1, a2, _⟩ := g.mem (hs e he)
    rcases List.mem_cons.1 he with rfl | he
    · exact Int.le_trans (rfold_le g hy a1 s _ hs2 (h.rlx g hy hb)) (rlx_at g hb h.1 c)
    · have a := ih (Pure.rlx n t y o b) hs2 (h.rlx g hy hb) he
      have b := rlx_le (y := y) g hb h.1 a2
      exact Int.le_trans a (by simpa using b)
def rrounds (n : Int) (t : List S76) (y : Int) : Nat → List Int → List Int
  | 0, o => o
  | d + 1, o => rrounds n t y d (t.foldl (Pure.rlx n t y) o)
theorem rrounds_succ (n : Int) (t : List S76) (y : Int) : ∀ (d : Nat) (o : List Int), rrounds n t y (d + 1) o = t.foldl (Pure.rlx n t y) (rrounds n t y d o)
  | 0, _ => rfl
  | d + 1, o => rrounds_succ n t y d (t.foldl (Pure.rlx n t y) o)
/-- How many nodes lie nearer to y than c. -/
def rky (n : Int) (t : List S76) (y c : Int) : Nat := ((List.range n.toNat).filter fun (u : Nat) => decide (D n t (u : Int) y < c)).length
theorem rky_lt {n : Int} {t : List S76} {y z c : Int} (hz : Node n z) (h : D n t z y < c) : rky n t y (D n t z y) < rky n t y c := by
  unfold Node at hz
  unfold rky
  have e : ((z.toNat : Nat) : Int) = z := by omega
  refine filter_lt' _ _ _ (fun u _ hu => ?_) ⟨z.toNat, List.mem_range.2 (by omega), ?_⟩
  · exact decide_eq_true (by have := of_decide_eq_true hu; omega)
  · rw [e]
    exact ⟨decide_eq_true h, fun hh => by have := of_decide_eq_true hh; omega⟩
theorem rky_le {n : Int} (t : List S76) (y c : Int) : rky n t y c ≤ n.toNat := by
  unfold rky
  exact Nat.le_trans (List.length_filter_le _ _) (by rw [List.length_range]; exact Nat.le_refl _)
theorem Low.rounds {n : Int} {t : List S76} (g : Gok n t) {y : Int} (hy : Node n y) : ∀ (d : Nat) {o : List Int}, Low n t y o → Low n t y (rrounds n t y d o)
  | 0, _, h => h
  | d + 1, _, h => Low.rounds g hy d (h.fold g hy t _ (fun _ h => h))
theorem up {n : Int} {t : List S76} (g : Gok n t) {y : Int} (hy : Node n y) {o : List Int} (h : Low n t y o) (h0 : rd o y ≤ 0) : ∀ (d : Nat) (v : Int), Node n v → D n t v y < 1000000 → v = y ∨ rky n t y (D n t v y) ≤ d → rd (rrounds n t y d o) v ≤ steps n t y v - 1 := by
  intro d
  induction d with
  | zero =>
    intro v hv hf hk
    by_cases c : v = y
    · rw [c, (ways_at n t y).2]
      exact h0
    · obtain ⟨z, hz⟩ := hop_ex g hv hy c hf
      have p := hop_lt g hz
      have := rky_lt p.1 p.2.1
      rcases hk with hk | hk
      · exact absurd hk c
      · omega
  | succ d ih =>
    intro v hv hf hk
    have hl := Low.rounds g hy d h
    rw [rrounds_succ]
    by_cases c : v = y
    · have a := ih v hv hf (.inl c)
      exact Int.le_trans (rfold_le g hy hv t _ (fun _ h => h) hl) a
    · obtain ⟨z, hz, hs⟩ := (steps_min g hv hy c hf).2
      have p := hop_lt g hz
      have r := rky_lt p.1 p.2.1
      have a := ih z p.1 (by omega) (.inr (by rcases hk with hk | hk; exact absurd hk c; omega))
      obtain ⟨e, he, e0, e1, e2⟩ := mem_hops.1 hz
      subst e0
      subst e1
      have b := rfold_at g hy ⟨hf, e2⟩ t _ (fun _ h => h) hl he
      omega
theorem Low.start {n : Int} {t : List S76} (g : Gok n t) {y : Int} (hy : Node n y) (hb : ∀ v, Node n v → D n t v y < 1000000 → steps n t y v ≤ 1000001) : Low n t y ((List.replicate n.toNat 1000000).set y.toNat 0) := by
  refine ⟨Dok.start g.1, fun v hv => ?_⟩
  rw [start_rd hy hv]
  by_cases c : y = v
  · rw [if_pos c, ← c, (ways_at n t y).2]
    exact ⟨fun _ => by omega, fun hh => absurd (by rw [D_self g hy]; omega) hh⟩
  · rw [if_neg c]
    exact ⟨fun hf => by have := hb v hv hf; omega, fun _ => rfl⟩
theorem steps_le {n : Int} {t : List S76} (g : Gok n t) {y : Int} (hy : Node n y) : ∀ (N : Nat) (x : Int), (D n t x y).toNat ≤ N → Node n x → D n t x y < 1000000 → steps n t y x ≤ D n t x y + 1 := by
  intro N
  induction N with
  | zero =>
    intro x hN hx hf
    have l := D_lim g x hy
    by_cases c : x = y
    · rw [c, (ways_at n t y).2]
      rw [c] at l
      omega
    · obtain ⟨z, hz⟩ := hop_ex g hx hy c hf
      have := (hop_lt g hz).2.1
      have := D_lim g z hy
      omega
  | succ N ih =>
    intro x hN hx hf
    have l := D_lim g x hy
    by_cases c : x = y
    · rw [c, (ways_at n t y).2]
      rw [c] at l
      omega
    · obtain ⟨z, hz, e⟩ := (steps_min g hx hy c hf).2
      obtain ⟨p1, p2, _⟩ := hop_lt g hz
      have := D_lim g z hy
      have := ih z (by omega) p1 (by omega)
      omega
theorem allD_at {n : Int} {t : List S76} (g : Gok n t) {x : Int} (hx : Node n x) (y : Int) : rd (rd_L2 (allD n t) x) y = D n t x y ∧ ((rd_L2 (allD n t) x).length : Int) = n := by
  rw [allD_rd t hx]
  exact ⟨rfl, (dist_ok g x).1⟩
theorem steps_inner {n : Int} {t : List S76} (g : Gok n t) {y : Int} (hy : Node n y) (k : Nat) (r : Int) : ∀ (d i K : Nat) (o : List Int), i + d = t.length → K = k + d + 1 → Dok n o →
    (∀ s : List S76, (∀ e ∈ s, e ∈ t) → Dok n (s.foldl (Pure.rlx n t y) o)) →
    impl_Graph_steps.l1 K y (allD n t) o n r t t.length i n t = impl_Graph_steps.l0 k y (allD n t) ((t.drop i).foldl (Pure.rlx n t y) o) n (wrap64 (r + 1)) n t := by
  have hl : t.length ≤ 60 := g.2.1
  have hA := allD_len g.1 t
  have hy2 := hy
  unfold Node at hy2
  intro d
  induction d with
  | zero =>
    intro i K o hi hK ho _
    obtain rfl : i = t.length := by omega
    obtain rfl : K = k + 1 := by omega
    simp only [impl_Graph_steps.l1]
    rw [if_neg (by omega), List.drop_length]; rfl
  | succ d ih =>
    intro i K o hi hK ho hall
    obtain ⟨K, rfl⟩ : ∃ m, K = m + 1 := ⟨K - 1, by omega⟩
    have hil : i < t.length := by omega
    have e1 : (i : Int) + 1 = ((i + 1 : Nat) : Int) := by omega
    have hmem : rd_T76 t i ∈ t := by
      rw [rdE_get, List.getD_eq_getElem?_getD, List.getElem?_eq_getElem hil]; exact List.getElem_mem hil
    obtain ⟨a1, a2, a3, a4, a5⟩ := g.mem hmem
    have hd : Dok n (Pure.rlx n t y o (rd_T76 t i)) := hall [rd_T76 t i] (fun e he => by rw [List.mem_singleton.1 he]; exact hmem)
    have hall2 : ∀ s : List S76, (∀ e ∈ s, e ∈ t) → Dok n (s.foldl (Pure.rlx n t y) (Pure.rlx n t y o (rd_T76 t i))) := fun s hs => hall (rd_T76 t i :: s) (fun e he => by rcases List.mem_cons.1 he with rfl | he; exact hmem; exact hs e he)
    have hlen := ho.1
    obtain ⟨q1, q2⟩ := allD_at g a1 y
    obtain ⟨q3, q4⟩ := allD_at g a2 y
    have d1 := D_lim g (rd_T76 t i).f1 hy
    unfold Node at a1 a2
    have b1 := ho.2 _ (rd_mem (o := o) (i := (rd_T76 t i).f1) a2.1 (by omega))
    simp only [impl_Graph_steps.l1]
    rw [if_pos (by omega), if_pos (by omega), if_pos (by omega), if_pos a1.1, if_pos (by omega), if_pos hy2.1, if_pos (by omega), q1, q3, w64 (n := (i : Int) + 1) (by omega) (by omega), e1, drop_getD t z76 hil, ← rdE_get, List.foldl_cons]
    by_cases c : D n t (rd_T76 t i).f0 y < 1000000
    · rw [if_pos c, if_pos a2.1, if_pos (by omega), if_pos (by omega), w64 (n := (rd_T76 t i).f2 + D n t (rd_T76 t i).f1 y) (by omega) (by omega)]
      by_cases c2 : (rd_T76 t i).f2 + D n t (rd_T76 t i).f1 y = D n t (rd_T76 t i).f0 y
      · have er : Pure.rlx n t y o (rd_T76 t i) = o.set (rd_T76 t i).f0.toNat (mn (rd o (rd_T76 t i).f0) (rd o (rd_T76 t i).f1 + 1)) := by
          unfold Pure.rlx; rw [if_pos ⟨c, c2⟩]
        rw [if_pos c2, if_pos (by omega), if_pos (by omega), w64 (by omega) (by omega), ← er, ih (i + 1) K _ (by omega) (by omega) hd hall2]
      · have er : Pure.rlx n t y o (rd_T76 t i) = o := by unfold Pure.rlx; rw [if_neg (fun h => c2 h.2)]
        rw [er] at hall2
        rw [if_neg c2, er, ih (i + 1) K _ (by omega) (by omega) ho hall2]
    · have er : Pure.rlx n t y o (rd_T76 t i) = o := by unfold Pure.rlx; rw [if_neg (fun h => c h.1)]
      rw [er] at hall2
      rw [if_neg c, er, ih (i + 1) K _ (by omega) (by omega) ho hall2]
theorem steps_outer {n : Int} {t : List S76} (g : Gok n t) {y : Int} (hy : Node n y) : ∀ (d k i : Nat) (o : List Int), (i : Int) + d = n → d * (t.length + 2) < k → Low n t y o →
    impl_Graph_steps.l0 k y (allD n t) o n i n t = some (rrounds n t y d o) := by
  have hn := g.1
  intro d
  induction d with
  | zero =>
    intro k i o hi hk ho
    obtain ⟨k, rfl⟩ : ∃ m, k = m + 1 := ⟨k - 1, by omega⟩
    simp only [impl_Graph_steps.l0]
    rw [if_neg (by omega)]; rfl
  | succ d ih =>
    intro k i o hi hk ho
    rw [Nat.add_mul, Nat.one_mul] at hk
    obtain ⟨k, rfl⟩ : ∃ m, k = (m + t.length + 1) + 1 := ⟨k - t.length - 2, by omega⟩
    have e1 : (i : Int) + 1 = ((i + 1 : Nat) : Int) := by omega
    have z := steps_inner g hy k i t.length 0 (k + t.length + 1) o (by omega) rfl ho.1 (fun s hs => (ho.fold g hy s o hs).1)
    have z' : impl_Graph_steps.l1 (k + t.length + 1) y (allD n t) o n i t t.length 0 n t = impl_Graph_steps.l0 k y (allD n t) (t.foldl (Pure.rlx n t y) o) n (wrap64 ((i : Int) + 1)) n t := z
    simp only [impl_Graph_steps.l0]
    rw [if_pos (by omega), z', w64 (by omega) (by omega), e1, ih k (i + 1) _ (by omega) (by omega) (ho.fold g hy t o (fun e he => he))]
    rfl
/-- What the program's steps come to. -/
theorem impl_steps {n : Int} {t : List S76} (g : Gok n t) {y : Int} (hy : Node n y) {k : Nat} (hk : t.length * 12 + 60 < k) : ∃ o, impl_Graph_steps.f k n t y (allD n t) = some o ∧ (o.length : Int) = n ∧ ∀ v, Node n v → rd o v = if D n t v y < 1000000 then steps n t y v - 1 else 1000000 := by
  have hn := g.1
  have hl : t.length ≤ 60 := g.2.1
  have hy2 := hy
  unfold Node at hy2
  have hm : n.toNat * (t.length + 2) ≤ 10 * (t.length + 2) := Nat.mul_le_mul_right _ (by omega)
  have hs : Low n t y ((List.replicate n.toNat 1000000).set y.toNat 0) := Low.start g hy (fun v hv hf => by have := steps_le g hy _ v (Nat.le_refl _) hv hf; omega)
  have hs0 : rd ((List.replicate n.toNat 1000000).set y.toNat 0) y ≤ 0 := by rw [start_rd hy hy, if_pos rfl]; exact Int.le_refl _
  refine ⟨rrounds n t y n.toNat ((List.replicate n.toNat 1000000).set y.toNat 0), ?_, ?_, ?_⟩
  · unfold impl_Graph_steps.f slices_Repeat_int_int.f
    have e1 : ([1000000] : List Int).length = 1 := rfl
    rw [if_pos e1, if_pos (by omega), if_pos (by omega)]
    have e2 : rd ([1000000] : List Int) 0 = 1000000 := rfl
    simp only [Option.bind_some, e2]
    rw [if_pos hy2.1, List.length_replicate, if_pos (by omega)]
    exact steps_outer g hy n.toNat k 0 _ (by omega) (by omega) hs
  · exact (Low.rounds g hy n.toNat hs).1.1
  · intro v hv
    have h := (Low.rounds g hy n.toNat hs).2 v hv
    by_cases c : D n t v y < 1000000
    · rw [if_pos c]
      have a := up g hy hs hs0 n.toNat v hv c (.inr (rky_le t y _))
      have b := h.1 c
      omega
    · rw [if_neg c]
      exact h.2 c
/-- The next node of a cheapest way with the fewest steps. -/
def nxP (n : Int) (t : List S76) (y x z : Int) : Bool := decide (steps n t y z + 1 = steps n t y x)
theorem ci_find {n : Int} {t : List S76} (g : Gok n t) {x y z0 : Int} (hx : Node n x) (hy : Node n y) (hf : D n t x y < 1000000) {o acc : List Int} (ho : (o.length : Int) = n) (hq : ∀ v, Node n v → rd o v = if D n t v y < 1000000 then steps n t y v - 1 else 1000000) (ha : acc.length < 1000) {R : List Int × Bool} {k0 : Nat}
    (hR : ∀ k', k0 ≤ k' → impl_Graph_cheapest.l0 k' y (allD n t) o (acc ++ [z0]) z0 n t = some R) : ∀ (d i K : Nat), i + d = t.length → (((t.drop i).filter (hopE n t x y)).map fun e => e.f1).find? (nxP n t y x) = some z0 → k0 + d < K →
    impl_Graph_cheapest.l1 K y (allD n t) o acc x t t.length i n t = some R := by
  have hn := g.1
  have hl : t.length ≤ 60 := g.2.1
  have hA := allD_len g.1 t
  have hx2 := hx
  have hy2 := hy
  unfold Node at hx2 hy2
  have ox := hq x hx
  rw [if_pos hf] at ox
  have sx := (steps_pos g hy _ x (Nat.le_refl _) hx hf).1
  have sx2 := steps_le g hy _ x (Nat.le_refl _) hx hf
  obtain ⟨q1, q2⟩ := allD_at g hx y
  intro d
  induction d with
  | zero => 
    intro i K hi h _
    obtain rfl : i = t.length := by omega
    rw [List.drop_length] at h
    simp at h
  | succ d ih =>
    intro i K hi h hK
    obtain ⟨K, rfl⟩ : ∃ m, K = m + 1 := ⟨K - 1, by omega⟩
    have hil : i < t.length := by omega
    have e1 : (i : Int) + 1 = ((i + 1 : Nat) : Int) := by omega
    have hmem : rd_T76 t i ∈ t := by
      rw [rdE_get, List.getD_eq_getElem?_getD, List.getElem?_eq_getElem hil]; exact List.getElem_mem hil
    obtain ⟨a1, a2, a3, a4, a5⟩ := g.mem hmem
    obtain ⟨q3, q4⟩ := allD_at g a2 y
    have d1 := D_lim g (rd_T76 t i).f1 hy
    have oz := hq _ a2
    have b2 := a2
    unfold Node at a1 a2
    have nxt := fun (q : (((t.drop (i + 1)).filter (hopE n t x y)).map fun e => e.f1).find? (nxP n t y x) = some z0) => ih (i + 1) K (by omega) q (by omega)
    rw [drop_getD t z76 hil, ← rdE_get, List.filter_cons] at h
    simp only [impl_Graph_cheapest.l1]
    rw [if_pos (by omega), if_pos (by omega), if_pos (by omega), w64 (n := (i : Int) + 1) (by omega) (by omega), e1]
    by_cases c1 : (rd_T76 t i).f0 = x
    · rw [if_pos c1, if_pos a2.1, if_pos (by omega), if_pos hy2.1, if_pos (by omega), if_pos hx2.1, if_pos (by omega), if_pos (by omega), q1, q3, w64 (n := (rd_T76 t i).f2 + D n t (rd_T76 t i).f1 y) (by omega) (by omega)]
      by_cases c2 : (rd_T76 t i).f2 + D n t (rd_T76 t i).f1 y = D n t x y
      · have q : hopE n t x y (rd_T76 t i) = true := decide_eq_true ⟨c1, c2⟩
        rw [if_pos q, List.map_cons, List.find?_cons] at h
        have fz : D n t (rd_T76 t i).f1 y < 1000000 := by omega
        rw [if_pos fz] at oz
        rw [if_pos c2, if_pos (by omega), if_pos (by omega), w64 (n := rd o x - 1) (by omega) (by omega)]
        by_cases c3 : rd o (rd_T76 t i).f1 = rd o x - 1
        · have pz : nxP n t y x (rd_T76 t i).f1 = true := decide_eq_true (by omega)
          rw [pz] at h
          have e := Option.some.inj h
          rw [if_pos c3, if_pos (by omega), e]
          exact hR K (by omega)
        · have pz : nxP n t y x (rd_T76 t i).f1 = false := decide_eq_false (by omega)
          rw [pz] at h
          rw [if_neg c3]
          exact nxt h
      · have q : ¬ hopE n t x y (rd_T76 t i) = true := fun q => c2 (of_decide_eq_true q).2
        rw [if_neg q] at h
        rw [if_neg c2]
        exact nxt h
    · have q : ¬ hopE n t x y (rd_T76 t i) = true := fun q => c1 (of_decide_eq_true q).1
      rw [if_neg q] at h
      rw [if_neg c1]
      exact nxt h
/-- The next node is there. -/
theorem nx_ex {n : Int} {t : List S76} (g : Gok n t) {x y : Int} (hx : Node n x) (hy : Node n y) (hxy : x ≠ y) (hf : D n t x y < 1000000) : ∃ z, (hopsL n t x y).find? (nxP n t y x) = some z ∧ Node n z ∧ D n t z y < 1000000 ∧ steps n t y z + 1 = steps n t y x := by
  obtain ⟨z, hz, e⟩ := (steps_min g hx hy hxy hf).2
  cases c : (hopsL n t x y).find? (nxP n t y x) with
  | none =>
    have := List.find?_eq_none.1 c z hz
    exact absurd (decide_eq_true e.symm) this
  | some w =>
    have m := List.mem_of_find?_eq_some c
    have p := List.find?_some c
    obtain ⟨p1, p2, _⟩ := hop_lt g m
    exact ⟨w, rfl, p1, by omega, of_decide_eq_true p⟩
/-- A way by next hops to y, behind its first node x. -/
def Ch (n : Int) (t : List S76) (y : Int) : Int → List Int → Prop
 | x, [] => x = y
 | x, z :: q => (z ∈ hopsL n t x y ∧ D n t x y < 1000000) ∧ Ch n t y z q
theorem rd_cons' (x : Int) (l : List Int) (m : Nat) : rd (x :: l) ((m : Int) + 1) = rd l (m : Int) := by
  have e : (m : Int) + 1 = ((m + 1 : Nat) : Int) := by omega
  rw [e, rd_getI, rd_getI]
  rfl
theorem Ch_last {n : Int} {t : List S76} (g : Gok n t) {y : Int} : ∀ (q : List Int) (x : Int) (m : Nat), Node n x → Ch n t y x q → q.length = m + 1 → Node n (rd (x :: q) (m : Int)) ∧ y ∈ hopsL n t (rd (x :: q) (m : Int)) y ∧ D n t (rd (x :: q) (m : Int)) y < 1000000 := by
  intro q
  induction q with
  | nil => intro x m hx h hl; rw [List.length_nil] at hl; omega
  | cons z q ih =>
    intro x m hx h hl
    obtain ⟨h1, h2⟩ := h
    cases q with
    | nil =>
      have e : z = y := h2
      subst e
      rw [List.length_singleton] at hl
      obtain rfl : m = 0 := by omega
      have e0 : rd (x :: [z]) ((0 : Nat) : Int) = x := rfl
      rw [e0]
      exact ⟨hx, h1⟩
    | cons w q =>
      obtain ⟨m, rfl⟩ : ∃ j, m = j + 1 := ⟨m - 1, by rw [List.length_cons, List.length_cons] at hl; omega⟩
      have z1 := ih z m (hop_lt g h1.1).1 h2 (by rw [List.length_cons] at hl; omega)
      have e : ((m + 1 : Nat) : Int) = (m : Int) + 1 := by omega
      rw [e, rd_cons']
      exact z1
def OkS (n : Int) (t : List S76) (y : Int) (o : List Int) : Prop := (o.length : Int) = n ∧ ∀ v, Node n v → rd o v = if D n t v y < 1000000 then steps n t y v - 1 else 1000000
theorem impl_way {n : Int} {t : List S76} (g : Gok n t) {y : Int} (hy : Node n y) : ∀ (C : Nat), C = t.length * 13 + 130 → ∀ (m : Nat) (x : Int), steps n t y x = (m : Int) + 1 → Node n x → D n t x y < 1000000 →
    ∃ Q : List Int, Q.length ≤ m ∧ Ch n t y x Q ∧ ∀ o acc : List Int, OkS n t y o → acc.length + m < 1000 → ∀ k, (m + 1) * C < k → impl_Graph_cheapest.l0 k y (allD n t) o acc x n t = some (acc ++ Q, true) := by
  intro C hC
  have hn := g.1
  have hl : t.length ≤ 60 := g.2.1
  have e0 : ((0 : Nat) : Int) = 0 := rfl
  have zy : ∀ (x : Int) (m : Nat), x = y → ∃ Q : List Int, Q.length ≤ m ∧ Ch n t y x Q ∧ ∀ o acc : List Int, OkS n t y o → acc.length + m < 1000 → ∀ k, (m + 1) * C < k → impl_Graph_cheapest.l0 k y (allD n t) o acc x n t = some (acc ++ Q, true) := by
    intro x m c
    refine ⟨[], Nat.zero_le _, c, fun o acc _ _ k hk => ?_⟩
    obtain ⟨k, rfl⟩ : ∃ m, k = m + 1 := ⟨k - 1, by omega⟩
    simp only [impl_Graph_cheapest.l0]
    rw [if_pos c, List.append_nil]
  intro m
  induction m with
  | zero =>
    intro x hs hx hf
    by_cases c : x = y
    · exact zy x 0 c
    · obtain ⟨z, _, z2, z3, z4⟩ := nx_ex g hx hy c hf
      have := (steps_pos g hy _ z (Nat.le_refl _) z2 z3).1
      omega
  | succ m ih =>
    intro x hs hx hf
    by_cases c : x = y
    · exact zy x (m + 1) c
    · obtain ⟨z, z1, z2, z3, z4⟩ := nx_ex g hx hy c hf
      obtain ⟨Q, r0, rc, r2⟩ := ih z (by omega) z2 z3
      generalize hB : (m + 1) * C = B at r2
      have hB2 : (m + 1 + 1) * C = B + C := by
        have q := Nat.succ_mul (m + 1) C
        rw [hB] at q
        exact q
      refine ⟨z :: Q, by rw [List.length_cons]; omega, ⟨⟨List.mem_of_find?_eq_some z1, hf⟩, rc⟩, fun o acc ho hm k hk => ?_⟩
      rw [hB2] at hk
      obtain ⟨k, rfl⟩ : ∃ m, k = m + 1 := ⟨k - 1, by omega⟩
      simp only [impl_Graph_cheapest.l0]
      rw [if_neg c]
      have z1' : (((t.drop 0).filter (hopE n t x y)).map fun e => e.f1).find? (nxP n t y x) = some z := by rw [List.drop_zero]; exact z1
      have ea : acc ++ z :: Q = (acc ++ [z]) ++ Q := by rw [List.append_assoc]; rfl
      rw [ea]
      have zz := ci_find g hx hy hf ho.1 ho.2 (acc := acc) (by omega) (z0 := z) (R := (acc ++ [z] ++ Q, true)) (k0 := B + 1) (fun k' hk' => r2 o (acc ++ [z]) ho (by rw [List.length_append, List.length_singleton]; omega) k' (by omega)) t.length 0 k (by omega) z1' (by omega)
      rw [e0] at zz
      exact zz
def cntD (n : Int) (t : List S76) (y c : Int) : Nat := (((List.range n.toNat).map fun (i : Nat) => (i : Int)).filter fun v => decide (D n t v y < c)).length
theorem steps_cnt {n : Int} {t : List S76} (g : Gok n t) {y : Int} (hy : Node n y) : ∀ (N : Nat) (x : Int), (D n t x y).toNat ≤ N → Node n x → D n t x y < 1000000 → steps n t y x ≤ (cntD n t y (D n t x y) : Int) + 1 := by
  intro N
  induction N with
  | zero =>
    intro x hN hx hf
    by_cases c : x = y
    · subst c
      rw [(ways_at n t x).2]
      omega
    · obtain ⟨z, z1, _, _, _⟩ := nx_ex g hx hy c hf
      have h := hop_lt g (List.mem_of_find?_eq_some z1)
      have := D_lim g z hy
      omega
  | succ N ih =>
    intro x hN hx hf
    by_cases c : x = y
    · subst c
      rw [(ways_at n t x).2]
      omega
    · obtain ⟨z, z1, z2, z3, z4⟩ := nx_ex g hx hy c hf
      have h := hop_lt g (List.mem_of_find?_eq_some z1)
      have l := D_lim g z hy
      have s := ih z (by omega) z2 z3
      have lt : cntD n t y (D n t z y) < cntD n t y (D n t x y) := by
        unfold cntD
        refine filter_lt' _ _ _ (fun a _ ha => ?_) ⟨z, ?_, ?_, ?_⟩
        · have ha' := of_decide_eq_true ha
          exact decide_eq_true (by omega)
        · unfold Node at z2
          exact List.mem_map.2 ⟨z.toNat, List.mem_range.2 (by omega), by omega⟩
        · exact decide_eq_true h.2.1
        · intro q
          have q' := of_decide_eq_true q
          omega
      omega
theorem steps_lim {n : Int} {t : List S76} (g : Gok n t) {x y : Int} (hx : Node n x) (hy : Node n y) (hf : D n t x y < 1000000) : steps n t y x ≤ 11 := by
  have s := steps_cnt g hy _ x (Nat.le_refl _) hx hf
  have l : cntD n t y (D n t x y) ≤ n.toNat := by
    unfold cntD
    have := List.length_filter_le (fun v => decide (D n t v y < D n t x y)) ((List.range n.toNat).map fun (i : Nat) => (i : Int))
    rw [List.length_map, List.length_range] at this
    exact this
  have := g.1
  omega
/-- The program's cheapest way is a chain of next hops. -/
theorem impl_cheap {n : Int} {t : List S76} (g : Gok n t) {x y : Int} (hx : Node n x) (hy : Node n y) : ∃ (r : List Int) (ok : Bool), r.length ≤ 1000 ∧ (D n t x y < 1000000 → ∃ Q, r = x :: Q ∧ Ch n t y x Q) ∧ (¬ D n t x y < 1000000 → r = []) ∧ ∀ k, t.length * 160 + 2500 < k → impl_Graph_cheapest.f k n t x y = some (r, ok) := by
  have hn := g.1
  have hl : t.length ≤ 60 := g.2.1
  have hx2 := hx
  have hy2 := hy
  unfold Node at hx2 hy2
  have hA := allD_len g.1 t
  obtain ⟨q1, q2⟩ := allD_at g hx y
  have dl := D_lim g x hy
  have pre : ∀ (R : List Int × Bool), (∀ o k, OkS n t y o → t.length * 150 + 1500 < k → (if D n t x y = 1000000 then some (([] : List Int), false) else impl_Graph_cheapest.l0 k y (allD n t) o [x] x n t) = some R) → ∀ k, t.length * 160 + 2500 < k → impl_Graph_cheapest.f k n t x y = some R := by
    intro R hI k hk
    obtain ⟨o, e, o1, o2⟩ := impl_steps g hy (k := k) (by omega)
    unfold impl_Graph_cheapest.f
    rw [impl_all g (by omega)]
    simp only [Option.bind_some]
    rw [if_pos hx2.1, if_pos (by omega), if_pos hy2.1, if_pos (by omega), q1, e]
    simp only [Option.bind_some]
    exact hI o k ⟨o1, o2⟩ (by omega)
  by_cases c2 : D n t x y < 1000000
  · have s1 := (steps_pos g hy _ x (Nat.le_refl _) hx c2)
    obtain ⟨C, hC⟩ : ∃ C, C = t.length * 13 + 130 := ⟨_, rfl⟩
    obtain ⟨m, hm⟩ : ∃ m : Nat, steps n t y x = (m : Int) + 1 := ⟨(steps n t y x - 1).toNat, by omega⟩
    have lim := steps_lim g hx hy c2
    have hmC : (m + 1) * C ≤ 11 * C := Nat.mul_le_mul_right _ (by omega)
    obtain ⟨Q, r0, rc, r2⟩ := impl_way g hy C hC m x hm hx c2
    refine ⟨x :: Q, true, by rw [List.length_cons]; omega, fun _ => ⟨Q, rfl, rc⟩, fun h => absurd c2 h, pre _ (fun o k ho hk => ?_)⟩
    rw [if_neg (by omega)]
    exact r2 o [x] ho (by rw [List.length_singleton]; omega) k (by omega)
  · refine ⟨[], false, Nat.zero_le _, fun h => absurd h c2, fun _ => rfl, pre _ (fun o k ho hk => ?_)⟩
    rw [if_pos (by omega)]
/-- The next hops of a node to another. -/
def HH (n : Int) (t : List S76) (x y : Int) : List Int := if x = y ∨ D n t x y = 1000000 then [] else hopsR n t x y
theorem HH_len (n : Int) (h : n ≤ 10) (t : List S76) (x y : Int) : (HH n t x y).length ≤ 10 := by
  unfold HH
  split
  · simp
  · unfold hopsR
    have := List.length_filter_le (hopN n t x y) ((List.range' 0 n.toNat).map fun (i : Nat) => (i : Int))
    rw [List.length_map, List.length_range'] at this
    omega
def hopT (n : Int) (t : List S76) (x : Int) : List (List Int) := (List.range n.toNat).map fun (i : Nat) => HH n t x i
theorem hopT_len {n : Int} (h : 1 ≤ n ∧ n ≤ 10) (t : List S76) (x : Int) : ((hopT n t x).length : Int) = n := by
  simp [hopT]; omega
theorem hopT_rd {n : Int} (t : List S76) (x : Int) {y : Int} (hy : Node n y) : rd_L2 (hopT n t x) y = HH n t x y := by
  unfold Node at hy
  unfold rd_L2 hopT
  have h1 : y.toNat < n.toNat := by omega
  rw [List.getD_eq_getElem?_getD, List.getElem?_map, List.getElem?_range h1]
  simp only [Option.map_some, Option.getD_some]
  have e : ((y.toNat : Nat) : Int) = y := by omega
  rw [e]
theorem impl_hopT {n : Int} {t : List S76} (g : Gok n t) {x : Int} (hx : Node n x) {k : Nat} (hk : t.length * 12 + 105 < k) : impl_Graph_hopTable.f k n t x = some (hopT n t x) := by
  have hn := g.1
  have key : ∀ (d k i : Nat), (i : Int) + d = n → d + (t.length * 12 + 92) < k → impl_Graph_hopTable.l0 k x (allD n t) ((List.range i).map fun (j : Nat) => HH n t x j) n i n t = some (hopT n t x) := by
    intro d
    induction d with
    | zero =>
      intro k i hi hk
      obtain ⟨k, rfl⟩ : ∃ m, k = m + 1 := ⟨k - 1, by omega⟩
      simp only [impl_Graph_hopTable.l0]
      rw [if_neg (by omega)]
      unfold hopT
      rw [show n.toNat = i by omega]
    | succ d ih =>
      intro k i hi hk
      obtain ⟨k, rfl⟩ : ∃ m, k = m + 1 := ⟨k - 1, by omega⟩
      have e1 : (i : Int) + 1 = ((i + 1 : Nat) : Int) := by omega
      simp only [impl_Graph_hopTable.l0]
      rw [if_pos (by omega), impl_HopsG g hx (⟨by omega, by omega⟩ : Node n i) (by omega)]
      simp only [Option.bind_some]
      rw [if_pos (by simp; omega), w64 (by omega) (by omega), e1, ← ih k (i + 1) (by omega) (by omega), List.range_succ, List.map_append]
      rfl
  have z := key n.toNat k 0 (by omega) (by omega)
  unfold impl_Graph_hopTable.f
  rw [impl_all g (by omega)]
  exact z
theorem spec_hopT {n : Int} {t : List S76} (g : Gok n t) {x : Int} (hx : Node n x) {k : Nat} (hk : t.length * 12 + 115 < k) : spec_HopTable.l0 k x [] 0 n t = some (hopT n t x) := by
  have hn := g.1
  have key : ∀ (d k i : Nat), (i : Int) + d = n → d + (t.length * 12 + 95) < k → spec_HopTable.l0 k x ((List.range i).map fun (j : Nat) => HH n t x j) i n t = some (hopT n t x) := by
    intro d
    induction d with
    | zero =>
      intro k i hi hk
      obtain ⟨k, rfl⟩ : ∃ m, k = m + 1 := ⟨k - 1, by omega⟩
      simp only [spec_HopTable.l0]
      rw [if_neg (by omega)]
      unfold hopT
      rw [show n.toNat = i by omega]
    | succ d ih =>
      intro k i hi hk
      obtain ⟨k, rfl⟩ : ∃ m, k = m + 1 := ⟨k - 1, by omega⟩
      have e1 : (i : Int) + 1 = ((i + 1 : Nat) : Int) := by omega
      simp only [spec_HopTable.l0]
      rw [if_pos (by omega), spec_HopsG g hx (⟨by omega, by omega⟩ : Node n i) (by omega)]
      simp only [Option.bind_some]
      rw [if_pos (by simp; omega), w64 (by omega) (by omega), e1, ← ih k (i + 1) (by omega) (by omega), List.range_succ, List.map_append]
      rfl
  exact key n.toNat k 0 (by omega) (by omega)
theorem impl_HopsTo' {n : Int} {t : List S76} (g : Gok n t) {x y : Int} (hx : Node n x) (hy : Node n y) {k : Nat} (hk : t.length * 12 + 95 < k) : impl_HopsTo.f k n t x y = some (HH n t x y) := by
  obtain ⟨r, _, hr⟩ := both_HopsTo n (t := t) (by have := g.2.1; omega) x y
  obtain ⟨h1, h2⟩ := hr k hk
  rw [spec_HopsG g hx hy (by omega)] at h1
  rw [h2, ← h1]
  rfl
theorem both_HopTg {n : Int} {t : List S76} (g : Gok n t) {x : Int} (hx : Node n x) {k : Nat} (hk : t.length * 12 + 120 < k) : spec_HopTable.f k n t x = some (hopT n t x) ∧ impl_HopTable.f k n t x = some (hopT n t x) := by
  have hn := g.1
  obtain ⟨k, rfl⟩ : ∃ m, k = m + 1 := ⟨k - 1, by omega⟩
  obtain ⟨b0, h1, h2, h3⟩ := both_Gok n (t := t) (by have := g.2.1; omega) (k := k + 1) (by omega)
  unfold spec_HopTable.f impl_HopTable.f
  rw [h1, h2]
  simp only [Option.bind_some]
  rw [if_pos (h3.2 g), if_pos (h3.2 g), spec_Node hn, impl_Node hn, decide_eq_true hx]
  simp only [Option.bind_some, if_true, spec_HopTable.j0]
  rw [if_neg (by decide), spec_hopT g hx (by omega), impl_hopT g hx (by omega)]
  exact ⟨rfl, rfl⟩
theorem both_HopTn {n : Int} {t : List S76} (h : t.length ≤ 1048576) {x : Int} (c : ¬ (Gok n t ∧ Node n x)) {k : Nat} (hk : t.length * 12 + 120 < k) : spec_HopTable.f k n t x = some [] ∧ impl_HopTable.f k n t x = some [] := by
  obtain ⟨k, rfl⟩ : ∃ m, k = m + 1 := ⟨k - 1, by omega⟩
  obtain ⟨b0, h1, h2, h3⟩ := both_Gok n (t := t) h (k := k + 1) (by omega)
  unfold spec_HopTable.f impl_HopTable.f
  rw [h1, h2]
  simp only [Option.bind_some]
  by_cases c0 : b0 = true
  · have g := h3.1 c0
    have hn := g.1
    rw [if_pos c0, if_pos c0, spec_Node hn, impl_Node hn, decide_eq_false (fun hx => c ⟨g, hx⟩)]
    simp only [Option.bind_some, spec_HopTable.j0]
    exact ⟨rfl, rfl⟩
  · rw [if_neg c0, if_neg c0]
    simp only [spec_HopTable.j0, if_true, and_self]
theorem HH_iff {n : Int} {t : List S76} (g : Gok n t) {x y : Int} (hx : Node n x) (hy : Node n y) : (0 < (HH n t x y).length) ↔ (y ≠ x ∧ D n t x y < 1000000) := by
  have l := D_lim g x hy
  unfold HH
  by_cases c : x = y ∨ D n t x y = 1000000
  · rw [if_pos c]
    constructor
    · intro h; simp at h
    · intro h; omega
  · rw [if_neg c]
    constructor
    · intro _; omega
    · intro _
      obtain ⟨z, hz⟩ := hop_ex g hx hy (fun e => c (Or.inl e)) (by omega)
      rw [hops_eq g hx] at hz
      exact List.length_pos_of_mem hz
theorem HH_mem {n : Int} {t : List S76} {x y z : Int} (h : z ∈ HH n t x y) : Node n z ∧ gcost n t x z + D n t z y = D n t x y := by
  unfold HH at h
  by_cases c : x = y ∨ D n t x y = 1000000
  · rw [if_pos c] at h; cases h
  · rw [if_neg c] at h
    unfold hopsR at h
    obtain ⟨h1, h2⟩ := List.mem_filter.1 h
    obtain ⟨i, hi, rfl⟩ := List.mem_map.1 h1
    have h3 := of_decide_eq_true h2
    rw [List.mem_range'_1] at hi
    exact ⟨⟨by omega, by omega⟩, h3.2.2⟩
theorem hops_HH {n : Int} {t : List S76} (g : Gok n t) {x y z : Int} (hx : Node n x) (hy : Node n y) (h : z ∈ hopsL n t x y) (hf : D n t x y < 1000000) : z ∈ HH n t x y := by
  have a := hop_lt g h
  have l1 := D_lim g z hy
  unfold HH
  rw [if_neg, ← hops_eq g hx]
  · exact h
  · intro c
    rcases c with c | c
    · rw [c] at a
      have := D_self g hy
      omega
    · omega
/-- The last node but one of a way. -/
def tl2 (r : List Int) : Int := if (r.length : Int) < 2 then -1 else rd r ((r.length : Int) - 2)
def TP (n : Int) (t : List S76) (x y v : Int) : Prop := ((0 ≤ v) ↔ (y ≠ x ∧ D n t x y < 1000000)) ∧ (0 ≤ v → Node n v ∧ y ∈ HH n t v y)
theorem tl2_ok {n : Int} {t : List S76} (g : Gok n t) {x y : Int} (hx : Node n x) (hy : Node n y) {r : List Int} (h1 : D n t x y < 1000000 → ∃ Q, r = x :: Q ∧ Ch n t y x Q) (h2 : ¬ D n t x y < 1000000 → r = []) : TP n t x y (tl2 r) := by
  by_cases c : D n t x y < 1000000
  · obtain ⟨Q, rfl, hc⟩ := h1 c
    cases Q with
    | nil =>
      have e : x = y := hc
      have et : tl2 [x] = -1 := rfl
      rw [et]
      exact ⟨⟨fun h => by omega, fun h => absurd e.symm h.1⟩, fun h => by omega⟩
    | cons z Q =>
      have ne : x ≠ y := by
        intro e
        have a := hop_lt g hc.1.1
        have := D_lim g z hy
        rw [e] at a
        have := D_self g hy
        omega
      have q := Ch_last g (z :: Q) x Q.length hx hc (by rw [List.length_cons])
      have et : tl2 (x :: z :: Q) = rd (x :: z :: Q) (Q.length : Int) := by
        unfold tl2
        rw [List.length_cons, List.length_cons, if_neg (by omega)]
        congr 1
        omega
      rw [et]
      obtain ⟨q1, q2, q3⟩ := q
      have q4 := hops_HH g q1 hy q2 q3
      have q5 := q1
      unfold Node at q5
      exact ⟨⟨fun _ => ⟨fun e => ne e.symm, c⟩, fun _ => q5.1⟩, fun _ => ⟨q1, q4⟩⟩
  · have e := h2 c
    subst e
    have et : tl2 [] = -1 := rfl
    rw [et]
    exact ⟨⟨fun h => by omega, fun h => absurd h.2 c⟩, fun h => by omega⟩
theorem tree_loop {n : Int} {t : List S76} (g : Gok n t) {x : Int} (hx : Node n x) : ∀ (d i : Nat) (acc : List Int), (i : Int) + d = n → acc.length = i → (∀ j : Nat, j < i → TP n t x j (rd acc j)) →
    ∃ out : List Int, (out.length : Int) = n ∧ (∀ y, Node n y → TP n t x y (rd out y)) ∧ (∀ k, t.length * 160 + 2500 + d + 1 < k → impl_TreeOf.l0 k x acc n i n t = some out) := by
  have hn := g.1
  intro d
  induction d with
  | zero =>
    intro i acc hi ha hp
    refine ⟨acc, by omega, fun y hy => ?_, fun k hk => ?_⟩
    · unfold Node at hy
      have z := hp y.toNat (by omega)
      have e : ((y.toNat : Nat) : Int) = y := by omega
      rw [e] at z
      exact z
    · obtain ⟨k, rfl⟩ : ∃ m, k = m + 1 := ⟨k - 1, by omega⟩
      simp only [impl_TreeOf.l0]
      rw [if_neg (by omega)]
  | succ d ih =>
    intro i acc hi ha hp
    have hi2 : Node n i := by unfold Node; omega
    obtain ⟨r, ok, hr, h1, h2, hh⟩ := impl_cheap g hx hi2
    have tp := tl2_ok g hx hi2 h1 h2
    obtain ⟨out, o1, o2, o3⟩ := ih (i + 1) (acc ++ [tl2 r]) (by omega) (by rw [List.length_append, List.length_singleton]; omega) (fun j hj => by
      rw [rd_getI, List.getD_eq_getElem?_getD]
      by_cases c : j < i
      · rw [List.getElem?_append_left (by omega), ← List.getD_eq_getElem?_getD, ← rd_getI]
        exact hp j c
      · obtain rfl : j = i := by omega
        rw [List.getElem?_append_right (by omega), ha, Nat.sub_self]
        exact tp)
    have e1 : (i : Int) + 1 = ((i + 1 : Nat) : Int) := by omega
    have ew : wrap64 ((r.length : Int) - 2) = (r.length : Int) - 2 := w64 (by omega) (by omega)
    refine ⟨out, o1, o2, fun k hk => ?_⟩
    obtain ⟨k, rfl⟩ : ∃ m, k = m + 1 := ⟨k - 1, by omega⟩
    have z := o3 k (by omega)
    simp only [impl_TreeOf.l0]
    rw [if_pos (by omega), hh k (by omega)]
    simp only [Option.bind_some]
    rw [w64 (n := (i : Int) + 1) (by omega) (by omega), e1, ew]
    unfold tl2 at z
    by_cases c : (r.length : Int) < 2
    · rw [if_pos c] at z
      rw [if_pos c, if_pos (by omega), z]
    · rw [if_neg c] at z
      rw [if_neg c, if_pos (by omega), if_pos (by omega), if_pos (by omega), z]
theorem impl_Tree {n : Int} {t : List S76} (g : Gok n t) {x : Int} (hx : Node n x) : ∃ out : List Int, (out.length : Int) = n ∧ (∀ y, Node n y → TP n t x y (rd out y)) ∧ (∀ k, t.length * 160 + 2600 < k → impl_TreeOf.f k n t x = some out) := by
  have hn := g.1
  obtain ⟨out, o1, o2, o3⟩ := tree_loop g hx n.toNat 0 [] (by omega) rfl (fun j hj => by omega)
  refine ⟨out, o1, o2, fun k hk => ?_⟩
  obtain ⟨k, rfl⟩ : ∃ m, k = m + 1 := ⟨k - 1, by omega⟩
  obtain ⟨b0, h1, h2, h3⟩ := both_Gok n (t := t) (by have := g.2.1; omega) (k := k + 1) (by omega)
  have z := o3 k (by omega)
  unfold impl_TreeOf.f
  rw [h2]
  simp only [Option.bind_some, impl_TreeOf.j0]
  rw [if_pos (h3.2 g), impl_Node hn, decide_eq_true hx]
  simp only [Option.bind_some, Bool.not_true, Bool.false_eq_true, if_false]
  exact z
theorem and255 (x : Int) : 0 ≤ Go.bits .and .i64 x 255 ∧ Go.bits .and .i64 x 255 ≤ 255 := by
  have e : Go.bits .and .i64 x 255 = IntKind.i64.wrap (((BitVec.ofInt 64 x).toNat &&& (BitVec.ofInt 64 255).toNat : Nat) : Int) := by
    simp only [Go.bits]
    rw [← BitVec.toNat_and]
    rfl
  have h : (BitVec.ofInt 64 x).toNat &&& (BitVec.ofInt 64 255).toNat ≤ 255 := Nat.and_le_right
  generalize (BitVec.ofInt 64 x).toNat &&& (BitVec.ofInt 64 255).toNat = m at e h
  rw [e, IntKind.wrap_i64]
  omega
theorem byte_ok (b : List Int) {i : Int} (h : Int) (hi : 0 ≤ i) (hb : b.length ≤ 1048576) : ∃ r i' h', spec_l01Byte.f b i h = some (r, i', h') ∧ (0 ≤ r ∧ r ≤ 255) ∧ 0 ≤ i' := by
  unfold spec_l01Byte.f
  by_cases c : i < (b.length : Int)
  · rw [if_pos c, if_pos hi]
    exact ⟨_, _, _, rfl, and255 _, by rw [w64 (by omega) (by omega)]; omega⟩
  · rw [if_neg c]
    exact ⟨_, _, _, rfl, and255 _, hi⟩
theorem tmod_ok {a n : Int} (h0 : 0 ≤ a) (h1 : 0 < n) : 0 ≤ Int.tmod a n ∧ Int.tmod a n < n := by
  rw [Int.tmod_eq_emod_of_nonneg h0]
  exact ⟨Int.emod_nonneg _ (by omega), Int.emod_lt_of_pos _ h1⟩
theorem below_ok (b : List Int) {i : Int} (h : Int) (hi : 0 ≤ i) (hb : b.length ≤ 1048576) (n : Int) : ∃ r i' h', spec_l01Below.f b i h n = some (r, i', h') ∧ 0 ≤ i' ∧ 0 ≤ r ∧ (0 < n → r < n) ∧ (n ≤ 0 → r = 0) := by
  unfold spec_l01Below.f
  by_cases c : n ≤ 0
  · rw [if_pos c]
    exact ⟨_, _, _, rfl, hi, Int.le_refl _, fun h => by omega, fun _ => rfl⟩
  · rw [if_neg c]
    obtain ⟨r1, i1, h1, e1, p1, q1⟩ := byte_ok b h hi hb
    rw [e1]
    simp only [Option.bind_some]
    by_cases c2 : n ≤ 256
    · rw [if_pos c2, if_neg (by omega)]
      have z := tmod_ok p1.1 (show 0 < n by omega)
      exact ⟨_, _, _, rfl, q1, z.1, fun _ => z.2, fun h => by omega⟩
    · rw [if_neg c2]
      obtain ⟨r2, i2, h2, e2, p2, q2⟩ := byte_ok b h1 q1 hb
      rw [e2]
      simp only [Option.bind_some]
      obtain ⟨r3, i3, h3, e3, p3, q3⟩ := byte_ok b h2 q2 hb
      rw [e3]
      simp only [Option.bind_some]
      have z := tmod_ok (a := r1 * 65536 + r2 * 256 + r3) (by omega) (show 0 < n by omega)
      rw [if_neg (by omega), w64 (n := r1 * 65536) (by omega) (by omega), w64 (n := r2 * 256) (by omega) (by omega), w64 (n := r1 * 65536 + r2 * 256) (by omega) (by omega), w64 (n := r1 * 65536 + r2 * 256 + r3) (by omega) (by omega)]
      exact ⟨_, _, _, rfl, q3, z.1, fun _ => z.2, fun h => by omega⟩
theorem pick_ok (b : List Int) {i : Int} (h : Int) (hi : 0 ≤ i) (hb : b.length ≤ 1048576) {l : List Int} (hl : 0 < l.length) : ∃ r i' h', spec_l01PickInt.f b i h l = some (r, i', h') ∧ 0 ≤ i' ∧ r ∈ l := by
  unfold spec_l01PickInt.f
  obtain ⟨r, i', h', e, p, q0, q, -⟩ := below_ok b h hi hb (l.length : Int)
  rw [e]
  simp only [Option.bind_some]
  have q1 := q (by omega)
  rw [if_pos q0, if_pos q1]
  exact ⟨_, _, _, rfl, p, rd_mem q0 q1⟩
theorem once_ok (b : List Int) {i : Int} (h : Int) (hi : 0 ≤ i) (hb : b.length ≤ 1048576) (n : Int) : ∃ r i' h', spec_l01Once.f b i h n = some (r, i', h') ∧ 0 ≤ i' := by
  unfold spec_l01Once.f
  obtain ⟨r, i', h', e, p, -⟩ := below_ok b h hi hb n
  rw [e]
  simp only [Option.bind_some]
  exact ⟨_, _, _, rfl, p⟩
theorem new_ok {l : List Int} (hl : l.length ≤ 1048576) {k : Nat} (hk : 4001 < k) : ∃ h, spec_l01New.f k l = some (l, 0, h) := by
  have key : ∀ (d i k : Nat) (x : Int), i + d = 4000 → d < k → ∃ h, spec_l01New.l0 k l x i = some (l, 0, h) := by
    intro d
    induction d with
    | zero =>
      intro i k x hi hk
      obtain ⟨k, rfl⟩ : ∃ m, k = m + 1 := ⟨k - 1, by omega⟩
      simp only [spec_l01New.l0]
      rw [if_neg (c := (i : Int) < 4000) (by omega)]
      by_cases c : (i : Int) < (l.length : Int)
      · rw [if_pos c]; exact ⟨_, rfl⟩
      · rw [if_neg c]; exact ⟨_, rfl⟩
    | succ d ih =>
      intro i k x hi hk
      obtain ⟨k, rfl⟩ : ∃ m, k = m + 1 := ⟨k - 1, by omega⟩
      simp only [spec_l01New.l0]
      rw [if_pos (c := (i : Int) < 4000) (by omega)]
      by_cases c : (i : Int) < (l.length : Int)
      · rw [if_pos c, if_pos (by omega), wr1 (by omega)]
        exact ih (i + 1) k _ (by omega) (by omega)
      · rw [if_neg c]; exact ⟨_, rfl⟩
  exact key 4000 0 k _ (by omega) (by omega)
theorem size_ok {l : List Int} (hl : l.length ≤ 1048576) : ∃ s, spec_l01Size.f l 9 = some s ∧ 0 < s ∧ s ≤ 9 := by
  unfold spec_l01Size.f
  rw [w64 (n := (l.length : Int) / 16) (by omega) (by omega), w64 (n := 2 + (l.length : Int) / 16) (by omega) (by omega)]
  by_cases c : 2 + (l.length : Int) / 16 > 9
  · rw [if_pos c]; exact ⟨_, rfl, by omega, by omega⟩
  · rw [if_neg c]; exact ⟨_, rfl, by omega, by omega⟩
theorem put_ok {t : List S76} (ht : t.length ≤ 1000) (a b c : Int) {k : Nat} (hk : t.length * 2 + 1 < k) : ∃ out, spec_l03Put.f k t a b c = some out ∧ out.length ≤ t.length + 1 := by
  have key : ∀ (d i k : Nat) (acc : List S76) (p : Bool), i + d = t.length → acc.length ≤ 3 * i → d * 2 < k → ∃ out, spec_l03Put.l0 k t acc p i a b c = some out ∧ out.length ≤ acc.length + d + (if p = true then 0 else 1) := by
    intro d
    induction d with
    | zero =>
      intro i k acc p hi ha hk
      obtain ⟨k, rfl⟩ : ∃ m, k = m + 1 := ⟨k - 1, by omega⟩
      simp only [spec_l03Put.l0]
      rw [if_neg (by omega)]
      by_cases cp : p = true
      · rw [if_pos cp, if_pos cp]; exact ⟨_, rfl, by omega⟩
      · rw [if_neg cp, if_neg cp, if_pos (by omega)]
        exact ⟨_, rfl, by rw [List.length_append, List.length_singleton]; omega⟩
    | succ d ih =>
      intro i k acc p hi ha hk
      obtain ⟨k, rfl⟩ : ∃ m, k = m + 2 := ⟨k - 2, by omega⟩
      have one : ∀ (q : Bool) (e0 e1 e2 : Int), (q = true → p = false) → ∃ out, spec_l03Put.j1 (k + 1) t acc p i q a b c e0 e1 e2 = some out ∧ out.length ≤ acc.length + (d + 1) + (if p = true then 0 else 1) := by
        intro q e0 e1 e2 hq
        simp only [spec_l03Put.j1]
        rw [wr1 (by omega)]
        have last : ∀ (A : List S76) (p' : Bool), A.length ≤ acc.length + (if p' = true then (if p = true then 0 else 1) else 0) → (p = true → p' = true) → ∃ out, (if e0 = a then if e1 = b then spec_l03Put.l0 k t A p' ((i + 1 : Nat) : Int) a b c else if A.length < 5864062014805 then spec_l03Put.l0 k t (A ++ [(⟨e0, e1, e2⟩ : S76)]) p' ((i + 1 : Nat) : Int) a b c else none else if A.length < 5864062014805 then spec_l03Put.l0 k t (A ++ [(⟨e0, e1, e2⟩ : S76)]) p' ((i + 1 : Nat) : Int) a b c else none) = some out ∧ out.length ≤ acc.length + (d + 1) + (if p = true then 0 else 1) := by
          intro A p' hA hp'
          have hA2 : A.length ≤ acc.length + 1 := by
            revert hA
            cases p' <;> cases p <;> simp <;> omega
          have fin : ∀ (B : List S76), B.length ≤ A.length + 1 → ∃ out, spec_l03Put.l0 k t B p' ((i + 1 : Nat) : Int) a b c = some out ∧ out.length ≤ acc.length + (d + 1) + (if p = true then 0 else 1) := by
            intro B hB
            obtain ⟨out, o1, o2⟩ := ih (i + 1) k B p' (by omega) (by omega) (by omega)
            refine ⟨out, o1, ?_⟩
            revert o2 hA hp'
            cases p' <;> cases p <;> simp <;> omega
          have snoc := fin (A ++ [(⟨e0, e1, e2⟩ : S76)]) (by rw [List.length_append, List.length_singleton]; omega)
          rw [if_pos (c := A.length < 5864062014805) (by omega)]
          by_cases c1 : e0 = a
          · rw [if_pos c1]
            by_cases c2 : e1 = b
            · rw [if_pos c2]; exact fin A (by omega)
            · rw [if_neg c2]; exact snoc
          · rw [if_neg c1]; exact snoc
        cases q with
        | true =>
          have hp := hq rfl
          rw [if_pos rfl, if_pos (by omega)]
          simp only [Option.bind_some]
          exact last _ true (by rw [hp, List.length_append, List.length_singleton]; simp) (fun _ => rfl)
        | false =>
          rw [if_neg (by decide)]
          exact last acc p (by cases p <;> simp) (fun h => h)
      simp only [spec_l03Put.l0]
      rw [if_pos (by omega), if_pos (by omega)]
      cases p with
      | true => rw [if_pos rfl]; exact one false _ _ _ (fun h => by cases h)
      | false =>
        rw [if_neg (by decide)]
        split
        · exact one true _ _ _ (fun _ => rfl)
        · split
          · exact one _ _ _ _ (fun _ => rfl)
          · exact one false _ _ _ (fun _ => rfl)
  obtain ⟨out, o1, o2⟩ := key t.length 0 k [] false (by omega) (by simp) (by omega)
  exact ⟨out, o1, by simpa using o2⟩
theorem graph_ok {b : List Int} (hb : b.length ≤ 1048576) {x1 : Int} (hx : x1 ≤ 10) {n : Int} (hn : n ≤ 60) (m : Int) : ∀ (d i k : Nat) (s1 s2 : Int) (t : List S76), n ≤ (i : Int) + d → i ≤ 60 → 0 ≤ s1 → t.length ≤ 60 → d * 4 + 200 < k →
    ∃ out s1' s2', spec_l03DrawGraph.l0 k x1 n i b s1 s2 m t = some (m, out, s1', s2') ∧ out.length ≤ 60 ∧ 0 ≤ s1' := by
  intro d
  induction d with
  | zero =>
    intro i k s1 s2 t hi h60 hs ht hk
    obtain ⟨k, rfl⟩ : ∃ m, k = m + 2 := ⟨k - 2, by omega⟩
    simp only [spec_l03DrawGraph.l0]
    rw [if_neg (by omega)]
    simp only [spec_l03DrawGraph.j1]
    rw [if_neg (by decide)]
    exact ⟨_, _, _, rfl, ht, hs⟩
  | succ d ih =>
    intro i k s1 s2 t hi h60 hs ht hk
    obtain ⟨k, rfl⟩ : ∃ m, k = m + 4 := ⟨k - 4, by omega⟩
    simp only [spec_l03DrawGraph.l0]
    have stop : ∃ out s1' s2', spec_l03DrawGraph.j1 (k + 3) x1 n i false b s1 s2 m t = some (m, out, s1', s2') ∧ out.length ≤ 60 ∧ 0 ≤ s1' := by
      simp only [spec_l03DrawGraph.j1]
      rw [if_neg (by decide)]
      exact ⟨_, _, _, rfl, ht, hs⟩
    by_cases c : (i : Int) < n
    · rw [if_pos c]
      by_cases c1 : x1 > 1
      · rw [decide_eq_true c1]
        have go3 : ∀ (s1 s2 e0 e1 e2 : Int), 0 ≤ s1 → ∃ out s1' s2', spec_l03DrawGraph.j3 (k + 1) x1 n i b s1 s2 m t e0 e1 e2 = some (m, out, s1', s2') ∧ out.length ≤ 60 ∧ 0 ≤ s1' := by
          intro s1 s2 e0 e1 e2 hs
          have nx : ∀ (s1 s2 : Int) (u : List S76), 0 ≤ s1 → u.length ≤ 60 → ∃ out s1' s2', spec_l03DrawGraph.l0 k x1 n (wrap64 ((i : Int) + 1)) b s1 s2 m u = some (m, out, s1', s2') ∧ out.length ≤ 60 ∧ 0 ≤ s1' := fun s1 s2 u hs hu => by
            rw [wr1 (by omega)]; exact ih (i + 1) k s1 s2 u (by omega) (by omega) hs hu (by omega)
          simp only [spec_l03DrawGraph.j3]
          by_cases c2 : e0 = e1
          · rw [if_pos c2]; exact nx _ _ _ hs ht
          · rw [if_neg c2]
            by_cases c3 : (t.length : Int) < 59
            · rw [if_pos c3]
              obtain ⟨t1, p1, p2⟩ := put_ok (t := t) (by omega) e0 e1 e2 (k := k) (by omega)
              rw [p1]
              simp only [Option.bind_some]
              obtain ⟨r2, i2, h2, q2, w2, -⟩ := below_ok b s2 hs hb 4
              rw [q2]
              simp only [Option.bind_some]
              by_cases c4 : r2 > 0
              · rw [if_pos c4]
                obtain ⟨r3, i3, h3, q3, w3⟩ := once_ok b h2 w2 hb 4
                rw [q3]
                simp only [Option.bind_some]
                by_cases c5 : r3 = true
                · rw [if_pos c5]
                  obtain ⟨r4, i4, h4, q4, w4, -⟩ := below_ok b h3 w3 hb 6
                  rw [q4]
                  simp only [Option.bind_some]
                  obtain ⟨t2, p3, p4⟩ := put_ok (t := t1) (by omega) e1 e0 (wrap64 (1 + r4)) (k := k) (by omega)
                  rw [p3]
                  simp only [Option.bind_some]
                  exact nx _ _ _ w4 (by omega)
                · rw [if_neg c5]
                  obtain ⟨t2, p3, p4⟩ := put_ok (t := t1) (by omega) e1 e0 e2 (k := k) (by omega)
                  rw [p3]
                  simp only [Option.bind_some]
                  exact nx _ _ _ w3 (by omega)
              · rw [if_neg c4]
                exact nx _ _ _ w2 (by omega)
            · rw [if_neg c3]
              exact nx _ _ _ hs ht
        have go2 : ∀ (s1 s2 e0 e1 e2 : Int) (q : Bool), 0 ≤ s1 → ∃ out s1' s2', spec_l03DrawGraph.j2 (k + 2) x1 n i q b s1 s2 m t e0 e1 e2 = some (m, out, s1', s2') ∧ out.length ≤ 60 ∧ 0 ≤ s1' := by
          intro s1 s2 e0 e1 e2 q hs
          simp only [spec_l03DrawGraph.j2]
          by_cases cq : q = true
          · rw [if_pos cq]; exact go3 _ _ _ _ _ hs
          · rw [if_neg cq]; exact go3 _ _ _ _ _ hs
        simp only [spec_l03DrawGraph.j1]
        rw [if_pos trivial]
        obtain ⟨r1, i1, h1, q1, w1, -⟩ := below_ok b s2 hs hb x1
        rw [q1]
        simp only [Option.bind_some]
        obtain ⟨r2, i2, h2, q2, w2, -⟩ := below_ok b h1 w1 hb x1
        rw [q2]
        simp only [Option.bind_some]
        obtain ⟨r3, i3, h3, q3, w3, -⟩ := below_ok b h2 w2 hb 9
        rw [q3]
        simp only [Option.bind_some]
        obtain ⟨r4, i4, h4, q4, w4, -⟩ := pick_ok b h3 w3 hb (l := [1, 1, 2, 2, 3, 5, wrap64 (1 + r3), 1000]) (by simp)
        rw [q4]
        simp only [Option.bind_some]
        by_cases c2 : (i : Int) < wrap64 (x1 - 1)
        · rw [if_pos c2]
          obtain ⟨r5, i5, h5, q5, w5, -⟩ := below_ok b h4 w4 hb 3
          rw [q5]
          simp only [Option.bind_some]
          exact go2 _ _ _ _ _ _ w5
        · rw [if_neg c2]
          exact go2 _ _ _ _ _ _ w4
      · rw [decide_eq_false c1]
        exact stop
    · rw [if_neg c]
      exact stop
theorem bend_ok {b : List Int} (hb : b.length ≤ 1048576) {s1 : Int} (hs : 0 ≤ s1) (s2 m : Int) {t : List S76} (ht : t.length ≤ 60) : ∃ m' out s1' s2', spec_l03Bend.f b s1 s2 m t = some (m', out, s1', s2') ∧ out.length ≤ 61 ∧ 0 ≤ s1' := by
  unfold spec_l03Bend.f
  obtain ⟨r1, i1, h1, q1, w1, -⟩ := below_ok b s2 hs hb 4
  rw [q1]
  simp only [Option.bind_some]
  have same : ∃ m' out s1' s2', some (m, t, i1, h1) = some (m', out, s1', s2') ∧ out.length ≤ 61 ∧ 0 ≤ s1' := ⟨_, _, _, _, rfl, by omega, w1⟩
  by_cases c1 : r1 = 0
  · rw [if_pos c1]
    obtain ⟨r4, i4, h4, q4, w4, -⟩ := pick_ok b h1 w1 hb (l := [0, 1, 11, wrap64 (m - 1)]) (by simp)
    rw [q4]
    simp only [Option.bind_some]
    exact ⟨_, _, _, _, rfl, by omega, w4⟩
  · rw [if_neg c1]
    by_cases c2 : r1 = 1
    · rw [if_pos c2]
      by_cases c3 : (t.length : Int) > 0
      · rw [if_pos c3]
        obtain ⟨r3, i3, h3, q3, w3, u3, v3, -⟩ := below_ok b h1 w1 hb (t.length : Int)
        rw [q3]
        simp only [Option.bind_some]
        obtain ⟨r4, i4, h4, q4, w4, -⟩ := pick_ok b h3 w3 hb (l := [0, 1000, 1001]) (by simp)
        rw [q4]
        simp only [Option.bind_some]
        rw [if_pos u3, if_pos (v3 (by omega))]
        exact ⟨_, _, _, _, rfl, by rw [List.length_set]; omega, w4⟩
      · rw [if_neg c3]; exact same
    · rw [if_neg c2]
      by_cases c3 : r1 = 2
      · rw [if_pos c3]
        by_cases c4 : (t.length : Int) > 0
        · rw [if_pos c4, if_pos (by omega), if_pos (by omega)]
          exact ⟨_, _, _, _, rfl, by rw [List.length_append, List.length_singleton]; omega, w1⟩
        · rw [if_neg c4]; exact same
      · rw [if_neg c3]
        by_cases c4 : r1 = 3
        · rw [if_pos c4]
          by_cases c5 : (t.length : Int) > 0
          · rw [if_pos c5]
            obtain ⟨r3, i3, h3, q3, w3, u3, v3, -⟩ := below_ok b h1 w1 hb (t.length : Int)
            rw [q3]
            simp only [Option.bind_some]
            rw [if_pos u3, if_pos (v3 (by omega))]
            exact ⟨_, _, _, _, rfl, by rw [List.length_set]; omega, w3⟩
          · rw [if_neg c5]; exact same
        · rw [if_neg c4]; exact same
theorem j0_ok {l : List Int} (hl : l.length ≤ 1048576) {k : Nat} (hk : 0 < k) (s1 s2 m : Int) (t : List S76) (hs : 0 ≤ s1) (ht : t.length ≤ 60) : ∃ n t' i h, spec_l03Draw.j0 k l s1 s2 m t = some (n, t', l, i, h) ∧ t'.length ≤ 61 ∧ 0 ≤ i := by
  obtain ⟨k, rfl⟩ : ∃ m, k = m + 1 := ⟨k - 1, by omega⟩
  simp only [spec_l03Draw.j0]
  obtain ⟨r, i, h, q, w⟩ := once_ok l s2 hs hl 20
  rw [q]
  simp only [Option.bind_some]
  by_cases c : r = true
  · rw [if_pos c]
    obtain ⟨m', out, i', h', e, p1, p2⟩ := bend_ok hl w h m ht
    rw [e]
    simp only [Option.bind_some]
    exact ⟨_, _, _, _, rfl, p1, p2⟩
  · rw [if_neg c]
    exact ⟨_, _, _, _, rfl, by omega, w⟩
theorem ex_bind {α β : Type} {o : Option α} {f : α → Option β} {Q : β → Prop} (a : α) (h : o = some a) (h2 : ∃ b, f a = some b ∧ Q b) : ∃ b, o.bind f = some b ∧ Q b := by
  obtain ⟨b, h3, h4⟩ := h2
  exact ⟨b, by rw [h]; exact h3, h4⟩
theorem ex_pos {β : Type} {p : Prop} [Decidable p] {x y : Option β} {Q : β → Prop} (h : p) (h2 : ∃ b, x = some b ∧ Q b) : ∃ b, (if p then x else y) = some b ∧ Q b := by
  rw [if_pos h]; exact h2
theorem ex_neg {β : Type} {p : Prop} [Decidable p] {x y : Option β} {Q : β → Prop} (h : ¬ p) (h2 : ∃ b, y = some b ∧ Q b) : ∃ b, (if p then x else y) = some b ∧ Q b := by
  rw [if_neg h]; exact h2
/-- A drawn graph has few edges. -/
theorem draw_ok {l : List Int} (hl : l.length ≤ 1048576) {k : Nat} (hk : 5000 < k) : ∃ b : Int × List S76 × List Int × Int × Int, spec_l03Draw.f k l = some b ∧ b.2.1.length ≤ 61 ∧ b.2.2.1 = l ∧ 0 ≤ b.2.2.2.1 := by
  obtain ⟨h0, e0⟩ := new_ok hl (k := k) (by omega)
  obtain ⟨s, e1, s1, s2⟩ := size_ok hl
  obtain ⟨r1, i1, h1, q1, w1, u1, v1, -⟩ := below_ok l h0 (Int.le_refl 0) hl s
  have v1' := v1 s1
  obtain ⟨N, hN⟩ : ∃ N, N = wrap64 ((wrap64 (3 * (wrap64 (1 + r1)))) + 1) := ⟨_, rfl⟩
  have eN : N = 3 * (1 + r1) + 1 := by
    rw [hN, w64 (n := 1 + r1) (by omega) (by omega), w64 (n := 3 * (1 + r1)) (by omega) (by omega), w64 (n := 3 * (1 + r1) + 1) (by omega) (by omega)]
  obtain ⟨M, hM⟩ : ∃ M, M = wrap64 (1 + r1) := ⟨_, rfl⟩
  have eM : M = 1 + r1 := by rw [hM, w64 (n := 1 + r1) (by omega) (by omega)]
  obtain ⟨r2, i2, h2, q2, w2, u2, v2, -⟩ := below_ok l h1 w1 hl N
  rw [hN] at q2
  replace hN := Aside0.mk hN
  replace hM := Aside0.mk hM
  have v2' := v2 (by omega)
  have gr : ∀ (x1 n s1 s2 : Int), x1 ≤ 10 → n ≤ 60 → 0 ≤ s1 → ∃ out s1' s2', spec_l03DrawGraph.f k l s1 s2 x1 n = some (x1, out, s1', s2') ∧ out.length ≤ 60 ∧ 0 ≤ s1' := fun x1 n s1 s2 hx hn hs => by
    unfold spec_l03DrawGraph.f
    exact graph_ok hl hx hn x1 60 0 k s1 s2 [] (by omega) (by omega) hs (Nat.zero_le _) (by omega)
  have fin : ∀ (s1 s2 m : Int) (t : List S76), 0 ≤ s1 → t.length ≤ 60 → ∃ b : Int × List S76 × List Int × Int × Int, spec_l03Draw.j0 k l s1 s2 m t = some b ∧ b.2.1.length ≤ 61 ∧ b.2.2.1 = l ∧ 0 ≤ b.2.2.2.1 := fun s1 s2 m t hs ht => by
    obtain ⟨n, t', i, h, p1, p2, p3⟩ := j0_ok hl (k := k) (by omega) s1 s2 m t hs ht
    exact ⟨_, p1, p2, rfl, p3⟩
  obtain ⟨t1, i3, h3, q3, p3, w3⟩ := gr M r2 i2 h2 (by omega) (by omega) w2
  rw [hM.out] at q3
  obtain ⟨r4, i4, h4, q4, w4⟩ := once_ok l h3 w3 hl 25
  unfold spec_l03Draw.f
  refine ex_bind (l, 0, h0) e0 ?_
  refine ex_bind s e1 ?_
  refine ex_bind (r1, i1, h1) q1 ?_
  refine ex_bind (r2, i2, h2) q2 ?_
  refine ex_bind (wrap64 (1 + r1), t1, i3, h3) q3 ?_
  refine ex_bind (r4, i4, h4) q4 ?_
  by_cases c : r4 = true
  · refine ex_pos c ?_
    obtain ⟨t2, i5, h5, q5, p5, w5⟩ := gr 10 50 i4 h4 (by omega) (by omega) w4
    refine ex_bind (10, t2, i5, h5) q5 ?_
    exact fin _ _ _ _ w5 p5
  · refine ex_neg c ?_
    exact fin _ _ _ _ w4 p3
theorem node_ok {b : List Int} (hb : b.length ≤ 1048576) {s1 : Int} (hs : 0 ≤ s1) (s2 m : Int) (t : List S76) {k : Nat} (hk : 0 < k) : ∃ r s1' s2', spec_l03DrawNode.f k b s1 s2 m t = some (r, s1', s2') ∧ 0 ≤ s1' := by
  obtain ⟨k, rfl⟩ : ∃ j, k = j + 1 := ⟨k - 1, by omega⟩
  have key : ∀ (q : Bool) (s1 s2 : Int), 0 ≤ s1 → ∃ r s1' s2', spec_l03DrawNode.j0 (k + 1) q b s1 s2 m t = some (r, s1', s2') ∧ 0 ≤ s1' := by
    intro q s1 s2 hs
    simp only [spec_l03DrawNode.j0]
    by_cases c : q = true
    · rw [if_pos c]
      obtain ⟨r, i, h, e, p, -⟩ := below_ok b s2 hs hb m
      rw [e]
      simp only [Option.bind_some]
      exact ⟨_, _, _, rfl, p⟩
    · rw [if_neg c]
      obtain ⟨r, i, h, e, p, -⟩ := pick_ok b s2 hs hb (l := [(-1), m, 0]) (by simp)
      rw [e]
      simp only [Option.bind_some]
      exact ⟨_, _, _, rfl, p⟩
  unfold spec_l03DrawNode.f
  by_cases c : m > 0
  · rw [if_pos c]
    obtain ⟨r, i, h, e, p⟩ := once_ok b s2 hs hb 15
    rw [e]
    simp only [Option.bind_some]
    exact key _ _ _ p
  · rw [if_neg c]
    exact key _ _ _ hs
theorem same_ok {l : List Int} (hl : l.length ≤ 1048576) {k : Nat} (hk : l.length < k) : laws_same.f k l l = some true := by
  have key : ∀ (d i k : Nat), i + d = l.length → d < k → laws_same.l0 k l l i = some true := by
    intro d
    induction d with
    | zero =>
      intro i k hi hk
      obtain ⟨k, rfl⟩ : ∃ m, k = m + 1 := ⟨k - 1, by omega⟩
      simp only [laws_same.l0]
      rw [if_neg (by omega)]
    | succ d ih =>
      intro i k hi hk
      obtain ⟨k, rfl⟩ : ∃ m, k = m + 1 := ⟨k - 1, by omega⟩
      simp only [laws_same.l0]
      rw [if_pos (by omega), if_pos (by omega), if_pos (by omega), if_pos trivial, wr1 (by omega)]
      exact ih (i + 1) k (by omega) (by omega)
  unfold laws_same.f
  rw [if_pos rfl]
  exact key l.length 0 k (by omega) (by omega)
theorem within_ok {l : List Int} (hl : l.length ≤ 1048576) {v : Int} (hv : v ∈ l) {k : Nat} (hk : l.length < k) : laws_within.f k l v = some true := by
  obtain ⟨j, hj, e⟩ := List.getElem_of_mem hv
  have er : rd l (j : Int) = v := by
    rw [rd_getI, List.getD_eq_getElem?_getD, List.getElem?_eq_getElem hj]
    exact e
  have key : ∀ (d i k : Nat), i + d = j → d < k → laws_within.l0 k l v i = some true := by
    intro d
    induction d with
    | zero =>
      intro i k hi hk
      obtain rfl : i = j := by omega
      obtain ⟨k, rfl⟩ : ∃ m, k = m + 1 := ⟨k - 1, by omega⟩
      simp only [laws_within.l0]
      rw [if_pos (by omega), if_pos (by omega), if_pos er]
    | succ d ih =>
      intro i k hi hk
      obtain ⟨k, rfl⟩ : ∃ m, k = m + 1 := ⟨k - 1, by omega⟩
      simp only [laws_within.l0]
      rw [if_pos (by omega), if_pos (by omega)]
      by_cases c : rd l (i : Int) = v
      · rw [if_pos c]
      · rw [if_neg c, wr1 (by omega)]
        exact ih (i + 1) k (by omega) (by omega)
  exact key j 0 k (by omega) (by omega)
theorem impl_CostOf' {n : Int} {t : List S76} (g : Gok n t) (x y : Int) {k : Nat} (hk : t.length * 2 + 10 < k) : impl_CostOf.f k n t x y = some (gcost n t x y) := by
  obtain ⟨b0, h1, h2, h3⟩ := both_Gok n (t := t) (by have := g.2.1; omega) (k := k) (by omega)
  unfold impl_CostOf.f
  rw [h2]
  simp only [Option.bind_some]
  rw [if_pos (h3.2 g), impl_Cost g x y (by omega)]
  rfl
theorem hops_l1 {n : Int} {t : List S76} (g : Gok n t) {x y : Int} (hx : Node n x) (hy : Node n y) {T : List Int} (lT : (T.length : Int) = n) (hT : TP n t x y (rd T y)) (A B : List (List Int)) (b : Nat) (hb : t.length * 160 + 3000 < b)
    (h0 : ∀ K, b < K → laws_FnHops.l0 K x A B (dist n t x) T (wrap64 (y + 1)) n t = some true) : ∀ (d i K : Nat), i + d = (HH n t x y).length → b + d + 10 < K → laws_FnHops.l1 K x A B (dist n t x) T y (HH n t x y) i n t = some true := by
  have hn := g.1
  have lx := (dist_ok g x).1
  have hl := HH_len n hn.2 t x y
  have hy2 := hy
  unfold Node at hy2
  intro d
  induction d with
  | zero =>
    intro i K hi hK
    obtain ⟨K, rfl⟩ : ∃ m, K = m + 1 := ⟨K - 1, by omega⟩
    have iff1 := HH_iff g hx hy
    obtain ⟨t1, t2⟩ := hT
    have eb : ((decide (rd T y ≥ 0)) != (decide (((HH n t x y).length : Int) > 0))) = false := by
      rw [bne_eq_false_iff_eq]
      by_cases c : 0 ≤ rd T y
      · have := iff1.2 (t1.1 c)
        rw [decide_eq_true (by omega), decide_eq_true (by omega)]
      · have c2 : ¬ 0 < (HH n t x y).length := fun q => c (t1.2 (iff1.1 q))
        rw [decide_eq_false (by omega), decide_eq_false (by omega)]
    simp only [laws_FnHops.l1]
    rw [if_neg (by omega), if_pos hy2.1, if_pos (by omega), eb, if_neg (by decide)]
    by_cases c : rd T y ≥ 0
    · obtain ⟨t3, t4⟩ := t2 c
      have hl2 := HH_len n hn.2 t (rd T y) y
      rw [if_pos c, impl_HopsTo' g t3 hy (by omega)]
      simp only [Option.bind_some]
      rw [within_ok (by omega) t4 (by omega)]
      simp only [Option.bind_some, if_true]
      exact h0 K (by omega)
    · rw [if_neg c]
      exact h0 K (by omega)
  | succ d ih =>
    intro i K hi hK
    obtain ⟨K, rfl⟩ : ∃ m, K = m + 1 := ⟨K - 1, by omega⟩
    have hm : rd (HH n t x y) (i : Int) ∈ HH n t x y := rd_mem (by omega) (by omega)
    obtain ⟨m1, m2⟩ := HH_mem hm
    have lz := (dist_ok g (rd (HH n t x y) (i : Int))).1
    have dl := D_lim g x hy
    have ed : rd (dist n t (rd (HH n t x y) (i : Int))) y = D n t (rd (HH n t x y) (i : Int)) y := rfl
    have ex : rd (dist n t x) y = D n t x y := rfl
    have nx := ih (i + 1) K (by omega) (by omega)
    simp only [laws_FnHops.l1]
    rw [if_pos (by omega), if_pos (by omega), impl_CostOf' g _ _ (by omega)]
    simp only [Option.bind_some]
    rw [spec_Dist' g m1 (by omega)]
    simp only [Option.bind_some]
    rw [if_pos hy2.1, if_pos (by omega), if_pos (by omega), ed, ex, m2, w64 (n := D n t x y) (by omega) (by omega), if_pos rfl, wr1 (by omega)]
    exact nx
theorem hops_l0 {n : Int} {t : List S76} (g : Gok n t) {x : Int} (hx : Node n x) {T : List Int} (lT : (T.length : Int) = n) (hT : ∀ y, Node n y → TP n t x y (rd T y)) : ∀ (d i : Nat), (i : Int) + d = n → ∀ K, d * 30 + t.length * 160 + 3100 < K → laws_FnHops.l0 K x (hopT n t x) (hopT n t x) (dist n t x) T i n t = some true := by
  have hn := g.1
  have la := hopT_len hn t x
  have lx := (dist_ok g x).1
  intro d
  induction d with
  | zero =>
    intro i hi K hK
    obtain ⟨K, rfl⟩ : ∃ m, K = m + 1 := ⟨K - 1, by omega⟩
    simp only [laws_FnHops.l0]
    rw [if_neg (by omega)]
  | succ d ih =>
    intro i hi K hK
    obtain ⟨K, rfl⟩ : ∃ m, K = m + 2 := ⟨K - 2, by omega⟩
    have hi2 : Node n i := by unfold Node; omega
    have hl := HH_len n hn.2 t x i
    have e1 : (i : Int) + 1 = ((i + 1 : Nat) : Int) := by omega
    have ed : rd (dist n t x) i = D n t x i := rfl
    have iff1 := HH_iff g hx hi2
    have key := hops_l1 g hx hi2 lT (hT i hi2) (hopT n t x) (hopT n t x) (d * 30 + t.length * 160 + 3100) (by omega) (fun K hK => by
      rw [w64 (n := (i : Int) + 1) (by omega) (by omega), e1]
      exact ih (i + 1) (by omega) K (by omega)) (HH n t x i).length 0 K (by omega) (by omega)
    have e0 : ((0 : Nat) : Int) = 0 := rfl
    rw [e0] at key
    have j1 : ∀ b : Bool, b = false → laws_FnHops.j1 (K + 1) x (hopT n t x) (hopT n t x) (dist n t x) T i (HH n t x i) b n t = some true := by
      intro b hb
      subst hb
      simp only [laws_FnHops.j1]
      rw [if_neg (by decide)]
      exact key
    simp only [laws_FnHops.l0]
    rw [if_pos (by omega), impl_HopsTo' g hx hi2 (by omega)]
    simp only [Option.bind_some]
    rw [if_pos (by omega), if_pos (by omega), if_pos (by omega), hopT_rd t x hi2, same_ok (by omega) (by omega)]
    simp only [Option.bind_some, if_true]
    by_cases c : (i : Int) = x
    · rw [if_pos c]
      refine j1 _ ?_
      rw [bne_eq_false_iff_eq]
      have c2 : ¬ 0 < (HH n t x i).length := fun q => (iff1.1 q).1 c
      rw [decide_eq_false (by omega)]
    · rw [if_neg c, if_pos (by omega), ed]
      refine j1 _ ?_
      rw [bne_eq_false_iff_eq]
      by_cases c3 : D n t x i < 1000000
      · have := iff1.2 ⟨c, c3⟩
        rw [decide_eq_true (by omega), decide_eq_true c3]
      · have c2 : ¬ 0 < (HH n t x i).length := fun q => c3 (iff1.1 q).2
        rw [decide_eq_false (by omega), decide_eq_false c3]
theorem FnHops : FnHops.Pure := by
  intro l _
  refine ⟨l.length + 20000, ?_⟩
  have key : ∃ b, laws_FnHops.f (l.length + 20000) l = some b ∧ b = true := by
    unfold laws_FnHops.f
    by_cases hb : l.length ≤ 1048576
    · refine ex_bind false (by unfold laws_big.f; rw [decide_eq_false (by omega)]) ?_
      refine ex_neg (by decide) ?_
      obtain ⟨⟨n, t, b, i, h⟩, e, p1, p2, p3⟩ := draw_ok hb (k := l.length + 20000) (by omega)
      have p1' : t.length ≤ 61 := p1
      have p2' : b = l := p2
      have p3' : 0 ≤ i := p3
      obtain ⟨x, i2, h2', e2, _⟩ := node_ok (b := b) (by rw [p2']; exact hb) p3' h n t (k := l.length + 20000) (by omega)
      have ed : spec_DrawDistances.f (l.length + 20000) l = some (n, t, x) := by
        unfold spec_DrawDistances.f
        rw [e]
        simp only [Option.bind_some]
        rw [e2]
        rfl
      have e3 : spec_DrawHopTable.f (l.length + 20000) l = some (n, t, x) := by
        unfold spec_DrawHopTable.f
        rw [ed]
        rfl
      refine ex_bind (n, t, x) e3 ?_
      by_cases c : Gok n t ∧ Node n x
      · obtain ⟨g, hx⟩ := c
        have hn := g.1
        obtain ⟨s1, s2⟩ := both_HopTg g hx (k := l.length + 20000) (by omega)
        obtain ⟨T, t1, t2, t3⟩ := impl_Tree g hx
        have la := hopT_len hn t x
        refine ex_bind _ s1 ?_
        refine ex_bind _ s2 ?_
        refine ex_pos rfl ?_
        refine ex_neg (by omega) ?_
        refine ex_bind _ (spec_Dist' g hx (by omega)) ?_
        refine ex_bind _ (t3 _ (by omega)) ?_
        exact ⟨true, hops_l0 g hx t1 t2 n.toNat 0 (by omega) _ (by omega), rfl⟩
      · obtain ⟨s1, s2⟩ := both_HopTn (n := n) (t := t) (by omega) c (k := l.length + 20000) (by omega)
        refine ex_bind _ s1 ?_
        refine ex_bind _ s2 ?_
        refine ex_pos rfl ?_
        refine ex_pos rfl ?_
        exact ⟨true, rfl, rfl⟩
    · refine ex_bind true (by unfold laws_big.f; rw [decide_eq_true (by omega)]) ?_
      exact ex_pos rfl ⟨true, rfl, rfl⟩
  obtain ⟨b, e, rfl⟩ := key
  exact e

end Go.Proofs.Ythmahcohcphljaa.Pure
