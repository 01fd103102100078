/- The plain law of FnExactBothWays: the program's answer is the reference's. -/
import Derived.Test.YteopiggdpadolaaStmtFnExactBothWays
namespace Go.Proofs.Yteopiggdpadolaa.Pure
open Go.RowKit Go.Proofs.Yteopiggdpadolaa.QFnExactBothWays Go.Proofs.YteopiggdpadolaaY.PrintWords Go.Proofs.YteopiggdpadolaaY.PrintLast Go.Proofs.YteopiggdpadolaaY.PrintMore
set_option linter.unusedVariables false
set_option linter.unusedSimpArgs false

theorem w64 {n : Int} (h0 : -9223372036854775808 ≤ n) (h1 : n ≤ 9223372036854775807) : wrap64 n = n := by unfold wrap64; omega
theorem wr1 {i : Nat} (h : i ≤ 1048576) : wrap64 ((i : Int) + 1) = ((i + 1 : Nat) : Int) := by rw [w64 (by omega) (by omega)]; omega
theorem spec_In (a b c : Int) : spec_l01In.f a b c = some (decide (b ≤ a ∧ a ≤ c)) := by
  unfold spec_l01In.f
  by_cases h : b ≤ a <;> simp [h]
theorem impl_In (a b c : Int) : impl_within.f a b c = some (decide (b ≤ a ∧ a ≤ c)) := by
  unfold impl_within.f
  by_cases h : b ≤ a <;> simp [h]
/-- A loop that asks each index and ends at the first refusal. -/
theorem all_loop {F : Nat → Int → Option Bool} {n : Nat} {P : Nat → Prop} {e : Bool}
    (hs : ∀ (k i : Nat), i < n → (∀ j, j < i → P j) → (P i ∧ F (k + 1) i = F k ((i : Int) + 1)) ∨ (¬ P i ∧ F (k + 1) i = some false))
    (he : ∀ k : Nat, (∀ j, j < n → P j) → F (k + 1) n = some e) : ∀ (d k i : Nat), i + d = n → d < k → (∀ j, j < i → P j) →
    ∃ b, F k i = some b ∧ (b = true ↔ ((∀ j, j < n → P j) ∧ e = true)) := by
  intro d
  induction d with
  | zero =>
    intro k i hi hk hp
    obtain ⟨k, rfl⟩ : ∃ m, k = m + 1 := ⟨k - 1, by omega⟩
    obtain rfl : i = n := by omega
    exact ⟨e, he k hp, ⟨fun h => ⟨hp, h⟩, fun h => h.2⟩⟩
  | succ d ih =>
    intro k i hi hk hp
    obtain ⟨k, rfl⟩ : ∃ m, k = m + 1 := ⟨k - 1, by omega⟩
    rcases hs k i (by omega) hp with ⟨h1, h2⟩ | ⟨h1, h2⟩
    · have e1 : (i : Int) + 1 = ((i + 1 : Nat) : Int) := by omega
      rw [h2, e1]
      refine ih k (i + 1) (by omega) (by omega) (fun j hj => ?_)
      by_cases hji : j = i
      · rw [hji]; exact h1
      · exact hp j (by omega)
    · refine ⟨false, h2, ⟨(fun h => by cases h), fun h => absurd (h.1 i (by omega)) h1⟩⟩
/-- A loop that copies a list, element by element. -/
theorem copy_loop {α β : Type} {F : Nat → List α → List β → Int → Option (List β)} {cv : α → β} (z : α) {N : Nat}
    (hs : ∀ (k i : Nat) (x : List α) (y : List β), x.length ≤ N → i < x.length → i < y.length → F (k + 1) x y i = F k x (y.set i (cv (x.getD i z))) ((i : Int) + 1))
    (he : ∀ (k : Nat) (x : List α) (y : List β), F (k + 1) x y x.length = some y) (x : List α) (hN : x.length ≤ N) : ∀ (d k i : Nat) (y : List β), i + d = x.length → d < k → y.length = x.length →
    y.take i = (x.take i).map cv → F k x y i = some (x.map cv) := by
  intro d
  induction d with
  | zero =>
    intro k i y hi hk hl ht
    obtain ⟨k, rfl⟩ : ∃ m, k = m + 1 := ⟨k - 1, by omega⟩
    obtain rfl : i = x.length := by omega
    rw [he]
    rw [List.take_of_length_le (by omega), List.take_of_length_le (by omega)] at ht
    rw [ht]
  | succ d ih =>
    intro k i y hi hk hl ht
    obtain ⟨k, rfl⟩ : ∃ m, k = m + 1 := ⟨k - 1, by omega⟩
    have e1 : (i : Int) + 1 = ((i + 1 : Nat) : Int) := by omega
    rw [hs k i x y hN (by omega) (by omega), e1]
    refine ih k (i + 1) _ (by omega) (by omega) (by rw [List.length_set, hl]) ?_
    have hx : i < x.length := by omega
    have hy : i < y.length := by omega
    rw [List.take_succ_eq_append_getElem (by rw [List.length_set]; exact hy), List.take_succ_eq_append_getElem hx, List.map_append, List.take_set, ht]
    congr 1
    · rw [List.set_eq_of_length_le]
      simp; omega
    · simp [List.getD_eq_getElem?_getD, hx]
/-- Two equal lists, compared element by element. -/
theorem same_loop {α : Type} {F : Nat → List α → List α → Int → Option Bool} {N : Nat}
    (hs : ∀ (k i : Nat) (x : List α), x.length ≤ N → i < x.length → F (k + 1) x x i = F k x x ((i : Int) + 1))
    (he : ∀ (k : Nat) (x : List α), F (k + 1) x x x.length = some true) (x : List α) (hN : x.length ≤ N) : ∀ (d k i : Nat), i + d = x.length → d < k → F k x x i = some true := by
  intro d
  induction d with
  | zero =>
    intro k i hi hk
    obtain ⟨k, rfl⟩ : ∃ m, k = m + 1 := ⟨k - 1, by omega⟩
    obtain rfl : i = x.length := by omega
    exact he k x
  | succ d ih =>
    intro k i hi hk
    obtain ⟨k, rfl⟩ : ∃ m, k = m + 1 := ⟨k - 1, by omega⟩
    have e1 : (i : Int) + 1 = ((i + 1 : Nat) : Int) := by omega
    rw [hs k i x hN (by omega), e1]
    exact ih k (i + 1) (by omega) (by omega)
/-- The same where a round costs c + 1 rounds of the count. -/
theorem all_loopc (c : Nat) {F : Nat → Int → Option Bool} {n : Nat} {P : Nat → Prop} {e : Bool}
    (hs : ∀ (k i : Nat), i < n → (∀ j, j < i → P j) → (P i ∧ F (k + (c + 1)) i = F k ((i : Int) + 1)) ∨ (¬ P i ∧ F (k + (c + 1)) i = some false))
    (he : ∀ k : Nat, (∀ j, j < n → P j) → F (k + 1) n = some e) : ∀ (d k i : Nat), i + d = n → d * (c + 1) < k → (∀ j, j < i → P j) →
    ∃ b, F k i = some b ∧ (b = true ↔ ((∀ j, j < n → P j) ∧ e = true)) := by
  intro d
  induction d with
  | zero =>
    intro k i hi hk hp
    obtain ⟨k, rfl⟩ : ∃ m, k = m + 1 := ⟨k - 1, by omega⟩
    obtain rfl : i = n := by omega
    exact ⟨e, he k hp, ⟨fun h => ⟨hp, h⟩, fun h => h.2⟩⟩
  | succ d ih =>
    intro k i hi hk hp
    rw [Nat.add_mul, Nat.one_mul] at hk
    obtain ⟨k, rfl⟩ : ∃ m, k = m + (c + 1) := ⟨k - (c + 1), by omega⟩
    rcases hs k i (by omega) hp with ⟨h1, h2⟩ | ⟨h1, h2⟩
    · have e1 : (i : Int) + 1 = ((i + 1 : Nat) : Int) := by omega
      rw [h2, e1]
      refine ih k (i + 1) (by omega) (by omega) (fun j hj => ?_)
      by_cases hji : j = i
      · rw [hji]; exact h1
      · exact hp j (by omega)
    · refine ⟨false, h2, ⟨(fun h => by cases h), fun h => absurd (h.1 i (by omega)) h1⟩⟩
/-- A loop that looks for something in a list, from an index on. -/
theorem find_loop {α ρ : Type} {F : Nat → Int → Option ρ} {h : List α → ρ} (t : List α)
    (hs : ∀ (k i : Nat), i < t.length → (F (k + 1) i = F k ((i : Int) + 1) ∧ h (t.drop i) = h (t.drop (i + 1))) ∨ F (k + 1) i = some (h (t.drop i)))
    (he : ∀ (k : Nat), F (k + 1) t.length = some (h [])) : ∀ (d k i : Nat), i + d = t.length → d < k → F k i = some (h (t.drop i)) := by
  intro d
  induction d with
  | zero =>
    intro k i hi hk
    obtain ⟨k, rfl⟩ : ∃ m, k = m + 1 := ⟨k - 1, by omega⟩
    obtain rfl : i = t.length := by omega
    rw [he, List.drop_length]
  | succ d ih =>
    intro k i hi hk
    obtain ⟨k, rfl⟩ : ∃ m, k = m + 1 := ⟨k - 1, by omega⟩
    rcases hs k i (by omega) with ⟨h1, h2⟩ | h1
    · have e1 : (i : Int) + 1 = ((i + 1 : Nat) : Int) := by omega
      rw [h1, e1, ih k (i + 1) (by omega) (by omega), h2]
    · exact h1
theorem drop_getD {α : Type} (t : List α) (z : α) {i : Nat} (hi : i < t.length) : t.drop i = t.getD i z :: t.drop (i + 1) := by
  rw [List.drop_eq_getElem_cons hi, List.getD_eq_getElem?_getD, List.getElem?_eq_getElem hi]; rfl
/-- An edge, of the laws' type and of the program's. -/
def cvE (x : S82) : S67 := ⟨x.f0, x.f1, x.f2⟩
theorem sz_Graph (n : Int) {l : List S82} (h : l.length ≤ 9223372036854775807) : laws_szGraph.f n l 1048576 = some (if l.length ≤ 1048576 then 1048576 - (l.length : Int) else -1) := by
  unfold laws_szGraph.f laws_szEdgeS.f
  rw [w64 (by omega) (by omega)]
  by_cases hl : l.length ≤ 1048576
  · rw [if_neg (by omega), if_pos hl]
    simp only [Option.bind_some]
    rw [if_neg (by omega)]
  · rw [if_pos (by omega), if_neg hl]
    rfl
theorem to_EdgeS {l : List S82} {k : Nat} (h : l.length ≤ 1048576) (hk : l.length < k) : laws_toEdgeS.f k l = some (l.map cvE) := by
  unfold laws_toEdgeS.f
  rw [if_pos (by omega), if_pos (by omega)]
  refine copy_loop (F := laws_toEdgeS.l0) (cv := cvE) z82 (N := 1048576) ?_ ?_ l h l.length k 0 _ (by omega) hk (by simp) (by simp)
  · intro k i x y hN hx hy
    simp only [laws_toEdgeS.l0]
    rw [if_pos (by omega), if_pos (by omega)]
    unfold laws_toEdge.f
    simp only [Option.bind_some]
    rw [if_pos (by omega), w64 (by omega) (by omega)]
    simp [rd_T82, cvE]
  · intro k x y
    simp only [laws_toEdgeS.l0]
    rw [if_neg (by omega)]
theorem to_Graph (n : Int) {l : List S82} {k : Nat} (h : l.length ≤ 1048576) (hk : l.length < k) : laws_toGraph.f k n l = some (n, l.map cvE) := by
  unfold laws_toGraph.f
  rw [to_EdgeS h hk]; rfl
theorem eq_EdgeS {l : List S67} {k : Nat} (h : l.length ≤ 1048576) (hk : l.length < k) : laws_eqEdgeS.f k l l = some true := by
  unfold laws_eqEdgeS.f
  rw [if_pos rfl]
  refine same_loop (F := laws_eqEdgeS.l0) (N := 1048576) ?_ ?_ l h l.length k 0 (by omega) hk
  · intro k i x hN hx
    simp only [laws_eqEdgeS.l0]
    rw [if_pos (by omega), if_pos (by omega), if_pos (by omega)]
    unfold laws_eqEdge.f
    simp only [if_true, Option.bind_some]
    rw [w64 (by omega) (by omega)]
  · intro k x
    simp only [laws_eqEdgeS.l0]
    rw [if_neg (by omega)]
theorem eq_Graph (n : Int) {l : List S67} {k : Nat} (h : l.length ≤ 1048576) (hk : l.length < k) : laws_eqGraph.f k n l n l = some true := by
  unfold laws_eqGraph.f
  rw [if_pos rfl, eq_EdgeS h hk]; rfl
/-- A node of a graph of n nodes. -/
def Node (n x : Int) : Prop := 0 ≤ x ∧ x ≤ n - 1
instance (n x : Int) : Decidable (Node n x) := by unfold Node; infer_instance
def EAhead (a b : S67) : Prop := a.f0 < b.f0 ∨ a.f0 = b.f0 ∧ a.f1 < b.f1
/-- The edge at an index is valid and stands behind the one ahead of it. -/
def Eat (n : Int) (t : List S67) (j : Nat) : Prop :=
  Node n (rd_T67 t j).f0 ∧ Node n (rd_T67 t j).f1 ∧ (rd_T67 t j).f0 ≠ (rd_T67 t j).f1 ∧ (1 ≤ (rd_T67 t j).f2 ∧ (rd_T67 t j).f2 ≤ 1000) ∧
    (0 < j → EAhead (rd_T67 t ((j : Int) - 1)) (rd_T67 t j))
/-- A valid graph. -/
def Gok (n : Int) (t : List S67) : Prop := (1 ≤ n ∧ n ≤ 10) ∧ t.length ≤ 60 ∧ ∀ j, j < t.length → Eat n t j
theorem spec_Node {n : Int} (h : 1 ≤ n ∧ n ≤ 10) (t : List S67) (x : Int) : spec_l03Node.f n t x = some (decide (Node n x)) := by
  unfold spec_l03Node.f
  rw [w64 (by omega) (by omega), spec_In]
  rfl
theorem impl_Node {n : Int} (h : 1 ≤ n ∧ n ≤ 10) (t : List S67) (x : Int) : impl_Graph_isNode.f n t x = some (decide (Node n x)) := by
  unfold impl_Graph_isNode.f
  rw [w64 (by omega) (by omega), impl_In]
  rfl
theorem spec_edges {n : Int} (hn : 1 ≤ n ∧ n ≤ 10) {t : List S67} (h : t.length ≤ 1048576) {k : Nat} (hk : t.length * 2 < k) : ∃ b, spec_GraphOk.l0 k 0 n t = some b ∧ (b = true ↔ ∀ j, j < t.length → Eat n t j) := by
  have x := all_loopc 1 (F := fun k i => spec_GraphOk.l0 k i n t) (n := t.length) (P := Eat n t) (e := true) ?_ ?_ t.length k 0 (by omega) hk (fun j hj => by omega)
  · obtain ⟨b, h1, h2⟩ := x
    exact ⟨b, h1, by simpa using h2⟩
  · intro k i hi hp
    simp only [spec_GraphOk.l0]
    rw [if_pos (by omega), if_pos (by omega), spec_Node hn, spec_Node hn, spec_In]
    simp only [Option.bind_some, decide_eq_true_eq]
    by_cases c1 : Node n (rd_T67 t i).f0
    · rw [if_pos c1]
      by_cases c2 : Node n (rd_T67 t i).f1
      · rw [if_pos c2]
        by_cases c3 : (rd_T67 t i).f0 = (rd_T67 t i).f1
        · rw [if_pos c3]
          simp only [spec_GraphOk.j2]
          exact .inr ⟨fun h => h.2.2.1 c3, rfl⟩
        · rw [if_neg c3]
          simp only [spec_GraphOk.j2]
          by_cases c4 : 1 ≤ (rd_T67 t i).f2 ∧ (rd_T67 t i).f2 ≤ 1000
          · rw [decide_eq_true c4, if_neg (by decide)]
            by_cases c5 : i = 0
            · subst c5
              rw [if_neg (by omega), w64 (by omega) (by omega)]
              exact .inl ⟨⟨c1, c2, c3, c4, fun h => by omega⟩, rfl⟩
            · rw [if_pos (by omega), w64 (n := (i : Int) - 1) (by omega) (by omega), if_pos (by omega), if_pos (by omega), w64 (n := (i : Int) + 1) (by omega) (by omega)]
              by_cases c6 : (rd_T67 t ((i : Int) - 1)).f0 > (rd_T67 t i).f0
              · rw [if_pos c6]
                refine .inr ⟨fun h => ?_, rfl⟩
                have := h.2.2.2.2 (by omega)
                unfold EAhead at this; omega
              · rw [if_neg c6]
                by_cases c7 : (rd_T67 t ((i : Int) - 1)).f0 = (rd_T67 t i).f0
                · rw [if_pos c7]
                  by_cases c8 : (rd_T67 t ((i : Int) - 1)).f1 ≥ (rd_T67 t i).f1
                  · rw [if_pos c8]
                    refine .inr ⟨fun h => ?_, rfl⟩
                    have := h.2.2.2.2 (by omega)
                    unfold EAhead at this; omega
                  · rw [if_neg c8]
                    exact .inl ⟨⟨c1, c2, c3, c4, fun _ => .inr ⟨c7, by omega⟩⟩, rfl⟩
                · rw [if_neg c7]
                  exact .inl ⟨⟨c1, c2, c3, c4, fun _ => .inl (by omega)⟩, rfl⟩
          · rw [decide_eq_false c4]
            exact .inr ⟨fun h => c4 h.2.2.2.1, rfl⟩
      · rw [if_neg c2]
        simp only [spec_GraphOk.j2]
        exact .inr ⟨fun h => c2 h.2.1, rfl⟩
    · rw [if_neg c1]
      simp only [spec_GraphOk.j2]
      exact .inr ⟨fun h => c1 h.1, rfl⟩
  · intro k _
    simp only [spec_GraphOk.l0]
    rw [if_neg (by omega)]
theorem spec_Gok (n : Int) {t : List S67} (h : t.length ≤ 1048576) {k : Nat} (hk : t.length * 2 + 1 < k) : ∃ b, spec_GraphOk.f k n t = some b ∧ (b = true ↔ Gok n t) := by
  obtain ⟨k, rfl⟩ : ∃ m, k = m + 1 := ⟨k - 1, by omega⟩
  unfold spec_GraphOk.f Gok
  rw [spec_In]
  simp only [Option.bind_some, decide_eq_true_eq, spec_GraphOk.j0]
  by_cases hn : 1 ≤ n ∧ n ≤ 10
  · rw [if_pos hn]
    by_cases hl : (t.length : Int) > 60
    · refine ⟨false, by rw [if_pos hl], ⟨(fun h => by cases h), fun h => by omega⟩⟩
    · obtain ⟨b, h1, h2⟩ := spec_edges hn h (k := k) (by omega)
      exact ⟨b, by rw [if_neg hl, h1], by rw [h2]; exact ⟨fun x => ⟨hn, by omega, x⟩, fun x => x.2.2⟩⟩
  · rw [if_neg hn]
    exact ⟨false, rfl, ⟨(fun h => by cases h), fun h => absurd h.1 hn⟩⟩
theorem impl_CompareE {n : Int} {a b : S67} (hn : 1 ≤ n ∧ n ≤ 10) (h1 : Node n a.f0) (h2 : Node n a.f1) (h3 : Node n b.f0) (h4 : Node n b.f1) : ∃ c, impl_compareEdges.f a.f0 a.f1 a.f2 b.f0 b.f1 b.f2 = some c ∧ (¬ c ≥ 0 ↔ EAhead a b) := by
  unfold Node at h1 h2 h3 h4
  unfold impl_compareEdges.f EAhead
  by_cases h : a.f0 = b.f0
  · refine ⟨a.f1 - b.f1, by rw [if_pos h, w64 (by omega) (by omega)], by omega⟩
  · refine ⟨a.f0 - b.f0, by rw [if_neg h, w64 (by omega) (by omega)], by omega⟩
theorem impl_edges {n : Int} (hn : 1 ≤ n ∧ n ≤ 10) {t : List S67} (h : t.length ≤ 1048576) {k : Nat} (hk : t.length < k) : ∃ b, impl_GraphOk.l0 k t t.length 0 n t = some b ∧ (b = true ↔ ∀ j, j < t.length → Eat n t j) := by
  have x := all_loop (F := fun k i => impl_GraphOk.l0 k t t.length i n t) (n := t.length) (P := Eat n t) (e := true) ?_ ?_ t.length k 0 (by omega) hk (fun j hj => by omega)
  · obtain ⟨b, h1, h2⟩ := x
    exact ⟨b, h1, by simpa using h2⟩
  · intro k i hi hp
    simp only [impl_GraphOk.l0]
    rw [if_pos (by omega), if_pos (by omega), if_pos (by omega), impl_Node hn, impl_Node hn, impl_In]
    simp only [Option.bind_some, decide_eq_true_eq]
    by_cases c1 : Node n (rd_T67 t i).f0
    · rw [if_pos c1]
      by_cases c2 : Node n (rd_T67 t i).f1
      · rw [if_pos c2]
        by_cases c3 : (rd_T67 t i).f0 = (rd_T67 t i).f1
        · rw [if_pos c3]
          exact .inr ⟨fun h => h.2.2.1 c3, rfl⟩
        · rw [if_neg c3]
          by_cases c4 : 1 ≤ (rd_T67 t i).f2 ∧ (rd_T67 t i).f2 ≤ 1000
          · rw [if_pos c4]
            by_cases c5 : i = 0
            · subst c5
              rw [if_neg (by omega), w64 (by omega) (by omega)]
              exact .inl ⟨⟨c1, c2, c3, c4, fun h => by omega⟩, rfl⟩
            · rw [if_pos (by omega), w64 (n := (i : Int) - 1) (by omega) (by omega), if_pos (by omega), if_pos (by omega)]
              have e1 : (((i - 1 : Nat) : Int)) = (i : Int) - 1 := by omega
              have pv := hp (i - 1) (by omega)
              unfold Eat at pv
              rw [e1] at pv
              obtain ⟨b, hb, hb2⟩ := impl_CompareE hn pv.1 pv.2.1 c1 c2
              rw [hb]
              simp only [Option.bind_some]
              by_cases c6 : b ≥ 0
              · rw [if_pos c6]
                exact .inr ⟨fun h => hb2.2 (h.2.2.2.2 (by omega)) c6, rfl⟩
              · rw [if_neg c6, w64 (by omega) (by omega)]
                exact .inl ⟨⟨c1, c2, c3, c4, fun _ => hb2.1 c6⟩, rfl⟩
          · rw [if_neg c4]
            exact .inr ⟨fun h => c4 h.2.2.2.1, rfl⟩
      · rw [if_neg c2]
        exact .inr ⟨fun h => c2 h.2.1, rfl⟩
    · rw [if_neg c1]
      exact .inr ⟨fun h => c1 h.1, rfl⟩
  · intro k _
    simp only [impl_GraphOk.l0]
    rw [if_neg (by omega)]
theorem impl_Gok (n : Int) {t : List S67} (h : t.length ≤ 1048576) {k : Nat} (hk : t.length + 1 < k) : ∃ b, impl_GraphOk.f k n t = some b ∧ (b = true ↔ Gok n t) := by
  obtain ⟨k, rfl⟩ : ∃ m, k = m + 1 := ⟨k - 1, by omega⟩
  unfold impl_GraphOk.f Gok
  rw [impl_In]
  simp only [Option.bind_some, decide_eq_true_eq, impl_GraphOk.j0]
  by_cases hn : 1 ≤ n ∧ n ≤ 10
  · rw [if_pos hn]
    by_cases hl : (t.length : Int) > 60
    · refine ⟨false, by rw [if_pos hl], ⟨(fun h => by cases h), fun h => by omega⟩⟩
    · obtain ⟨b, h1, h2⟩ := impl_edges hn h (k := k) (by omega)
      exact ⟨b, by rw [if_neg hl, h1], by rw [h2]; exact ⟨fun x => ⟨hn, by omega, x⟩, fun x => x.2.2⟩⟩
  · rw [if_neg hn]
    exact ⟨false, rfl, ⟨(fun h => by cases h), fun h => absurd h.1 hn⟩⟩
/-- Both ask the same of a graph. -/
theorem both_Gok (n : Int) {t : List S67} (h : t.length ≤ 1048576) {k : Nat} (hk : t.length * 2 + 1 < k) : ∃ b, spec_GraphOk.f k n t = some b ∧ impl_GraphOk.f k n t = some b ∧ (b = true ↔ Gok n t) := by
  obtain ⟨b1, s1, s2⟩ := spec_Gok n h hk
  obtain ⟨b2, i1, i2⟩ := impl_Gok n h (k := k) (by omega)
  have e : b2 = b1 := by rw [Bool.eq_iff_iff, i2, s2]
  exact ⟨b1, s1, by rw [i1, e], s2⟩
/-- The cost of the edge from x to y, far where there is none. -/
def ecost : List S67 → Int → Int → Int
  | [], _, _ => 1000000
  | e :: t, x, y => if e.f0 = x then (if e.f1 = y then e.f2 else ecost t x y) else ecost t x y
def gcost (n : Int) (t : List S67) (x y : Int) : Int := if Node n x ∧ Node n y then (if x = y then 0 else ecost t x y) else 1000000
theorem rdE_get (t : List S67) (i : Nat) : rd_T67 t i = t.getD i z67 := by simp [rd_T67]
theorem Gok.mem {n : Int} {t : List S67} (h : Gok n t) {e : S67} (he : e ∈ t) : Node n e.f0 ∧ Node n e.f1 ∧ e.f0 ≠ e.f1 ∧ 1 ≤ e.f2 ∧ e.f2 ≤ 1000 := by
  obtain ⟨i, hi, rfl⟩ := List.getElem_of_mem he
  have x := h.2.2 i hi
  have e1 : rd_T67 t i = t[i] := by rw [rdE_get, List.getD_eq_getElem?_getD, List.getElem?_eq_getElem hi]; rfl
  unfold Eat at x
  rw [e1] at x
  exact ⟨x.1, x.2.1, x.2.2.1, x.2.2.2.1.1, x.2.2.2.1.2⟩
theorem ecost_mem {t : List S67} {x y : Int} (h : ecost t x y ≠ 1000000) : ∃ e ∈ t, e.f0 = x ∧ e.f1 = y ∧ ecost t x y = e.f2 := by
  induction t with
  | nil => exact absurd rfl h
  | cons e t ih =>
    simp only [ecost] at h ⊢
    by_cases h1 : e.f0 = x
    · by_cases h2 : e.f1 = y
      · rw [if_pos h1, if_pos h2]
        exact ⟨e, List.mem_cons_self, h1, h2, rfl⟩
      · rw [if_pos h1, if_neg h2] at h ⊢
        obtain ⟨e', m, r⟩ := ih h
        exact ⟨e', List.mem_cons_of_mem _ m, r⟩
    · rw [if_neg h1] at h ⊢
      obtain ⟨e', m, r⟩ := ih h
      exact ⟨e', List.mem_cons_of_mem _ m, r⟩
theorem ecost_far {n : Int} {t : List S67} (h : Gok n t) {x y : Int} (hxy : ¬ (Node n x ∧ Node n y ∧ x ≠ y)) : ecost t x y = 1000000 := by
  by_cases c : ecost t x y = 1000000
  · exact c
  · obtain ⟨e, m, h1, h2, _⟩ := ecost_mem c
    have g := h.mem m
    rw [h1, h2] at g
    exact absurd ⟨g.1, g.2.1, g.2.2.1⟩ hxy
theorem gcost_lim {n : Int} {t : List S67} (h : Gok n t) (x y : Int) : gcost n t x y = 1000000 ∨ (0 ≤ gcost n t x y ∧ gcost n t x y ≤ 1000) := by
  unfold gcost
  by_cases c : Node n x ∧ Node n y
  · rw [if_pos c]
    by_cases c2 : x = y
    · rw [if_pos c2]; exact .inr ⟨by omega, by omega⟩
    · rw [if_neg c2]
      by_cases c3 : ecost t x y = 1000000
      · exact .inl c3
      · obtain ⟨e, m, _, _, h3⟩ := ecost_mem c3
        have g := h.mem m
        rw [h3]
        exact .inr ⟨by omega, by omega⟩
  · rw [if_neg c]; exact .inl rfl
theorem spec_Cost {n : Int} (hn : 1 ≤ n ∧ n ≤ 10) {t : List S67} (h : t.length ≤ 1048576) (x y : Int) {k : Nat} (hk : t.length + 1 < k) : spec_l03Cost.f k n t x y = some (gcost n t x y) := by
  obtain ⟨k, rfl⟩ : ∃ m, k = m + 1 := ⟨k - 1, by omega⟩
  unfold spec_l03Cost.f gcost
  rw [spec_Node hn, spec_Node hn]
  simp only [Option.bind_some, decide_eq_true_eq, spec_l03Cost.j0]
  by_cases c1 : Node n x
  · by_cases c2 : Node n y
    · rw [if_pos c1, decide_eq_true c2, if_neg (by decide), if_pos (⟨c1, c2⟩ : Node n x ∧ Node n y)]
      by_cases c3 : x = y
      · rw [if_pos c3, if_pos c3]
      · rw [if_neg c3, if_neg c3]
        have z := find_loop (F := fun k i => spec_l03Cost.l0 k x y i n t) (h := fun l => ecost l x y) t ?_ ?_ t.length k 0 (by omega) (by omega)
        · exact z
        · intro k i hi
          simp only [spec_l03Cost.l0]
          rw [if_pos (by omega), if_pos (by omega), w64 (by omega) (by omega), drop_getD t z67 hi, ← rdE_get]
          simp only [ecost]
          by_cases d1 : (rd_T67 t i).f0 = x
          · by_cases d2 : (rd_T67 t i).f1 = y
            · rw [if_pos d1, if_pos d2, if_pos d1, if_pos d2]; exact .inr rfl
            · rw [if_pos d1, if_neg d2, if_pos d1, if_neg d2]; exact .inl ⟨rfl, rfl⟩
          · rw [if_neg d1, if_neg d1]; exact .inl ⟨rfl, rfl⟩
        · intro k
          simp only [spec_l03Cost.l0]
          rw [if_neg (by omega)]; rfl
    · rw [if_pos c1, decide_eq_false c2, if_pos (by decide), if_neg (c := Node n x ∧ Node n y) (fun z => c2 z.2)]
  · rw [if_neg c1, if_pos trivial, if_neg (c := Node n x ∧ Node n y) (fun z => c1 z.1)]
theorem impl_Cost {n : Int} {t : List S67} (g : Gok n t) (x y : Int) {k : Nat} (hk : t.length + 1 < k) : impl_Graph_cost.f k n t x y = some (gcost n t x y) := by
  obtain ⟨k, rfl⟩ : ∃ m, k = m + 1 := ⟨k - 1, by omega⟩
  have hl : t.length ≤ 60 := g.2.1
  have z : impl_Graph_cost.l0 k x y t t.length 0 = some (ecost t x y) := by
    have z := find_loop (F := fun k i => impl_Graph_cost.l0 k x y t t.length i) (h := fun l => ecost l x y) t ?_ ?_ t.length k 0 (by omega) (by omega)
    · exact z
    · intro k i hi
      simp only [impl_Graph_cost.l0]
      rw [if_pos (by omega), if_pos (by omega), if_pos (by omega), w64 (by omega) (by omega), drop_getD t z67 hi, ← rdE_get]
      simp only [ecost]
      by_cases d1 : (rd_T67 t i).f0 = x
      · by_cases d2 : (rd_T67 t i).f1 = y
        · rw [if_pos d1, if_pos d2, if_pos d1, if_pos d2]; exact .inr rfl
        · rw [if_pos d1, if_neg d2, if_pos d1, if_neg d2]; exact .inl ⟨rfl, rfl⟩
      · rw [if_neg d1, if_neg d1]; exact .inl ⟨rfl, rfl⟩
    · intro k
      simp only [impl_Graph_cost.l0]
      rw [if_neg (by omega)]; rfl
  unfold impl_Graph_cost.f gcost
  simp only [impl_Graph_cost.j0]
  by_cases c : x = y
  · subst c
    rw [if_pos rfl, impl_Node g.1]
    simp only [Option.bind_some, decide_eq_true_eq]
    by_cases c1 : Node n x
    · rw [if_pos c1, if_pos ⟨c1, c1⟩]; simp
    · rw [if_neg c1, if_neg (fun z => c1 z.1), z, ecost_far g (fun h => h.2.2 rfl)]
  · rw [if_neg c, if_neg (by decide), z]
    by_cases c1 : Node n x ∧ Node n y
    · rw [if_pos c1, if_neg c]
    · rw [if_neg c1, ecost_far g (fun h => c1 ⟨h.1, h.2.1⟩)]
theorem rd_getE {x : List S67} {j : Nat} : rd_T67 x j = x.getD j z67 := by
  unfold rd_T67
  rw [Int.toNat_natCast]
theorem rdE_set {x : List S67} {i j : Nat} (v : S67) (hi : i < x.length) : rd_T67 (x.set i v) j = if i = j then v else rd_T67 x j := by
  rw [rd_getE, rd_getE, List.getD_eq_getElem?_getD, List.getD_eq_getElem?_getD, List.getElem?_set]
  by_cases c : i = j
  · subst c; simp [hi]
  · simp [c]
theorem mark_EdgeS2 (a : Int) (h0 : 0 ≤ a) (ha : a ≤ 10485760) {l : List S67} {k : Nat} (h : l.length ≤ 1048576) (hk : l.length < k) :
    ∃ M, laws_markEdgeS.f k l a = some (a + 3 * l.length, M) ∧ M.length = l.length ∧ ∀ j : Nat, j < l.length → rd_T67 M j = (⟨a + 3 * (j : Int), a + 3 * (j : Int) + 1, a + 3 * (j : Int) + 1 + 1⟩ : S67) := by
  have key : ∀ (d k i : Nat) (x : List S67), i + d = x.length → d < k → x.length ≤ 1048576 → (∀ j : Nat, j < i → rd_T67 x j = (⟨a + 3 * (j : Int), a + 3 * (j : Int) + 1, a + 3 * (j : Int) + 1 + 1⟩ : S67)) →
      ∃ M, laws_markEdgeS.l0 k x (a + 3 * i) i = some (a + 3 * x.length, M) ∧ M.length = x.length ∧ ∀ j : Nat, j < x.length → rd_T67 M j = (⟨a + 3 * (j : Int), a + 3 * (j : Int) + 1, a + 3 * (j : Int) + 1 + 1⟩ : S67) := by
    intro d
    induction d with
    | zero =>
      intro k i x hi hk hx hj
      obtain ⟨k, rfl⟩ : ∃ m, k = m + 1 := ⟨k - 1, by omega⟩
      obtain rfl : i = x.length := by omega
      simp only [laws_markEdgeS.l0]
      rw [if_neg (by omega)]
      exact ⟨x, rfl, rfl, hj⟩
    | succ d ih =>
      intro k i x hi hk hx hj
      obtain ⟨k, rfl⟩ : ∃ m, k = m + 1 := ⟨k - 1, by omega⟩
      have hil : i < x.length := by omega
      have hfin : ∃ M, laws_markEdgeS.l0 k (x.set i (⟨a + 3 * (i : Int), a + 3 * (i : Int) + 1, a + 3 * (i : Int) + 1 + 1⟩ : S67)) (a + 3 * ((i + 1 : Nat) : Int)) ((i + 1 : Nat) : Int) = some (a + 3 * x.length, M) ∧ M.length = x.length ∧ ∀ j : Nat, j < x.length → rd_T67 M j = (⟨a + 3 * (j : Int), a + 3 * (j : Int) + 1, a + 3 * (j : Int) + 1 + 1⟩ : S67) := by
        have z := ih k (i + 1) (x.set i (⟨a + 3 * (i : Int), a + 3 * (i : Int) + 1, a + 3 * (i : Int) + 1 + 1⟩ : S67)) (by rw [List.length_set]; omega) (by omega) (by rw [List.length_set]; exact hx) (fun j hj2 => by
          rw [rdE_set _ hil]
          by_cases c : i = j
          · subst c; rw [if_pos rfl]
          · rw [if_neg c]; exact hj j (by omega))
        rw [List.length_set] at z; exact z
      simp only [laws_markEdgeS.l0, Option.bind_some]
      rw [if_pos (by omega), if_pos (by omega)]
      simp only [Int.toNat_natCast, List.set_set, rdE_set _ hil, if_true]
      have w1 : wrap64 (a + 3 * (i : Int) + 1) = a + 3 * (i : Int) + 1 := w64 (by omega) (by omega)
      have w2' : wrap64 (a + 3 * (i : Int) + 1 + 1) = a + 3 * (i : Int) + 1 + 1 := w64 (by omega) (by omega)
      have w3 : wrap64 (a + 3 * (i : Int) + 1 + 1 + 1) = a + 3 * ((i + 1 : Nat) : Int) := by rw [w64 (by omega) (by omega)]; omega
      have w4 : wrap64 ((i : Int) + 1) = ((i + 1 : Nat) : Int) := by rw [w64 (by omega) (by omega)]; omega
      rw [w1, w2', w3, w4]
      exact hfin
  have z := key l.length k 0 l (by omega) hk h (fun j hj => by omega)
  have e : a + 3 * ((0 : Nat) : Int) = a := by omega
  rw [e] at z
  exact z
theorem held_EdgeS2 (a : Int) (h0 : 0 ≤ a) (ha : a ≤ 10485760) {M : List S67} {k : Nat} (h : M.length ≤ 1048576) (hk : M.length < k) (hM : ∀ j : Nat, j < M.length → rd_T67 M j = (⟨a + 3 * (j : Int), a + 3 * (j : Int) + 1, a + 3 * (j : Int) + 1 + 1⟩ : S67)) : laws_heldEdgeS.f k M a = some (a + 3 * M.length) := by
  have key : ∀ (d k i : Nat), i + d = M.length → d < k → laws_heldEdgeS.l0 k M (a + 3 * i) i = some (a + 3 * M.length) := by
    intro d
    induction d with
    | zero =>
      intro k i hi hk
      obtain ⟨k, rfl⟩ : ∃ m, k = m + 1 := ⟨k - 1, by omega⟩
      obtain rfl : i = M.length := by omega
      simp only [laws_heldEdgeS.l0]
      rw [if_neg (by omega)]
    | succ d ih =>
      intro k i hi hk
      obtain ⟨k, rfl⟩ : ∃ m, k = m + 1 := ⟨k - 1, by omega⟩
      have z := ih k (i + 1) (by omega) (by omega)
      have w1 : wrap64 (a + 3 * (i : Int) + 1) = a + 3 * (i : Int) + 1 := w64 (by omega) (by omega)
      have w2' : wrap64 (a + 3 * (i : Int) + 1 + 1) = a + 3 * (i : Int) + 1 + 1 := w64 (by omega) (by omega)
      have w3 : wrap64 (a + 3 * (i : Int) + 1 + 1 + 1) = a + 3 * ((i + 1 : Nat) : Int) := by rw [w64 (by omega) (by omega)]; omega
      have w4 : wrap64 ((i : Int) + 1) = ((i + 1 : Nat) : Int) := by rw [w64 (by omega) (by omega)]; omega
      have c1 : (i : Int) < (M.length : Int) := by clear w1 w2' w3 w4 z; omega
      have c2 : (0 : Int) ≤ (i : Int) := by clear w1 w2' w3 w4 z; omega
      simp only [laws_heldEdgeS.l0]
      rw [if_pos c1, if_pos c2, hM i (by clear w1 w2' w3 w4 z; omega), w1, if_pos rfl, if_pos rfl, w2', if_pos rfl, w3, w4]
      exact z
  have z := key M.length k 0 (by omega) hk
  have e : a + 3 * ((0 : Nat) : Int) = a := by omega
  rw [e] at z
  exact z
theorem mark_Graph2 (n a : Int) (h0 : 0 ≤ a) (ha : a ≤ 10485760) {l : List S67} {k : Nat} (h : l.length ≤ 1048576) (hk : l.length < k) :
    ∃ M, laws_markGraph.f k n l a = some (a + 3 * l.length, M) ∧ ∀ k' : Nat, l.length < k' → laws_heldGraph.f k' n M a = some (a + 3 * l.length) := by
  obtain ⟨M, h1, h2, h3⟩ := mark_EdgeS2 a h0 ha h hk
  refine ⟨M, ?_, fun k' hk' => ?_⟩
  · unfold laws_markGraph.f
    rw [h1]; rfl
  · unfold laws_heldGraph.f
    rw [held_EdgeS2 a h0 ha (M := M) (k := k') (by omega) (by omega) (by rw [h2]; exact h3), h2]
    simp only [Option.bind_some]
    rw [if_neg (by omega)]
/-- slices.IndexFunc: the first place at which p holds. -/
theorem index_loop {α : Type} {F : Nat → Int → Option Int} {p : α → Bool} (z : α) (x : List α) (m : Nat)
    (hs : ∀ (k i : Nat), m ≤ k → i < x.length → F (k + 1) i = if p (x.getD i z) = true then some (i : Int) else F k ((i : Int) + 1))
    (he : ∀ k : Nat, F (k + 1) (x.length : Int) = some (-1)) : ∀ (d k i : Nat), i + d = x.length → d + m < k →
    (F k i = some (-1) ∧ ∀ q, i ≤ q → q < x.length → p (x.getD q z) = false) ∨ (∃ j : Nat, F k i = some (j : Int) ∧ i ≤ j ∧ j < x.length ∧ p (x.getD j z) = true ∧ ∀ q, i ≤ q → q < j → p (x.getD q z) = false) := by
  intro d
  induction d with
  | zero =>
    intro k i hi hk
    obtain ⟨k, rfl⟩ : ∃ m, k = m + 1 := ⟨k - 1, by omega⟩
    obtain rfl : i = x.length := by omega
    exact .inl ⟨he k, fun q h1 h2 => by omega⟩
  | succ d ih =>
    intro k i hi hk
    obtain ⟨k, rfl⟩ : ∃ m, k = m + 1 := ⟨k - 1, by omega⟩
    rw [hs k i (by omega) (by omega)]
    by_cases c : p (x.getD i z) = true
    · exact .inr ⟨i, by rw [if_pos c], Nat.le_refl _, by omega, c, fun q h1 h2 => by omega⟩
    · have c' : p (x.getD i z) = false := by simpa using c
      have e1 : (i : Int) + 1 = ((i + 1 : Nat) : Int) := by omega
      rw [if_neg c, e1]
      have hq : ∀ q, i ≤ q → ¬ i + 1 ≤ q → p (x.getD q z) = false := fun q h1 h2 => by
        have : q = i := by omega
        rw [this]; exact c'
      rcases ih k (i + 1) (by omega) (by omega) with ⟨h1, h2⟩ | ⟨j, h1, h2, h3, h4, h5⟩
      · exact .inl ⟨h1, fun q q1 q2 => if c3 : i + 1 ≤ q then h2 q c3 q2 else hq q q1 c3⟩
      · exact .inr ⟨j, h1, by omega, h3, h4, fun q q1 q2 => if c3 : i + 1 ≤ q then h5 q c3 q2 else hq q q1 c3⟩
theorem drop_cons' {α : Type} (x : List α) (z : α) {j : Nat} (hj : j < x.length) : x.drop j = x.getD j z :: x.drop (j + 1) := by
  rw [List.drop_eq_getElem_cons hj, List.getD_eq_getElem?_getD, List.getElem?_eq_getElem hj]
  rfl
theorem take_snoc' {α : Type} (x : List α) (z : α) {j : Nat} (hj : j < x.length) : x.take (j + 1) = x.take j ++ [x.getD j z] := by
  rw [List.take_succ_eq_append_getElem hj, List.getD_eq_getElem?_getD, List.getElem?_eq_getElem hj]
  rfl
/-- slices.DeleteFunc's loop: what does not satisfy p moves to the front. -/
theorem del_loop {α : Type} {F : Nat → List α → Int → Int → Option (List α)} {p : α → Bool} (z : α) (n m : Nat)
    (hs : ∀ (k : Nat) (x : List α) (i j : Nat), m ≤ k → i < j → j < x.length → x.length = n → F (k + 1) x i j = if p (x.getD j z) = true then F k x i ((j : Int) + 1) else F k (x.set i (x.getD j z)) ((i : Int) + 1) ((j : Int) + 1))
    (he : ∀ (k : Nat) (x : List α) (i : Nat), i < n → x.length = n → F (k + 1) x i (n : Int) = some (x.take i)) : ∀ (d k : Nat) (x : List α) (i j : Nat), j + d = n → i < j → x.length = n → d + m < k →
    F k x i j = some (x.take i ++ (x.drop j).filter (fun y => !p y)) := by
  intro d
  induction d with
  | zero =>
    intro k x i j hj hi hx hk
    obtain ⟨k, rfl⟩ : ∃ m, k = m + 1 := ⟨k - 1, by omega⟩
    obtain rfl : j = n := by omega
    rw [he k x i (by omega) hx, List.drop_eq_nil_of_le (by omega)]
    simp
  | succ d ih =>
    intro k x i j hj hi hx hk
    obtain ⟨k, rfl⟩ : ∃ m, k = m + 1 := ⟨k - 1, by omega⟩
    have hjx : j < x.length := by omega
    have hix : i < x.length := by omega
    have e1 : (j : Int) + 1 = ((j + 1 : Nat) : Int) := by omega
    have e2 : (i : Int) + 1 = ((i + 1 : Nat) : Int) := by omega
    rw [hs k x i j (by omega) hi hjx hx, e1, e2, drop_cons' x z hjx, List.filter_cons]
    by_cases c : p (x.getD j z) = true
    · rw [if_pos c, ih k x i (j + 1) (by omega) (by omega) hx (by omega), c]
      simp
    · have c' : p (x.getD j z) = false := by simpa using c
      rw [if_neg c, ih k (x.set i (x.getD j z)) (i + 1) (j + 1) (by omega) (by omega) (by rw [List.length_set]; exact hx) (by omega), c']
      have hset : i < (x.set i (x.getD j z)).length := by rw [List.length_set]; exact hix
      rw [take_snoc' _ z hset, List.drop_set_of_lt (by omega), List.take_set_of_le (Nat.le_refl _), List.getD_eq_getElem?_getD, List.getElem?_set, if_pos rfl, if_pos hix]
      simp
/-- The first place, and the rest filtered: the whole filtered. -/
theorem filter_at {α : Type} {p : α → Bool} (z : α) (x : List α) {j : Nat} (hj : j < x.length) (hp : p (x.getD j z) = true) (h : ∀ q, q < j → p (x.getD q z) = false) : x.take j ++ (x.drop (j + 1)).filter (fun y => !p y) = x.filter (fun y => !p y) := by
  have e1 : (x.take j).filter (fun y => !p y) = x.take j := by
    rw [List.filter_eq_self]
    intro y hy
    obtain ⟨q, hq, rfl⟩ := List.mem_iff_getElem.1 hy
    have hq2 : q < j := by rw [List.length_take] at hq; omega
    have := h q hq2
    rw [List.getD_eq_getElem?_getD, List.getElem?_eq_getElem (by omega)] at this
    rw [List.getElem_take]
    simpa using this
  have e2 : x = x.take j ++ (x.getD j z :: x.drop (j + 1)) := by
    rw [← drop_cons' x z hj, List.take_append_drop]
  have e3 : x.filter (fun y => !p y) = (x.take j).filter (fun y => !p y) ++ (x.getD j z :: x.drop (j + 1)).filter (fun y => !p y) := by
    rw [← List.filter_append, ← e2]
  rw [e3, e1, List.filter_cons, hp]
  simp
theorem filter_none {α : Type} {p : α → Bool} (z : α) (x : List α) (h : ∀ q, q < x.length → p (x.getD q z) = false) : x.filter (fun y => !p y) = x := by
  rw [List.filter_eq_self]
  intro y hy
  obtain ⟨q, hq, rfl⟩ := List.mem_iff_getElem.1 hy
  have := h q hq
  rw [List.getD_eq_getElem?_getD, List.getElem?_eq_getElem hq] at this
  simpa using this
/-- A loop that appends what satisfies q. -/
theorem keep_loop {α γ : Type} {F : Nat → Int → List α → Option γ} {q : α → Bool} (z : α) (x : List α) {N : Nat} {G : List α → Option γ} (m : Nat)
    (hs : ∀ (k i : Nat) (acc : List α), m ≤ k → i < x.length → acc.length ≤ i → F (k + 1) i acc = F k ((i : Int) + 1) (if q (x.getD i z) = true then acc ++ [x.getD i z] else acc))
    (he : ∀ (k : Nat) (acc : List α), m ≤ k → acc.length ≤ x.length → F (k + 1) (x.length : Int) acc = G acc) : ∀ (d k i : Nat) (acc : List α), i + d = x.length → acc.length ≤ i → d + m < k → F k i acc = G (acc ++ (x.drop i).filter q) := by
  intro d
  induction d with
  | zero =>
    intro k i acc hi ha hk
    obtain ⟨k, rfl⟩ : ∃ m, k = m + 1 := ⟨k - 1, by omega⟩
    obtain rfl : i = x.length := by omega
    rw [he k acc (by omega) ha, List.drop_eq_nil_of_le (Nat.le_refl _)]
    simp
  | succ d ih =>
    intro k i acc hi ha hk
    obtain ⟨k, rfl⟩ : ∃ m, k = m + 1 := ⟨k - 1, by omega⟩
    have e1 : (i : Int) + 1 = ((i + 1 : Nat) : Int) := by omega
    have hix : i < x.length := by omega
    rw [hs k i acc (by omega) hix ha, e1, drop_cons' x z hix, List.filter_cons]
    by_cases c : q (x.getD i z) = true
    · rw [if_pos c, if_pos c, ih k (i + 1) _ (by omega) (by rw [List.length_append]; simp only [List.length_cons, List.length_nil]; omega) (by omega)]
      simp
    · rw [if_neg c, if_neg c, ih k (i + 1) _ (by omega) (by omega) (by omega)]
/-- A loop that appends a list's elements to another list, one by one. -/
theorem snoc_loop {α γ : Type} {F : Nat → Int → List α → Option γ} (z : α) (x : List α) {N : Nat} (hN : x.length ≤ N) {r : Option γ} (m : Nat)
    (hs : ∀ (k i : Nat) (acc : List α), i < x.length → acc.length ≤ N → F (k + 1) i acc = F k ((i : Int) + 1) (acc ++ [x.getD i z]))
    (he : ∀ k : Nat, m ≤ k → F (k + 1) (x.length : Int) x = r) : ∀ (d k i : Nat), i + d = x.length → d + m < k → F k i (x.take i) = r := by
  intro d
  induction d with
  | zero =>
    intro k i hi hk
    obtain ⟨k, rfl⟩ : ∃ m, k = m + 1 := ⟨k - 1, by omega⟩
    obtain rfl : i = x.length := by omega
    rw [List.take_of_length_le (by omega)]
    exact he k (by omega)
  | succ d ih =>
    intro k i hi hk
    obtain ⟨k, rfl⟩ : ∃ m, k = m + 1 := ⟨k - 1, by omega⟩
    have e1 : (i : Int) + 1 = ((i + 1 : Nat) : Int) := by omega
    have hx : i < x.length := by omega
    have e2 : x.take i ++ [x.getD i z] = x.take (i + 1) := by
      rw [List.take_succ_eq_append_getElem hx]
      simp [List.getD_eq_getElem?_getD, hx]
    rw [hs k i _ hx (by rw [List.length_take]; omega), e1, e2]
    exact ih k (i + 1) (by omega) (by omega)
theorem both_GokB (n : Int) {l : List S67} (h : l.length ≤ 1048576) : ∃ g : Bool, ∀ k, l.length * 2 + 1 < k → spec_GraphOk.f k n l = some g ∧ impl_GraphOk.f k n l = some g := by
  by_cases c : Gok n l
  · refine ⟨true, fun k hk => ?_⟩
    obtain ⟨b, h1, h2, h3⟩ := both_Gok n h hk
    rw [h1, h2, h3.2 c]
    exact ⟨rfl, rfl⟩
  · refine ⟨false, fun k hk => ?_⟩
    obtain ⟨b, h1, h2, h3⟩ := both_Gok n h hk
    have : b = false := by
      cases b with
      | false => rfl
      | true => exact absurd (h3.1 rfl) c
    rw [h1, h2, this]
    exact ⟨rfl, rfl⟩
def oneway (n : Int) (l : List S67) (e : S67) : Bool := !decide (gcost n l e.f1 e.f0 < 1000000)
theorem impl_oneway {n : Int} {l : List S67} (g : Gok n l) (e : S67) {k : Nat} (hk : l.length + 1 < k) : impl_BothWays_1.f k e.f0 e.f1 e.f2 [(⟨n, l⟩ : S30)] = some (oneway n l e) := by
  unfold impl_BothWays_1.f impl_Graph_isBoth.f oneway
  have r1 : rd_T30 [(⟨n, l⟩ : S30)] 0 = ⟨n, l⟩ := rfl
  have r3 : (0 : Int) < ([(⟨n, l⟩ : S30)] : List S30).length := by simp
  rw [if_pos r3, r1, impl_Cost g _ _ hk]
  rfl
theorem impl_del {n : Int} {l : List S67} (g : Gok n l) {k : Nat} (hk : 2 * l.length + 4 < k) : slices_DeleteFunc_impl_Edge_impl_Edge.f k l [(⟨n, l⟩ : S30)] = some (l.filter (fun e => !oneway n l e)) := by
  have h : l.length ≤ 60 := g.2.1
  have hi := index_loop (F := fun k i => slices_IndexFunc_impl_Edge_impl_Edge.l0 k l (l.length : Int) i [(⟨n, l⟩ : S30)]) (p := oneway n l) z67 l (l.length + 2) (fun k i hm hi => by
    show slices_IndexFunc_impl_Edge_impl_Edge.l0 (k + 1) l (l.length : Int) i [(⟨n, l⟩ : S30)] = _
    simp only [slices_IndexFunc_impl_Edge_impl_Edge.l0]
    rw [if_pos (by omega), if_pos (by omega), if_pos (by omega), impl_oneway g _ (by omega), rd_getE, w64 (by omega) (by omega)]
    simp only [Option.bind_some]) (fun k => by
    show slices_IndexFunc_impl_Edge_impl_Edge.l0 (k + 1) l (l.length : Int) (l.length : Int) [(⟨n, l⟩ : S30)] = _
    simp only [slices_IndexFunc_impl_Edge_impl_Edge.l0]
    rw [if_neg (by omega)]) l.length k 0 (by omega) (by omega)
  unfold slices_DeleteFunc_impl_Edge_impl_Edge.f slices_IndexFunc_impl_Edge_impl_Edge.f
  rcases hi with ⟨h1, h2⟩ | ⟨j, h1, h2, h3, h4, h5⟩
  · have h1' : slices_IndexFunc_impl_Edge_impl_Edge.l0 k l (l.length : Int) 0 [(⟨n, l⟩ : S30)] = some (-1) := h1
    rw [h1', filter_none z67 l (fun q hq => h2 q (Nat.zero_le _) hq)]
    simp only [Option.bind_some, if_true]
  · have h1' : slices_IndexFunc_impl_Edge_impl_Edge.l0 k l (l.length : Int) 0 [(⟨n, l⟩ : S30)] = some (j : Int) := h1
    rw [h1']
    simp only [Option.bind_some]
    rw [if_neg (by omega), w64 (by omega) (by omega), ← filter_at z67 l h3 h4 (fun q hq => h5 q (Nat.zero_le _) hq)]
    have e1 : (j : Int) + 1 = ((j + 1 : Nat) : Int) := by omega
    rw [e1]
    refine del_loop (F := fun k x i j => slices_DeleteFunc_impl_Edge_impl_Edge.l0 k x i j [(⟨n, l⟩ : S30)]) (p := oneway n l) z67 l.length (l.length + 2) (fun k x i j c0 c1 c2 c3 => ?_) (fun k x i c1 c2 => ?_) (l.length - (j + 1)) k l j (j + 1) (by omega) (by omega) rfl (by omega)
    · show slices_DeleteFunc_impl_Edge_impl_Edge.l0 (k + 1) x i j [(⟨n, l⟩ : S30)] = _
      simp only [slices_DeleteFunc_impl_Edge_impl_Edge.l0]
      rw [if_pos (by omega), if_pos (by omega), impl_oneway g _ (by omega), rd_getE, w64 (n := (j : Int) + 1) (by omega) (by omega), w64 (n := (i : Int) + 1) (by omega) (by omega)]
      simp only [Option.bind_some]
      rw [if_pos (by omega : (0 : Int) ≤ (i : Int)), if_pos (by omega : (i : Int) < (x.length : Int)), Int.toNat_natCast]
    · show slices_DeleteFunc_impl_Edge_impl_Edge.l0 (k + 1) x i (l.length : Int) [(⟨n, l⟩ : S30)] = _
      simp only [slices_DeleteFunc_impl_Edge_impl_Edge.l0]
      rw [if_neg (by omega), if_pos (by omega), if_pos (by omega), Int.toNat_natCast, List.take_left' (by rw [List.length_take]; omega)]
theorem both_BothWays (n : Int) {l : List S67} (h : l.length ≤ 1048576) : ∃ n' r ok, r.length ≤ l.length ∧ ∀ k, 4 * l.length + 8 < k → spec_BothWays.f k n l = some (n', r, ok) ∧ impl_BothWays.f k n l = some (n', r, ok) := by
  obtain ⟨f, hf⟩ : ∃ f, f = l.filter (fun e => !oneway n l e) := ⟨_, rfl⟩
  have hfl : f.length ≤ l.length := by rw [hf]; exact List.length_filter_le _ _
  by_cases c : Gok n l
  · refine ⟨n, f, true, hfl, fun k hk => ?_⟩
    obtain ⟨b, h1, h2, h3⟩ := both_Gok n h (k := k) (by omega)
    have z := keep_loop (F := fun k i acc => spec_BothWays.l0 k i n l n acc) (q := fun e => !oneway n l e) (N := 1048576) (G := fun acc => some (n, acc, true)) z67 l (l.length + 2) (fun k i acc hm hi ha => by
      show spec_BothWays.l0 (k + 1) i n l n acc = spec_BothWays.l0 k ((i : Int) + 1) n l n _
      simp only [spec_BothWays.l0]
      rw [if_pos (by omega), if_pos (by omega), w64 (by omega) (by omega), rd_getE, spec_Cost c.1 h _ _ (by omega), if_pos (by omega : acc.length < 5864062014805)]
      generalize l.getD i z67 = e
      have eta : (⟨e.f0, e.f1, e.f2⟩ : S67) = e := rfl
      rw [eta]
      simp only [Option.bind_some]
      unfold oneway
      by_cases c2 : gcost n l e.f1 e.f0 < 1000000
      · rw [if_pos c2, if_pos (by simp [c2])]
      · rw [if_neg c2, if_neg (by simp [c2])]) (fun k acc hk ha => by
      show spec_BothWays.l0 (k + 1) (l.length : Int) n l n acc = _
      simp only [spec_BothWays.l0]
      rw [if_neg (by omega)]) l.length k 0 [] (by omega) (Nat.zero_le _) (by omega)
    have z' : spec_BothWays.l0 k 0 n l n [] = _ := z
    unfold spec_BothWays.f impl_BothWays.f impl_ownGraph.f slices_Clone_impl_Edge_impl_Edge.f
    rw [h1, h2, h3.2 c, if_pos h]
    simp only [Option.bind_some, if_true]
    rw [z', impl_del c (by omega)]
    simp only [List.drop_zero, List.nil_append, ← hf, Option.bind_some]
    refine ⟨?_, ?_⟩ <;> first | trivial | rfl
  · refine ⟨0, [], false, Nat.zero_le _, fun k hk => ?_⟩
    obtain ⟨b, h1, h2, h3⟩ := both_Gok n h (k := k) (by omega)
    unfold spec_BothWays.f impl_BothWays.f
    rw [h1, h2]
    simp only [Option.bind_some]
    rw [if_neg (fun h => c (h3.1 h)), if_neg (fun h => c (h3.1 h))]
    exact ⟨rfl, rfl⟩
theorem FnExactBothWays : FnExactBothWays.Pure := by
  intro n l _ hw
  have hm : l.length ≤ 9223372036854775807 := hw.1
  obtain ⟨K, hK⟩ : ∃ K, K = l.length * 4 + 20 := ⟨_, rfl⟩
  refine ⟨K + 3, ?_⟩
  unfold laws_FnExactBothWays.f
  rw [sz_Graph n hm]
  simp only [Option.bind_some]
  by_cases hl : l.length ≤ 1048576
  · have hn : (l.map cvE).length = l.length := List.length_map ..
    obtain ⟨n', r, ok, hlen, hr⟩ := both_BothWays n (l := l.map cvE) (by omega)
    have hs := (hr (K + 3) (by omega)).1
    have hi := (hr (K + 3) (by omega)).2
    have hi2 := (hr (K + 1) (by omega)).2
    obtain ⟨M1, m1, _⟩ := mark_Graph2 n 1 (by omega) (by omega) (l := l.map cvE) (k := K + 2) (by omega) (by omega)
    obtain ⟨M2, m2, m3⟩ := mark_Graph2 n' 1 (by omega) (by omega) (l := r) (k := K + 1) (by omega) (by omega)
    rw [if_pos hl, if_neg (by omega), to_Graph n hl (by omega)]
    simp only [Option.bind_some]
    rw [hs]
    simp only [Option.bind_some]
    rw [hi]
    simp only [Option.bind_some]
    rw [eq_Graph n' (by omega) (by omega)]
    simp only [Option.bind_some, if_true, bne_self_eq_false]
    simp only [laws_FnExactBothWays.j0]
    rw [if_neg (by decide), to_Graph n hl (by omega)]
    simp only [Option.bind_some]
    rw [eq_Graph n (by omega) (by omega)]
    simp only [Option.bind_some, if_true]
    rw [m1]
    simp only [Option.bind_some]
    rw [if_neg (by omega), eq_Graph n' (by omega) (by omega)]
    simp only [Option.bind_some, if_true, bne_self_eq_false]
    simp only [laws_FnExactBothWays.j1]
    rw [if_neg (by decide), m2]
    simp only [Option.bind_some]
    rw [m3 (K + 1) (by omega)]
    simp only [Option.bind_some]
    rw [if_neg (by omega), if_pos trivial, to_Graph n hl (by omega)]
    simp only [Option.bind_some]
    rw [hi2]
    simp only [Option.bind_some]
    rw [eq_Graph n' (by omega) (by omega)]
    simp only [Option.bind_some, if_true, bne_self_eq_false]
    simp only [laws_FnExactBothWays.j2]
    rw [if_neg (by decide), m3 K (by omega)]
    simp only [Option.bind_some]
    rw [if_neg (by omega)]
    simp
  · rw [if_neg hl]; rfl

end Go.Proofs.Yteopiggdpadolaa.Pure
