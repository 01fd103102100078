/- The plain law of FnExactTreeOf: the program's answer is the reference's. -/
import Derived.Test.YthmahcohcphljaaStmtFnExactTreeOf
namespace Go.Proofs.Ythmahcohcphljaa.Pure
open Go.RowKit Go.Proofs.Ythmahcohcphljaa.QFnExactTreeOf Go.Proofs.YthmahcohcphljaaV.PrintWords Go.Proofs.YthmahcohcphljaaV.PrintLast Go.Proofs.YthmahcohcphljaaV.PrintMore
set_option linter.unusedVariables false
set_option linter.unusedSimpArgs false

theorem w64 {n : Int} (h0 : -9223372036854775808 ≤ n) (h1 : n ≤ 9223372036854775807) : wrap64 n = n := by unfold wrap64; omega
theorem wr1 {i : Nat} (h : i ≤ 1048576) : wrap64 ((i : Int) + 1) = ((i + 1 : Nat) : Int) := by rw [w64 (by omega) (by omega)]; omega
theorem spec_In (a b c : Int) : spec_l01In.f a b c = some (decide (b ≤ a ∧ a ≤ c)) := by
  unfold spec_l01In.f
  by_cases h : b ≤ a <;> simp [h]
theorem impl_In (a b c : Int) : impl_within.f a b c = some (decide (b ≤ a ∧ a ≤ c)) := by
  unfold impl_within.f
  by_cases h : b ≤ a <;> simp [h]
/-- A loop that asks each index and ends at the first refusal. -/
theorem all_loop {F : Nat → Int → Option Bool} {n : Nat} {P : Nat → Prop} {e : Bool}
    (hs : ∀ (k i : Nat), i < n → (∀ j, j < i → P j) → (P i ∧ F (k + 1) i = F k ((i : Int) + 1)) ∨ (¬ P i ∧ F (k + 1) i = some false))
    (he : ∀ k : Nat, (∀ j, j < n → P j) → F (k + 1) n = some e) : ∀ (d k i : Nat), i + d = n → d < k → (∀ j, j < i → P j) →
    ∃ b, F k i = some b ∧ (b = true ↔ ((∀ j, j < n → P j) ∧ e = true)) := by
  intro d
  induction d with
  | zero =>
    intro k i hi hk hp
    obtain ⟨k, rfl⟩ : ∃ m, k = m + 1 := ⟨k - 1, by omega⟩
    obtain rfl : i = n := by omega
    exact ⟨e, he k hp, ⟨fun h => ⟨hp, h⟩, fun h => h.2⟩⟩
  | succ d ih =>
    intro k i hi hk hp
    obtain ⟨k, rfl⟩ : ∃ m, k = m + 1 := ⟨k - 1, by omega⟩
    rcases hs k i (by omega) hp with ⟨h1, h2⟩ | ⟨h1, h2⟩
    · have e1 : (i : Int) + 1 = ((i + 1 : Nat) : Int) := by omega
      rw [h2, e1]
      refine ih k (i + 1) (by omega) (by omega) (fun j hj => ?_)
      by_cases hji : j = i
      · rw [hji]; exact h1
      · exact hp j (by omega)
    · refine ⟨false, h2, ⟨(fun h => by cases h), fun h => absurd (h.1 i (by omega)) h1⟩⟩
/-- A loop that copies a list, element by element. -/
theorem copy_loop {α β : Type} {F : Nat → List α → List β → Int → Option (List β)} {cv : α → β} (z : α) {N : Nat}
    (hs : ∀ (k i : Nat) (x : List α) (y : List β), x.length ≤ N → i < x.length → i < y.length → F (k + 1) x y i = F k x (y.set i (cv (x.getD i z))) ((i : Int) + 1))
    (he : ∀ (k : Nat) (x : List α) (y : List β), F (k + 1) x y x.length = some y) (x : List α) (hN : x.length ≤ N) : ∀ (d k i : Nat) (y : List β), i + d = x.length → d < k → y.length = x.length →
    y.take i = (x.take i).map cv → F k x y i = some (x.map cv) := by
  intro d
  induction d with
  | zero =>
    intro k i y hi hk hl ht
    obtain ⟨k, rfl⟩ : ∃ m, k = m + 1 := ⟨k - 1, by omega⟩
    obtain rfl : i = x.length := by omega
    rw [he]
    rw [List.take_of_length_le (by omega), List.take_of_length_le (by omega)] at ht
    rw [ht]
  | succ d ih =>
    intro k i y hi hk hl ht
    obtain ⟨k, rfl⟩ : ∃ m, k = m + 1 := ⟨k - 1, by omega⟩
    have e1 : (i : Int) + 1 = ((i + 1 : Nat) : Int) := by omega
    rw [hs k i x y hN (by omega) (by omega), e1]
    refine ih k (i + 1) _ (by omega) (by omega) (by rw [List.length_set, hl]) ?_
    have hx : i < x.length := by omega
    have hy : i < y.length := by omega
    rw [List.take_succ_eq_append_getElem (by rw [List.length_set]; exact hy), List.take_succ_eq_append_getElem hx, List.map_append, List.take_set, ht]
    congr 1
    · rw [List.set_eq_of_length_le]
      simp; omega
    · simp [List.getD_eq_getElem?_getD, hx]
/-- Two equal lists, compared element by element. -/
theorem same_loop {α : Type} {F : Nat → List α → List α → Int → Option Bool} {N : Nat}
    (hs : ∀ (k i : Nat) (x : List α), x.length ≤ N → i < x.length → F (k + 1) x x i = F k x x ((i : Int) + 1))
    (he : ∀ (k : Nat) (x : List α), F (k + 1) x x x.length = some true) (x : List α) (hN : x.length ≤ N) : ∀ (d k i : Nat), i + d = x.length → d < k → F k x x i = some true := by
  intro d
  induction d with
  | zero =>
    intro k i hi hk
    obtain ⟨k, rfl⟩ : ∃ m, k = m + 1 := ⟨k - 1, by omega⟩
    obtain rfl : i = x.length := by omega
    exact he k x
  | succ d ih =>
    intro k i hi hk
    obtain ⟨k, rfl⟩ : ∃ m, k = m + 1 := ⟨k - 1, by omega⟩
    have e1 : (i : Int) + 1 = ((i + 1 : Nat) : Int) := by omega
    rw [hs k i x hN (by omega), e1]
    exact ih k (i + 1) (by omega) (by omega)
/-- The same where a round costs c + 1 rounds of the count. -/
theorem all_loopc (c : Nat) {F : Nat → Int → Option Bool} {n : Nat} {P : Nat → Prop} {e : Bool}
    (hs : ∀ (k i : Nat), i < n → (∀ j, j < i → P j) → (P i ∧ F (k + (c + 1)) i = F k ((i : Int) + 1)) ∨ (¬ P i ∧ F (k + (c + 1)) i = some false))
    (he : ∀ k : Nat, (∀ j, j < n → P j) → F (k + 1) n = some e) : ∀ (d k i : Nat), i + d = n → d * (c + 1) < k → (∀ j, j < i → P j) →
    ∃ b, F k i = some b ∧ (b = true ↔ ((∀ j, j < n → P j) ∧ e = true)) := by
  intro d
  induction d with
  | zero =>
    intro k i hi hk hp
    obtain ⟨k, rfl⟩ : ∃ m, k = m + 1 := ⟨k - 1, by omega⟩
    obtain rfl : i = n := by omega
    exact ⟨e, he k hp, ⟨fun h => ⟨hp, h⟩, fun h => h.2⟩⟩
  | succ d ih =>
    intro k i hi hk hp
    rw [Nat.add_mul, Nat.one_mul] at hk
    obtain ⟨k, rfl⟩ : ∃ m, k = m + (c + 1) := ⟨k - (c + 1), by omega⟩
    rcases hs k i (by omega) hp with ⟨h1, h2⟩ | ⟨h1, h2⟩
    · have e1 : (i : Int) + 1 = ((i + 1 : Nat) : Int) := by omega
      rw [h2, e1]
      refine ih k (i + 1) (by omega) (by omega) (fun j hj => ?_)
      by_cases hji : j = i
      · rw [hji]; exact h1
      · exact hp j (by omega)
    · refine ⟨false, h2, ⟨(fun h => by cases h), fun h => absurd (h.1 i (by omega)) h1⟩⟩
/-- A loop that looks for something in a list, from an index on. -/
theorem find_loop {α ρ : Type} {F : Nat → Int → Option ρ} {h : List α → ρ} (t : List α)
    (hs : ∀ (k i : Nat), i < t.length → (F (k + 1) i = F k ((i : Int) + 1) ∧ h (t.drop i) = h (t.drop (i + 1))) ∨ F (k + 1) i = some (h (t.drop i)))
    (he : ∀ (k : Nat), F (k + 1) t.length = some (h [])) : ∀ (d k i : Nat), i + d = t.length → d < k → F k i = some (h (t.drop i)) := by
  intro d
  induction d with
  | zero =>
    intro k i hi hk
    obtain ⟨k, rfl⟩ : ∃ m, k = m + 1 := ⟨k - 1, by omega⟩
    obtain rfl : i = t.length := by omega
    rw [he, List.drop_length]
  | succ d ih =>
    intro k i hi hk
    obtain ⟨k, rfl⟩ : ∃ m, k = m + 1 := ⟨k - 1, by omega⟩
    rcases hs k i (by omega) with ⟨h1, h2⟩ | h1
    · have e1 : (i : Int) + 1 = ((i + 1 : Nat) : Int) := by omega
      rw [h1, e1, ih k (i + 1) (by omega) (by omega), h2]
    · exact h1
theorem drop_getD {α : Type} (t : List α) (z : α) {i : Nat} (hi : i < t.length) : t.drop i = t.getD i z :: t.drop (i + 1) := by
  rw [List.drop_eq_getElem_cons hi, List.getD_eq_getElem?_getD, List.getElem?_eq_getElem hi]; rfl
/-- An edge, of the laws' type and of the program's. -/
def cvE (x : S88) : S76 := ⟨x.f0, x.f1, x.f2⟩
theorem sz_Graph (n : Int) {l : List S88} (h : l.length ≤ 9223372036854775807) : laws_szGraph.f n l 1048576 = some (if l.length ≤ 1048576 then 1048576 - (l.length : Int) else -1) := by
  unfold laws_szGraph.f laws_szEdgeS.f
  rw [w64 (by omega) (by omega)]
  by_cases hl : l.length ≤ 1048576
  · rw [if_neg (by omega), if_pos hl]
    simp only [Option.bind_some]
    rw [if_neg (by omega)]
  · rw [if_pos (by omega), if_neg hl]
    rfl
theorem to_EdgeS {l : List S88} {k : Nat} (h : l.length ≤ 1048576) (hk : l.length < k) : laws_toEdgeS.f k l = some (l.map cvE) := by
  unfold laws_toEdgeS.f
  rw [if_pos (by omega), if_pos (by omega)]
  refine copy_loop (F := laws_toEdgeS.l0) (cv := cvE) z88 (N := 1048576) ?_ ?_ l h l.length k 0 _ (by omega) hk (by simp) (by simp)
  · intro k i x y hN hx hy
    simp only [laws_toEdgeS.l0]
    rw [if_pos (by omega), if_pos (by omega)]
    unfold laws_toEdge.f
    simp only [Option.bind_some]
    rw [if_pos (by omega), w64 (by omega) (by omega)]
    simp [rd_T88, cvE]
  · intro k x y
    simp only [laws_toEdgeS.l0]
    rw [if_neg (by omega)]
theorem to_Graph (n : Int) {l : List S88} {k : Nat} (h : l.length ≤ 1048576) (hk : l.length < k) : laws_toGraph.f k n l = some (n, l.map cvE) := by
  unfold laws_toGraph.f
  rw [to_EdgeS h hk]; rfl
theorem eq_EdgeS {l : List S76} {k : Nat} (h : l.length ≤ 1048576) (hk : l.length < k) : laws_eqEdgeS.f k l l = some true := by
  unfold laws_eqEdgeS.f
  rw [if_pos rfl]
  refine same_loop (F := laws_eqEdgeS.l0) (N := 1048576) ?_ ?_ l h l.length k 0 (by omega) hk
  · intro k i x hN hx
    simp only [laws_eqEdgeS.l0]
    rw [if_pos (by omega), if_pos (by omega), if_pos (by omega)]
    unfold laws_eqEdge.f
    simp only [if_true, Option.bind_some]
    rw [w64 (by omega) (by omega)]
  · intro k x
    simp only [laws_eqEdgeS.l0]
    rw [if_neg (by omega)]
theorem eq_Graph (n : Int) {l : List S76} {k : Nat} (h : l.length ≤ 1048576) (hk : l.length < k) : laws_eqGraph.f k n l n l = some true := by
  unfold laws_eqGraph.f
  rw [if_pos rfl, eq_EdgeS h hk]; rfl
/-- A node of a graph of n nodes. -/
def Node (n x : Int) : Prop := 0 ≤ x ∧ x ≤ n - 1
instance (n x : Int) : Decidable (Node n x) := by unfold Node; infer_instance
def EAhead (a b : S76) : Prop := a.f0 < b.f0 ∨ a.f0 = b.f0 ∧ a.f1 < b.f1
/-- The edge at an index is valid and stands behind the one ahead of it. -/
def Eat (n : Int) (t : List S76) (j : Nat) : Prop :=
  Node n (rd_T76 t j).f0 ∧ Node n (rd_T76 t j).f1 ∧ (rd_T76 t j).f0 ≠ (rd_T76 t j).f1 ∧ (1 ≤ (rd_T76 t j).f2 ∧ (rd_T76 t j).f2 ≤ 1000) ∧
    (0 < j → EAhead (rd_T76 t ((j : Int) - 1)) (rd_T76 t j))
/-- A valid graph. -/
def Gok (n : Int) (t : List S76) : Prop := (1 ≤ n ∧ n ≤ 10) ∧ t.length ≤ 60 ∧ ∀ j, j < t.length → Eat n t j
theorem spec_Node {n : Int} (h : 1 ≤ n ∧ n ≤ 10) (t : List S76) (x : Int) : spec_l03Node.f n t x = some (decide (Node n x)) := by
  unfold spec_l03Node.f
  rw [w64 (by omega) (by omega), spec_In]
  rfl
theorem impl_Node {n : Int} (h : 1 ≤ n ∧ n ≤ 10) (t : List S76) (x : Int) : impl_Graph_isNode.f n t x = some (decide (Node n x)) := by
  unfold impl_Graph_isNode.f
  rw [w64 (by omega) (by omega), impl_In]
  rfl
theorem spec_edges {n : Int} (hn : 1 ≤ n ∧ n ≤ 10) {t : List S76} (h : t.length ≤ 1048576) {k : Nat} (hk : t.length * 2 < k) : ∃ b, spec_GraphOk.l0 k 0 n t = some b ∧ (b = true ↔ ∀ j, j < t.length → Eat n t j) := by
  have x := all_loopc 1 (F := fun k i => spec_GraphOk.l0 k i n t) (n := t.length) (P := Eat n t) (e := true) ?_ ?_ t.length k 0 (by omega) hk (fun j hj => by omega)
  · obtain ⟨b, h1, h2⟩ := x
    exact ⟨b, h1, by simpa using h2⟩
  · intro k i hi hp
    simp only [spec_GraphOk.l0]
    rw [if_pos (by omega), if_pos (by omega), spec_Node hn, spec_Node hn, spec_In]
    simp only [Option.bind_some, decide_eq_true_eq]
    by_cases c1 : Node n (rd_T76 t i).f0
    · rw [if_pos c1]
      by_cases c2 : Node n (rd_T76 t i).f1
      · rw [if_pos c2]
        by_cases c3 : (rd_T76 t i).f0 = (rd_T76 t i).f1
        · rw [if_pos c3]
          simp only [spec_GraphOk.j2]
          exact .inr ⟨fun h => h.2.2.1 c3, rfl⟩
        · rw [if_neg c3]
          simp only [spec_GraphOk.j2]
          by_cases c4 : 1 ≤ (rd_T76 t i).f2 ∧ (rd_T76 t i).f2 ≤ 1000
          · rw [decide_eq_true c4, if_neg (by decide)]
            by_cases c5 : i = 0
            · subst c5
              rw [if_neg (by omega), w64 (by omega) (by omega)]
              exact .inl ⟨⟨c1, c2, c3, c4, fun h => by omega⟩, rfl⟩
            · rw [if_pos (by omega), w64 (n := (i : Int) - 1) (by omega) (by omega), if_pos (by omega), if_pos (by omega), w64 (n := (i : Int) + 1) (by omega) (by omega)]
              by_cases c6 : (rd_T76 t ((i : Int) - 1)).f0 > (rd_T76 t i).f0
              · rw [if_pos c6]
                refine .inr ⟨fun h => ?_, rfl⟩
                have := h.2.2.2.2 (by omega)
                unfold EAhead at this; omega
              · rw [if_neg c6]
                by_cases c7 : (rd_T76 t ((i : Int) - 1)).f0 = (rd_T76 t i).f0
                · rw [if_pos c7]
                  by_cases c8 : (rd_T76 t ((i : Int) - 1)).f1 ≥ (rd_T76 t i).f1
                  · rw [if_pos c8]
                    refine .inr ⟨fun h => ?_, rfl⟩
                    have := h.2.2.2.2 (by omega)
                    unfold EAhead at this; omega
                  · rw [if_neg c8]
                    exact .inl ⟨⟨c1, c2, c3, c4, fun _ => .inr ⟨c7, by omega⟩⟩, rfl⟩
                · rw [if_neg c7]
                  exact .inl ⟨⟨c1, c2, c3, c4, fun _ => .inl (by omega)⟩, rfl⟩
          · rw [decide_eq_false c4]
            exact .inr ⟨fun h => c4 h.2.2.2.1, rfl⟩
      · rw [if_neg c2]
        simp only [spec_GraphOk.j2]
        exact .inr ⟨fun h => c2 h.2.1, rfl⟩
    · rw [if_neg c1]
      simp only [spec_GraphOk.j2]
      exact .inr ⟨fun h => c1 h.1, rfl⟩
  · intro k _
    simp only [spec_GraphOk.l0]
    rw [if_neg (by omega)]
theorem spec_Gok (n : Int) {t : List S76} (h : t.length ≤ 1048576) {k : Nat} (hk : t.length * 2 + 1 < k) : ∃ b, spec_GraphOk.f k n t = some b ∧ (b = true ↔ Gok n t) := by
  obtain ⟨k, rfl⟩ : ∃ m, k = m + 1 := ⟨k - 1, by omega⟩
  unfold spec_GraphOk.f Gok
  rw [spec_In]
  simp only [Option.bind_some, decide_eq_true_eq, spec_GraphOk.j0]
  by_cases hn : 1 ≤ n ∧ n ≤ 10
  · rw [if_pos hn]
    by_cases hl : (t.length : Int) > 60
    · refine ⟨false, by rw [if_pos hl], ⟨(fun h => by cases h), fun h => by omega⟩⟩
    · obtain ⟨b, h1, h2⟩ := spec_edges hn h (k := k) (by omega)
      exact ⟨b, by rw [if_neg hl, h1], by rw [h2]; exact ⟨fun x => ⟨hn, by omega, x⟩, fun x => x.2.2⟩⟩
  · rw [if_neg hn]
    exact ⟨false, rfl, ⟨(fun h => by cases h), fun h => absurd h.1 hn⟩⟩
theorem impl_CompareE {n : Int} {a b : S76} (hn : 1 ≤ n ∧ n ≤ 10) (h1 : Node n a.f0) (h2 : Node n a.f1) (h3 : Node n b.f0) (h4 : Node n b.f1) : ∃ c, impl_compareEdges.f a.f0 a.f1 a.f2 b.f0 b.f1 b.f2 = some c ∧ (¬ c ≥ 0 ↔ EAhead a b) := by
  unfold Node at h1 h2 h3 h4
  unfold impl_compareEdges.f EAhead
  by_cases h : a.f0 = b.f0
  · refine ⟨a.f1 - b.f1, by rw [if_pos h, w64 (by omega) (by omega)], by omega⟩
  · refine ⟨a.f0 - b.f0, by rw [if_neg h, w64 (by omega) (by omega)], by omega⟩
theorem impl_edges {n : Int} (hn : 1 ≤ n ∧ n ≤ 10) {t : List S76} (h : t.length ≤ 1048576) {k : Nat} (hk : t.length < k) : ∃ b, impl_GraphOk.l0 k t t.length 0 n t = some b ∧ (b = true ↔ ∀ j, j < t.length → Eat n t j) := by
  have x := all_loop (F := fun k i => impl_GraphOk.l0 k t t.length i n t) (n := t.length) (P := Eat n t) (e := true) ?_ ?_ t.length k 0 (by omega) hk (fun j hj => by omega)
  · obtain ⟨b, h1, h2⟩ := x
    exact ⟨b, h1, by simpa using h2⟩
  · intro k i hi hp
    simp only [impl_GraphOk.l0]
    rw [if_pos (by omega), if_pos (by omega), if_pos (by omega), impl_Node hn, impl_Node hn, impl_In]
    simp only [Option.bind_some, decide_eq_true_eq]
    by_cases c1 : Node n (rd_T76 t i).f0
    · rw [if_pos c1]
      by_cases c2 : Node n (rd_T76 t i).f1
      · rw [if_pos c2]
        by_cases c3 : (rd_T76 t i).f0 = (rd_T76 t i).f1
        · rw [if_pos c3]
          exact .inr ⟨fun h => h.2.2.1 c3, rfl⟩
        · rw [if_neg c3]
          by_cases c4 : 1 ≤ (rd_T76 t i).f2 ∧ (rd_T76 t i).f2 ≤ 1000
          · rw [if_pos c4]
            by_cases c5 : i = 0
            · subst c5
              rw [if_neg (by omega), w64 (by omega) (by omega)]
              exact .inl ⟨⟨c1, c2, c3, c4, fun h => by omega⟩, rfl⟩
            · rw [if_pos (by omega), w64 (n := (i : Int) - 1) (by omega) (by omega), if_pos (by omega), if_pos (by omega)]
              have e1 : (((i - 1 : Nat) : Int)) = (i : Int) - 1 := by omega
              have pv := hp (i - 1) (by omega)
              unfold Eat at pv
              rw [e1] at pv
              obtain ⟨b, hb, hb2⟩ := impl_CompareE hn pv.1 pv.2.1 c1 c2
              rw [hb]
              simp only [Option.bind_some]
              by_cases c6 : b ≥ 0
              · rw [if_pos c6]
                exact .inr ⟨fun h => hb2.2 (h.2.2.2.2 (by omega)) c6, rfl⟩
              · rw [if_neg c6, w64 (by omega) (by omega)]
                exact .inl ⟨⟨c1, c2, c3, c4, fun _ => hb2.1 c6⟩, rfl⟩
          · rw [if_neg c4]
            exact .inr ⟨fun h => c4 h.2.2.2.1, rfl⟩
      · rw [if_neg c2]
        exact .inr ⟨fun h => c2 h.2.1, rfl⟩
    · rw [if_neg c1]
      exact .inr ⟨fun h => c1 h.1, rfl⟩
  · intro k _
    simp only [impl_GraphOk.l0]
    rw [if_neg (by omega)]
theorem impl_Gok (n : Int) {t : List S76} (h : t.length ≤ 1048576) {k : Nat} (hk : t.length + 1 < k) : ∃ b, impl_GraphOk.f k n t = some b ∧ (b = true ↔ Gok n t) := by
  obtain ⟨k, rfl⟩ : ∃ m, k = m + 1 := ⟨k - 1, by omega⟩
  unfold impl_GraphOk.f Gok
  rw [impl_In]
  simp only [Option.bind_some, decide_eq_true_eq, impl_GraphOk.j0]
  by_cases hn : 1 ≤ n ∧ n ≤ 10
  · rw [if_pos hn]
    by_cases hl : (t.length : Int) > 60
    · refine ⟨false, by rw [if_pos hl], ⟨(fun h => by cases h), fun h => by omega⟩⟩
    · obtain ⟨b, h1, h2⟩ := impl_edges hn h (k := k) (by omega)
      exact ⟨b, by rw [if_neg hl, h1], by rw [h2]; exact ⟨fun x => ⟨hn, by omega, x⟩, fun x => x.2.2⟩⟩
  · rw [if_neg hn]
    exact ⟨false, rfl, ⟨(fun h => by cases h), fun h => absurd h.1 hn⟩⟩
/-- Both ask the same of a graph. -/
theorem both_Gok (n : Int) {t : List S76} (h : t.length ≤ 1048576) {k : Nat} (hk : t.length * 2 + 1 < k) : ∃ b, spec_GraphOk.f k n t = some b ∧ impl_GraphOk.f k n t = some b ∧ (b = true ↔ Gok n t) := by
  obtain ⟨b1, s1, s2⟩ := spec_Gok n h hk
  obtain ⟨b2, i1, i2⟩ := impl_Gok n h (k := k) (by omega)
  have e : b2 = b1 := by rw [Bool.eq_iff_iff, i2, s2]
  exact ⟨b1, s1, by rw [i1, e], s2⟩
/-- The cost of the edge from x to y, far where there is none. -/
def ecost : List S76 → Int → Int → Int
  | [], _, _ => 1000000
  | e :: t, x, y => if e.f0 = x then (if e.f1 = y then e.f2 else ecost t x y) else ecost t x y
def gcost (n : Int) (t : List S76) (x y : Int) : Int := if Node n x ∧ Node n y then (if x = y then 0 else ecost t x y) else 1000000
theorem rdE_get (t : List S76) (i : Nat) : rd_T76 t i = t.getD i z76 := by simp [rd_T76]
theorem Gok.mem {n : Int} {t : List S76} (h : Gok n t) {e : S76} (he : e ∈ t) : Node n e.f0 ∧ Node n e.f1 ∧ e.f0 ≠ e.f1 ∧ 1 ≤ e.f2 ∧ e.f2 ≤ 1000 := by
  obtain ⟨i, hi, rfl⟩ := List.getElem_of_mem he
  have x := h.2.2 i hi
  have e1 : rd_T76 t i = t[i] := by rw [rdE_get, List.getD_eq_getElem?_getD, List.getElem?_eq_getElem hi]; rfl
  unfold Eat at x
  rw [e1] at x
  exact ⟨x.1, x.2.1, x.2.2.1, x.2.2.2.1.1, x.2.2.2.1.2⟩
theorem ecost_mem {t : List S76} {x y : Int} (h : ecost t x y ≠ 1000000) : ∃ e ∈ t, e.f0 = x ∧ e.f1 = y ∧ ecost t x y = e.f2 := by
  induction t with
  | nil => exact absurd rfl h
  | cons e t ih =>
    simp only [ecost] at h ⊢
    by_cases h1 : e.f0 = x
    · by_cases h2 : e.f1 = y
      · rw [if_pos h1, if_pos h2]
        exact ⟨e, List.mem_cons_self, h1, h2, rfl⟩
      · rw [if_pos h1, if_neg h2] at h ⊢
        obtain ⟨e', m, r⟩ := ih h
        exact ⟨e', List.mem_cons_of_mem _ m, r⟩
    · rw [if_neg h1] at h ⊢
      obtain ⟨e', m, r⟩ := ih h
      exact ⟨e', List.mem_cons_of_mem _ m, r⟩
theorem ecost_far {n : Int} {t : List S76} (h : Gok n t) {x y : Int} (hxy : ¬ (Node n x ∧ Node n y ∧ x ≠ y)) : ecost t x y = 1000000 := by
  by_cases c : ecost t x y = 1000000
  · exact c
  · obtain ⟨e, m, h1, h2, _⟩ := ecost_mem c
    have g := h.mem m
    rw [h1, h2] at g
    exact absurd ⟨g.1, g.2.1, g.2.2.1⟩ hxy
theorem gcost_lim {n : Int} {t : List S76} (h : Gok n t) (x y : Int) : gcost n t x y = 1000000 ∨ (0 ≤ gcost n t x y ∧ gcost n t x y ≤ 1000) := by
  unfold gcost
  by_cases c : Node n x ∧ Node n y
  · rw [if_pos c]
    by_cases c2 : x = y
    · rw [if_pos c2]; exact .inr ⟨by omega, by omega⟩
    · rw [if_neg c2]
      by_cases c3 : ecost t x y = 1000000
      · exact .inl c3
      · obtain ⟨e, m, _, _, h3⟩ := ecost_mem c3
        have g := h.mem m
        rw [h3]
        exact .inr ⟨by omega, by omega⟩
  · rw [if_neg c]; exact .inl rfl
theorem spec_Cost {n : Int} (hn : 1 ≤ n ∧ n ≤ 10) {t : List S76} (h : t.length ≤ 1048576) (x y : Int) {k : Nat} (hk : t.length + 1 < k) : spec_l03Cost.f k n t x y = some (gcost n t x y) := by
  obtain ⟨k, rfl⟩ : ∃ m, k = m + 1 := ⟨k - 1, by omega⟩
  unfold spec_l03Cost.f gcost
  rw [spec_Node hn, spec_Node hn]
  simp only [Option.bind_some, decide_eq_true_eq, spec_l03Cost.j0]
  by_cases c1 : Node n x
  · by_cases c2 : Node n y
    · rw [if_pos c1, decide_eq_true c2, if_neg (by decide), if_pos (⟨c1, c2⟩ : Node n x ∧ Node n y)]
      by_cases c3 : x = y
      · rw [if_pos c3, if_pos c3]
      · rw [if_neg c3, if_neg c3]
        have z := find_loop (F := fun k i => spec_l03Cost.l0 k x y i n t) (h := fun l => ecost l x y) t ?_ ?_ t.length k 0 (by omega) (by omega)
        · exact z
        · intro k i hi
          simp only [spec_l03Cost.l0]
          rw [if_pos (by omega), if_pos (by omega), w64 (by omega) (by omega), drop_getD t z76 hi, ← rdE_get]
          simp only [ecost]
          by_cases d1 : (rd_T76 t i).f0 = x
          · by_cases d2 : (rd_T76 t i).f1 = y
            · rw [if_pos d1, if_pos d2, if_pos d1, if_pos d2]; exact .inr rfl
            · rw [if_pos d1, if_neg d2, if_pos d1, if_neg d2]; exact .inl ⟨rfl, rfl⟩
          · rw [if_neg d1, if_neg d1]; exact .inl ⟨rfl, rfl⟩
        · intro k
          simp only [spec_l03Cost.l0]
          rw [if_neg (by omega)]; rfl
    · rw [if_pos c1, decide_eq_false c2, if_pos (by decide), if_neg (c := Node n x ∧ Node n y) (fun z => c2 z.2)]
  · rw [if_neg c1, if_pos trivial, if_neg (c := Node n x ∧ Node n y) (fun z => c1 z.1)]
theorem rd_getI (t : List Int) (i : Nat) : rd t i = t.getD i 0 := by simp [rd]
theorem eq_IntS {l : List Int} {k : Nat} (h : l.length ≤ 1048576) (hk : l.length < k) : laws_eqIntS.f k l l = some true := by
  unfold laws_eqIntS.f
  rw [if_pos rfl]
  refine same_loop (F := laws_eqIntS.l0) (N := 1048576) ?_ ?_ l h l.length k 0 (by omega) hk
  · intro k i x hN hx
    simp only [laws_eqIntS.l0]
    rw [if_pos (by omega), if_pos (by omega), if_pos (by omega)]
    simp only [if_true]
    rw [w64 (by omega) (by omega)]
  · intro k x
    simp only [laws_eqIntS.l0]
    rw [if_neg (by omega)]
theorem mark_IntS (a : Int) (h0 : 0 ≤ a) (ha : a ≤ 1048576) {l : List Int} {k : Nat} (h : l.length ≤ 1048576) (hk : l.length < k) : ∃ M, laws_markIntS.f k l a = some (a + l.length, M) ∧ M.length = l.length ∧ ∀ j : Nat, j < l.length → rd M j = a + j := by
  have key : ∀ (d k i : Nat) (x : List Int), i + d = x.length → d < k → x.length ≤ 1048576 → (∀ j : Nat, j < i → rd x j = a + j) → ∃ M, laws_markIntS.l0 k x (a + i) i = some (a + x.length, M) ∧ M.length = x.length ∧ ∀ j : Nat, j < x.length → rd M j = a + j := by
    intro d
    induction d with
    | zero =>
      intro k i x hi hk hx hj
      obtain ⟨k, rfl⟩ : ∃ m, k = m + 1 := ⟨k - 1, by omega⟩
      obtain rfl : i = x.length := by omega
      simp only [laws_markIntS.l0]
      rw [if_neg (by omega)]
      exact ⟨x, rfl, rfl, hj⟩
    | succ d ih =>
      intro k i x hi hk hx hj
      obtain ⟨k, rfl⟩ : ∃ m, k = m + 1 := ⟨k - 1, by omega⟩
      simp only [laws_markIntS.l0]
      have e1 : a + (i : Int) + 1 = a + ((i + 1 : Nat) : Int) := by omega
      have e2 : (i : Int) + 1 = ((i + 1 : Nat) : Int) := by omega
      rw [if_pos (by omega), if_pos (by omega), w64 (by omega) (by omega), w64 (by omega) (by omega), e1, e2, Int.toNat_natCast]
      have z := ih k (i + 1) (x.set i (a + (i : Int))) (by rw [List.length_set]; omega) (by omega) (by rw [List.length_set]; exact hx) (fun j hj2 => ?_)
      · rw [List.length_set] at z; exact z
      · unfold rd
        rw [Int.toNat_natCast, List.getD_eq_getElem?_getD, List.getElem?_set]
        by_cases hji : i = j
        · subst hji; rw [if_pos rfl, if_pos (by omega)]; rfl
        · rw [if_neg hji]
          have := hj j (by omega)
          unfold rd at this
          rw [Int.toNat_natCast, List.getD_eq_getElem?_getD] at this
          exact this
  have z := key l.length k 0 l (by omega) hk h (fun j hj => by omega)
  simpa [laws_markIntS.f] using z
theorem held_IntS (a : Int) (h0 : 0 ≤ a) (ha : a ≤ 1048576) {M : List Int} {k : Nat} (h : M.length ≤ 1048576) (hk : M.length < k) (hM : ∀ j : Nat, j < M.length → rd M j = a + j) : laws_heldIntS.f k M a = some (a + M.length) := by
  have key : ∀ (d k i : Nat), i + d = M.length → d < k → laws_heldIntS.l0 k M (a + i) i = some (a + M.length) := by
    intro d
    induction d with
    | zero =>
      intro k i hi hk
      obtain ⟨k, rfl⟩ : ∃ m, k = m + 1 := ⟨k - 1, by omega⟩
      obtain rfl : i = M.length := by omega
      simp only [laws_heldIntS.l0]
      rw [if_neg (by omega)]
    | succ d ih =>
      intro k i hi hk
      obtain ⟨k, rfl⟩ : ∃ m, k = m + 1 := ⟨k - 1, by omega⟩
      simp only [laws_heldIntS.l0]
      have e1 : a + (i : Int) + 1 = a + ((i + 1 : Nat) : Int) := by omega
      have e2 : (i : Int) + 1 = ((i + 1 : Nat) : Int) := by omega
      rw [if_pos (by omega), if_pos (by omega), if_pos (hM i (by omega)), w64 (by omega) (by omega), w64 (by omega) (by omega), e1, e2]
      exact ih k (i + 1) (by omega) (by omega)
  have z := key M.length k 0 (by omega) hk
  simpa [laws_heldIntS.f] using z
theorem mark_Graph (n a : Int) (h0 : 0 ≤ a) (ha : a ≤ 10485760) {l : List S76} {k : Nat} (h : l.length ≤ 1048576) (hk : l.length < k) : ∃ M, laws_markGraph.f k n l a = some (a + 3 * l.length, M) := by
  have key : ∀ (d k i : Nat) (x : List S76), i + d = x.length → d < k → x.length ≤ 1048576 → ∃ M, laws_markEdgeS.l0 k x (a + 3 * i) i = some (a + 3 * x.length, M) := by
    intro d
    induction d with
    | zero =>
      intro k i x hi hk hx
      obtain ⟨k, rfl⟩ : ∃ m, k = m + 1 := ⟨k - 1, by omega⟩
      obtain rfl : i = x.length := by omega
      simp only [laws_markEdgeS.l0]
      rw [if_neg (by omega)]
      exact ⟨x, rfl⟩
    | succ d ih =>
      intro k i x hi hk hx
      obtain ⟨k, rfl⟩ : ∃ m, k = m + 1 := ⟨k - 1, by omega⟩
      simp only [laws_markEdgeS.l0, Option.bind_some]
      have e1 : a + 3 * (i : Int) + 1 + 1 + 1 = a + 3 * ((i + 1 : Nat) : Int) := by omega
      have e2 : (i : Int) + 1 = ((i + 1 : Nat) : Int) := by omega
      rw [if_pos (by omega), if_pos (by omega)]
      have hfin : ∀ y : List S76, y.length = x.length → ∃ M, laws_markEdgeS.l0 k y (a + 3 * ((i + 1 : Nat) : Int)) ((i + 1 : Nat) : Int) = some (a + 3 * x.length, M) := fun y hy => by
        have z := ih k (i + 1) y (by omega) (by omega) (by omega)
        rwa [hy] at z
      have w1 : wrap64 (a + 3 * (i : Int) + 1) = a + 3 * (i : Int) + 1 := w64 (by omega) (by omega)
      have w2 : wrap64 (a + 3 * (i : Int) + 1 + 1) = a + 3 * (i : Int) + 1 + 1 := w64 (by omega) (by omega)
      have w3 : wrap64 (a + 3 * (i : Int) + 1 + 1 + 1) = a + 3 * ((i + 1 : Nat) : Int) := by rw [w64 (by omega) (by omega)]; exact e1
      have w4 : wrap64 ((i : Int) + 1) = ((i + 1 : Nat) : Int) := by rw [w64 (by omega) (by omega)]; exact e2
      rw [w1, w2, w3, w4]
      exact hfin _ (by simp only [List.length_set])
  obtain ⟨M, hM⟩ := key l.length k 0 l (by omega) hk h
  refine ⟨M, ?_⟩
  unfold laws_markGraph.f laws_markEdgeS.f
  have e : a + 3 * ((0 : Nat) : Int) = a := by omega
  rw [e] at hM
  have hM' : laws_markEdgeS.l0 k l a 0 = some (a + 3 * l.length, M) := hM
  rw [hM']; rfl
/-- One edge more: the way over it, where it is shorter. -/
def relax (o : List Int) (e : S76) : List Int := if rd o e.f0 < 1000000 then o.set e.f1.toNat (mn (rd o e.f1) (rd o e.f0 + e.f2)) else o
def relaxAll (t : List S76) (o : List Int) : List Int := t.foldl relax o
def rounds (t : List S76) : Nat → List Int → List Int
  | 0, o => o
  | d + 1, o => rounds t d (relaxAll t o)
/-- The distances from a node. -/
def dist (n : Int) (t : List S76) (x : Int) : List Int := rounds t n.toNat ((List.replicate n.toNat 1000000).set x.toNat 0)
/-- Distances of n nodes: all between 0 and far. -/
def Dok (n : Int) (o : List Int) : Prop := (o.length : Int) = n ∧ ∀ v ∈ o, 0 ≤ v ∧ v ≤ 1000000
theorem rd_mem {o : List Int} {i : Int} (h0 : 0 ≤ i) (h : i < o.length) : rd o i ∈ o := by
  unfold rd
  have hi : i.toNat < o.length := by omega
  rw [List.getD_eq_getElem?_getD, List.getElem?_eq_getElem hi]
  exact List.getElem_mem hi
theorem mn_le (a b : Int) : mn a b ≤ a ∧ mn a b ≤ b := by unfold mn; split <;> omega
theorem Dok.relax {n : Int} {t : List S76} (g : Gok n t) {e : S76} (he : e ∈ t) {o : List Int} (h : Dok n o) : Dok n (relax o e) := by
  obtain ⟨a1, a2, a3, a4, a5⟩ := g.mem he
  unfold Node at a1 a2
  have b1 := h.2 _ (rd_mem (o := o) (i := e.f0) a1.1 (by have := h.1; omega))
  have b2 := h.2 _ (rd_mem (o := o) (i := e.f1) a2.1 (by have := h.1; omega))
  unfold Pure.relax
  by_cases c : rd o e.f0 < 1000000
  · rw [if_pos c]
    refine ⟨by rw [List.length_set]; exact h.1, fun v hv => ?_⟩
    rcases List.mem_or_eq_of_mem_set hv with hv | rfl
    · exact h.2 v hv
    · have := mn_le (rd o e.f1) (rd o e.f0 + e.f2)
      refine ⟨?_, by omega⟩
      unfold mn; split <;> omega
  · rw [if_neg c]; exact h
theorem set_self {o : List Int} {i : Nat} (h : i < o.length) : o.set i (o.getD i 0) = o := by
  apply List.ext_getElem?
  intro j
  rw [List.getElem?_set]
  by_cases c : i = j
  · subst c; rw [if_pos rfl, if_pos h, List.getD_eq_getElem?_getD, List.getElem?_eq_getElem h]; rfl
  · rw [if_neg c]
theorem Dok.all {n : Int} {t : List S76} (g : Gok n t) {o : List Int} (h : Dok n o) : ∀ (s : List S76), (∀ e ∈ s, e ∈ t) → Dok n (s.foldl Pure.relax o) := by
  intro s
  induction s generalizing o with
  | nil => intro _; exact h
  | cons e s ih =>
    intro hs
    exact ih (h.relax g (hs e List.mem_cons_self)) (fun e' he' => hs e' (List.mem_cons_of_mem _ he'))
theorem spec_inner {n : Int} {t : List S76} (g : Gok n t) (k : Nat) (r : Int) : ∀ (d i K : Nat) (o : List Int), i + d = t.length → K = k + d + 1 → Dok n o →
    spec_Distances.l2 K o r i n t = spec_Distances.l1 k ((t.drop i).foldl relax o) (wrap64 (r + 1)) n t := by
  have hl : t.length ≤ 60 := g.2.1
  intro d
  induction d with
  | zero =>
    intro i K o hi hK ho
    obtain rfl : i = t.length := by omega
    obtain rfl : K = k + 1 := by omega
    simp only [spec_Distances.l2]
    rw [if_neg (by omega), List.drop_length]; rfl
  | succ d ih =>
    intro i K o hi hK ho
    obtain ⟨K, rfl⟩ : ∃ m, K = m + 1 := ⟨K - 1, by omega⟩
    have hil : i < t.length := by omega
    have e1 : (i : Int) + 1 = ((i + 1 : Nat) : Int) := by omega
    have hmem : rd_T76 t i ∈ t := by
      rw [rdE_get, List.getD_eq_getElem?_getD, List.getElem?_eq_getElem hil]; exact List.getElem_mem hil
    obtain ⟨a1, a2, a3, a4, a5⟩ := g.mem hmem
    have hd := ho.relax g hmem
    have hlen := ho.1
    unfold Node at a1 a2
    have b1 := ho.2 _ (rd_mem (o := o) (i := (rd_T76 t i).f0) a1.1 (by omega))
    simp only [spec_Distances.l2]
    rw [if_pos (by omega), if_pos (by omega), if_pos a1.1, if_pos (by omega), w64 (n := (i : Int) + 1) (by omega) (by omega), e1, drop_getD t z76 hil, ← rdE_get, List.foldl_cons]
    by_cases c : rd o (rd_T76 t i).f0 < 1000000
    · rw [if_pos c, if_pos a2.1, if_pos (by omega), w64 (by omega) (by omega)]
      by_cases c2 : rd o (rd_T76 t i).f0 + (rd_T76 t i).f2 < rd o (rd_T76 t i).f1
      · have er : Pure.relax o (rd_T76 t i) = o.set (rd_T76 t i).f1.toNat (rd o (rd_T76 t i).f0 + (rd_T76 t i).f2) := by
          unfold Pure.relax mn; rw [if_pos c, if_pos c2]
        rw [if_pos c2, ← er, ih (i + 1) K _ (by omega) (by omega) hd]
      · have er : Pure.relax o (rd_T76 t i) = o := by
          unfold Pure.relax mn
          rw [if_pos c, if_neg c2]
          exact set_self (by omega)
        rw [if_neg c2, er, ih (i + 1) K _ (by omega) (by omega) ho]
    · have er : Pure.relax o (rd_T76 t i) = o := by unfold Pure.relax; rw [if_neg c]
      rw [if_neg c, er, ih (i + 1) K _ (by omega) (by omega) ho]
theorem spec_outer {n : Int} {t : List S76} (g : Gok n t) : ∀ (d k i : Nat) (o : List Int), (i : Int) + d = n → d * (t.length + 2) < k → Dok n o →
    spec_Distances.l1 k o i n t = some (rounds t d o) := by
  have hn := g.1
  intro d
  induction d with
  | zero =>
    intro k i o hi hk ho
    obtain ⟨k, rfl⟩ : ∃ m, k = m + 1 := ⟨k - 1, by omega⟩
    simp only [spec_Distances.l1]
    rw [if_neg (by omega)]; rfl
  | succ d ih =>
    intro k i o hi hk ho
    rw [Nat.add_mul, Nat.one_mul] at hk
    obtain ⟨k, rfl⟩ : ∃ m, k = (m + t.length + 1) + 1 := ⟨k - t.length - 2, by omega⟩
    have e1 : (i : Int) + 1 = ((i + 1 : Nat) : Int) := by omega
    have z := spec_inner g k i t.length 0 (k + t.length + 1) o (by omega) rfl ho
    have z' : spec_Distances.l2 (k + t.length + 1) o i 0 n t = spec_Distances.l1 k (relaxAll t o) (wrap64 ((i : Int) + 1)) n t := z
    simp only [spec_Distances.l1]
    rw [if_pos (by omega), z', w64 (by omega) (by omega), e1, ih k (i + 1) (relaxAll t o) (by omega) (by omega) (ho.all g t (fun e he => he))]
    rfl
theorem Dok.start {n x : Int} (hn : 1 ≤ n ∧ n ≤ 10) : Dok n ((List.replicate n.toNat 1000000).set x.toNat 0) := by
  refine ⟨by rw [List.length_set, List.length_replicate]; omega, fun v hv => ?_⟩
  rcases List.mem_or_eq_of_mem_set hv with hv | rfl
  · rw [List.eq_of_mem_replicate hv]; omega
  · omega
theorem spec_fars {n x : Int} {t : List S76} (g : Gok n t) (hx : Node n x) (k : Nat) : ∀ (d i K : Nat), (i : Int) + d = n → K = k + d + 1 →
    spec_Distances.l0 K x (List.replicate i 1000000) i n t = spec_Distances.l1 k ((List.replicate n.toNat 1000000).set x.toNat 0) 0 n t := by
  have hn := g.1
  unfold Node at hx
  intro d
  induction d with
  | zero =>
    intro i K hi hK
    have e : n.toNat = i := by omega
    obtain rfl : K = k + 1 := by omega
    simp only [spec_Distances.l0]
    rw [if_neg (by omega), if_pos hx.1, List.length_replicate, if_pos (by omega), e]
  | succ d ih =>
    intro i K hi hK
    have e1 : (i : Int) + 1 = ((i + 1 : Nat) : Int) := by omega
    obtain ⟨K, rfl⟩ : ∃ m, K = m + 1 := ⟨K - 1, by omega⟩
    simp only [spec_Distances.l0]
    rw [if_pos (by omega), List.length_replicate, if_pos (by omega), w64 (by omega) (by omega), e1, ← List.replicate_succ', ih (i + 1) K (by omega) (by omega)]
theorem spec_Dist {n : Int} {t : List S76} (h : t.length ≤ 1048576) (x : Int) {k : Nat} (hk : t.length * 12 + 60 < k) :
    ∃ b : Bool, (b = true ↔ (Gok n t ∧ Node n x)) ∧ spec_Distances.f k n t x = some (if b = true then dist n t x else []) := by
  obtain ⟨k, rfl⟩ : ∃ m, k = m + 1 := ⟨k - 1, by omega⟩
  obtain ⟨b, h1, _, h3⟩ := both_Gok n h (k := k + 1) (by omega)
  unfold spec_Distances.f
  rw [h1]
  simp only [Option.bind_some, spec_Distances.j0]
  by_cases c : b = true
  · have g := h3.1 c
    have hn := g.1
    have hl : t.length ≤ 60 := g.2.1
    rw [if_pos c, spec_Node hn]
    simp only [Option.bind_some]
    by_cases c2 : Node n x
    · rw [decide_eq_true c2, if_neg (by decide)]
      refine ⟨true, ⟨fun _ => ⟨g, c2⟩, fun _ => rfl⟩, ?_⟩
      obtain ⟨k, rfl⟩ : ∃ m, k = m + n.toNat + 1 := ⟨k - n.toNat - 1, by omega⟩
      have z := spec_fars g c2 k n.toNat 0 (k + n.toNat + 1) (by omega) rfl
      have hm : n.toNat * (t.length + 2) ≤ 10 * (t.length + 2) := Nat.mul_le_mul_right _ (by omega)
      have z2 := spec_outer g n.toNat k 0 _ (by omega) (by omega) (Dok.start (x := x) hn)
      have z' : spec_Distances.l0 (k + n.toNat + 1) x [] 0 n t = _ := z
      rw [z']
      exact z2
    · rw [decide_eq_false c2, if_pos (by decide)]
      exact ⟨false, ⟨(fun h => by cases h), fun h => absurd h.2 c2⟩, rfl⟩
  · rw [if_neg c, if_pos trivial]
    exact ⟨false, ⟨(fun h => by cases h), fun h => absurd (h3.2 h.1) c⟩, rfl⟩
theorem impl_inner {n : Int} {t : List S76} (g : Gok n t) (k : Nat) (r : Int) : ∀ (d i K : Nat) (o : List Int), i + d = t.length → K = k + d + 1 → Dok n o →
    impl_Graph_distances.l1 K o n r t t.length i n t = impl_Graph_distances.l0 k ((t.drop i).foldl relax o) n (wrap64 (r + 1)) n t := by
  have hl : t.length ≤ 60 := g.2.1
  intro d
  induction d with
  | zero =>
    intro i K o hi hK ho
    obtain rfl : i = t.length := by omega
    obtain rfl : K = k + 1 := by omega
    simp only [impl_Graph_distances.l1]
    rw [if_neg (by omega), List.drop_length]; rfl
  | succ d ih =>
    intro i K o hi hK ho
    obtain ⟨K, rfl⟩ : ∃ m, K = m + 1 := ⟨K - 1, by omega⟩
    have hil : i < t.length := by omega
    have e1 : (i : Int) + 1 = ((i + 1 : Nat) : Int) := by omega
    have hmem : rd_T76 t i ∈ t := by
      rw [rdE_get, List.getD_eq_getElem?_getD, List.getElem?_eq_getElem hil]; exact List.getElem_mem hil
    obtain ⟨a1, a2, a3, a4, a5⟩ := g.mem hmem
    have hd := ho.relax g hmem
    have hlen := ho.1
    unfold Node at a1 a2
    have b1 := ho.2 _ (rd_mem (o := o) (i := (rd_T76 t i).f0) a1.1 (by omega))
    simp only [impl_Graph_distances.l1]
    rw [if_pos (by omega), if_pos (by omega), if_pos (by omega), if_pos a1.1, if_pos (by omega), w64 (n := (i : Int) + 1) (by omega) (by omega), e1, drop_getD t z76 hil, ← rdE_get, List.foldl_cons]
    by_cases c : rd o (rd_T76 t i).f0 < 1000000
    · have er : Pure.relax o (rd_T76 t i) = o.set (rd_T76 t i).f1.toNat (mn (rd o (rd_T76 t i).f1) (rd o (rd_T76 t i).f0 + (rd_T76 t i).f2)) := by
        unfold Pure.relax; rw [if_pos c]
      rw [if_pos c, if_pos a2.1, if_pos (by omega), w64 (by omega) (by omega), ← er, ih (i + 1) K _ (by omega) (by omega) hd]
    · have er : Pure.relax o (rd_T76 t i) = o := by unfold Pure.relax; rw [if_neg c]
      rw [if_neg c, er, ih (i + 1) K _ (by omega) (by omega) ho]
theorem impl_outer {n : Int} {t : List S76} (g : Gok n t) : ∀ (d k i : Nat) (o : List Int), (i : Int) + d = n → d * (t.length + 2) < k → Dok n o →
    impl_Graph_distances.l0 k o n i n t = some (rounds t d o) := by
  have hn := g.1
  intro d
  induction d with
  | zero =>
    intro k i o hi hk ho
    obtain ⟨k, rfl⟩ : ∃ m, k = m + 1 := ⟨k - 1, by omega⟩
    simp only [impl_Graph_distances.l0]
    rw [if_neg (by omega)]; rfl
  | succ d ih =>
    intro k i o hi hk ho
    rw [Nat.add_mul, Nat.one_mul] at hk
    obtain ⟨k, rfl⟩ : ∃ m, k = (m + t.length + 1) + 1 := ⟨k - t.length - 2, by omega⟩
    have e1 : (i : Int) + 1 = ((i + 1 : Nat) : Int) := by omega
    have z := impl_inner g k i t.length 0 (k + t.length + 1) o (by omega) rfl ho
    have z' : impl_Graph_distances.l1 (k + t.length + 1) o n i t t.length 0 n t = impl_Graph_distances.l0 k (relaxAll t o) n (wrap64 ((i : Int) + 1)) n t := z
    simp only [impl_Graph_distances.l0]
    rw [if_pos (by omega), z', w64 (by omega) (by omega), e1, ih k (i + 1) (relaxAll t o) (by omega) (by omega) (ho.all g t (fun e he => he))]
    rfl
theorem impl_dist {n : Int} {t : List S76} (g : Gok n t) {x : Int} (hx : Node n x) {k : Nat} (hk : t.length * 12 + 60 < k) : impl_Graph_distances.f k n t x = some (dist n t x) := by
  have hn := g.1
  have hl : t.length ≤ 60 := g.2.1
  have hx2 := hx
  unfold Node at hx2
  have hm : n.toNat * (t.length + 2) ≤ 10 * (t.length + 2) := Nat.mul_le_mul_right _ (by omega)
  unfold impl_Graph_distances.f slices_Repeat_int_int.f
  have e1 : ([1000000] : List Int).length = 1 := rfl
  rw [if_pos e1, if_pos (by omega), if_pos (by omega)]
  have e2 : rd ([1000000] : List Int) 0 = 1000000 := rfl
  simp only [Option.bind_some, e2]
  rw [if_pos hx2.1, List.length_replicate, if_pos (by omega)]
  exact impl_outer g n.toNat k 0 _ (by omega) (by omega) (Dok.start (x := x) hn)
theorem spec_Dist' {n : Int} {t : List S76} (g : Gok n t) {x : Int} (hx : Node n x) {k : Nat} (hk : t.length * 12 + 60 < k) : spec_Distances.f k n t x = some (dist n t x) := by
  have hl : t.length ≤ 60 := g.2.1
  obtain ⟨b, h1, h2⟩ := spec_Dist (n := n) (t := t) (by omega) x hk
  rw [h2, if_pos (h1.2 ⟨g, hx⟩)]
theorem Dok.rounds {n : Int} {t : List S76} (g : Gok n t) : ∀ (d : Nat) {o : List Int}, Dok n o → Dok n (Pure.rounds t d o) := by
  intro d
  induction d with
  | zero => intro o h; exact h
  | succ d ih => intro o h; exact ih (h.all g t (fun e he => he))
theorem dist_ok {n : Int} {t : List S76} (g : Gok n t) (x : Int) : Dok n (dist n t x) := Dok.rounds g _ (Dok.start g.1)
/-- The distance between two nodes. -/
def D (n : Int) (t : List S76) (x y : Int) : Int := rd (dist n t x) y
theorem D_lim {n : Int} {t : List S76} (g : Gok n t) (x : Int) {y : Int} (hy : Node n y) : 0 ≤ D n t x y ∧ D n t x y ≤ 1000000 := by
  have h := dist_ok g x
  unfold Node at hy
  have := h.1
  exact h.2 _ (rd_mem hy.1 (by omega))
/-- All distances, row by row. -/
def allD (n : Int) (t : List S76) : List (List Int) := (List.range n.toNat).map fun (i : Nat) => dist n t i
theorem allD_len {n : Int} (h : 1 ≤ n ∧ n ≤ 10) (t : List S76) : ((allD n t).length : Int) = n := by
  simp [allD]; omega
theorem allD_rd {n : Int} (t : List S76) {x : Int} (hx : Node n x) : rd_L4 (allD n t) x = dist n t x := by
  unfold Node at hx
  unfold rd_L4 allD
  have h1 : x.toNat < n.toNat := by omega
  rw [List.getD_eq_getElem?_getD, List.getElem?_map, List.getElem?_range h1]
  simp only [Option.map_some, Option.getD_some]
  have e : ((x.toNat : Nat) : Int) = x := by omega
  rw [e]
theorem impl_all {n : Int} {t : List S76} (g : Gok n t) {k : Nat} (hk : t.length * 12 + 80 < k) : impl_Graph_all.f k n t = some (allD n t) := by
  have hn := g.1
  have key : ∀ (d k i : Nat), (i : Int) + d = n → d + (t.length * 12 + 62) < k → impl_Graph_all.l0 k ((List.range i).map fun (j : Nat) => dist n t j) n i n t = some (allD n t) := by
    intro d
    induction d with
    | zero =>
      intro k i hi hk
      obtain ⟨k, rfl⟩ : ∃ m, k = m + 1 := ⟨k - 1, by omega⟩
      simp only [impl_Graph_all.l0]
      rw [if_neg (by omega)]
      unfold allD
      have e : n.toNat = i := by omega
      rw [e]
    | succ d ih =>
      intro k i hi hk
      obtain ⟨k, rfl⟩ : ∃ m, k = m + 1 := ⟨k - 1, by omega⟩
      have e1 : (i : Int) + 1 = ((i + 1 : Nat) : Int) := by omega
      simp only [impl_Graph_all.l0]
      rw [if_pos (by omega), impl_dist g (⟨by omega, by omega⟩ : Node n i) (by omega)]
      simp only [Option.bind_some]
      rw [if_pos (by simp; omega), w64 (by omega) (by omega), e1, ← ih k (i + 1) (by omega) (by omega), List.range_succ, List.map_append]
      rfl
  have z := key n.toNat k 0 (by omega) (by omega)
  exact z
/-- A walk of edges, and what it costs. -/
inductive Walk (t : List S76) (x : Int) : Int → Int → Prop
  | nil : Walk t x x 0
  | snoc {y c : Int} (e : S76) : Walk t x y c → e ∈ t → e.f0 = y → Walk t x e.f1 (c + e.f2)
theorem Walk.nonneg {n : Int} {t : List S76} (g : Gok n t) {x y c : Int} (h : Walk t x y c) : 0 ≤ c := by
  induction h with
  | nil => exact Int.le_refl _
  | snoc e _ he _ ih => have := (g.mem he).2.2.2; omega
theorem Walk.node {n : Int} {t : List S76} (g : Gok n t) {x y c : Int} (hx : Node n x) (h : Walk t x y c) : Node n y := by
  cases h with
  | nil => exact hx
  | snoc e _ he _ => exact (g.mem he).2.1
theorem Walk.trans {t : List S76} {x y z c d : Int} (h : Walk t x y c) (h2 : Walk t y z d) : Walk t x z (c + d) := by
  induction h2 with
  | nil => rw [Int.add_zero]; exact h
  | snoc e _ he h0 ih => rw [← Int.add_assoc]; exact .snoc e ih he h0
theorem Walk.edge {t : List S76} {e : S76} (he : e ∈ t) : Walk t e.f0 e.f1 e.f2 := by
  have := Walk.snoc (x := e.f0) e .nil he rfl
  rwa [Int.zero_add] at this
theorem Walk.least {n : Int} {t : List S76} (g : Gok n t) {x y : Int} : ∀ (N : Nat) (c : Int), c.toNat ≤ N → Walk t x y c → ∃ c0, Walk t x y c0 ∧ c0 ≤ c ∧ ∀ c', Walk t x y c' → c0 ≤ c' := by
  intro N
  induction N with
  | zero =>
    intro c hc h
    exact ⟨c, h, Int.le_refl _, fun c' h' => by have := h'.nonneg g; have := h.nonneg g; omega⟩
  | succ N ih =>
    intro c hc h
    by_cases q : ∃ c', Walk t x y c' ∧ c' < c
    · obtain ⟨c', h', hlt⟩ := q
      have := h'.nonneg g
      obtain ⟨c0, a, b, d⟩ := ih c' (by omega) h'
      exact ⟨c0, a, by omega, d⟩
    · exact ⟨c, h, Int.le_refl _, fun c' h' => Int.not_lt.1 (fun hlt => q ⟨c', h', hlt⟩)⟩
theorem filter_le' {α : Type} (p q : α → Bool) : ∀ l : List α, (∀ a ∈ l, p a = true → q a = true) → (l.filter p).length ≤ (l.filter q).length
  | [], _ => Nat.le_refl _
  | a :: l, h => by
    have ih := filter_le' p q l (fun b hb => h b (List.mem_cons_of_mem _ hb))
    have ha := h a List.mem_cons_self
    rw [List.filter_cons, List.filter_cons]
    by_cases c : p a = true
    · rw [if_pos c, if_pos (ha c)]
      simp only [List.length_cons]
      omega
    · rw [if_neg c]
      by_cases c2 : q a = true
      · rw [if_pos c2]
        simp only [List.length_cons]
        omega
      · rw [if_neg c2]
        exact ih
theorem filter_lt' {α : Type} (p q : α → Bool) : ∀ l : List α, (∀ a ∈ l, p a = true → q a = true) → (∃ a ∈ l, q a = true ∧ ¬ p a = true) → (l.filter p).length < (l.filter q).length
  | [], _, h => by obtain ⟨a, ha, _⟩ := h; cases ha
  | a :: l, h, h2 => by
    have ha := h a List.mem_cons_self
    have hl : ∀ b ∈ l, p b = true → q b = true := fun b hb => h b (List.mem_cons_of_mem _ hb)
    rw [List.filter_cons, List.filter_cons]
    by_cases c : q a = true ∧ ¬ p a = true
    · have := filter_le' p q l hl
      rw [if_neg c.2, if_pos c.1]
      simp only [List.length_cons]
      omega
    · obtain ⟨b, hb, hq⟩ := h2
      have hb2 : b ∈ l := by
        rcases List.mem_cons.1 hb with rfl | hb
        · exact absurd hq c
        · exact hb
      have ih := filter_lt' p q l hl ⟨b, hb2, hq⟩
      by_cases c2 : p a = true
      · rw [if_pos c2, if_pos (ha c2)]
        simp only [List.length_cons]
        omega
      · rw [if_neg c2, if_neg (fun h => c ⟨h, c2⟩)]
        exact ih
open Classical in
/-- How many nodes can be reached for less than c. -/
noncomputable def rk (n : Int) (t : List S76) (x c : Int) : Nat := ((List.range n.toNat).filter fun (u : Nat) => decide (∃ c', Walk t x (u : Int) c' ∧ c' < c)).length
theorem rk_le {n : Int} (t : List S76) (x c : Int) : rk n t x c ≤ n.toNat := by
  unfold rk
  exact Nat.le_trans (List.length_filter_le _ _) (by rw [List.length_range]; exact Nat.le_refl _)
open Classical in
theorem rk_lt {n : Int} {t : List S76} (x : Int) {y c d : Int} (hy : Node n y) (h : Walk t x y c) (hm : ∀ c', Walk t x y c' → c ≤ c') (hcd : c < d) : rk n t x c < rk n t x d := by
  unfold Node at hy
  unfold rk
  refine filter_lt' _ _ _ (fun u _ hu => ?_) ⟨y.toNat, List.mem_range.2 (by omega), ?_⟩
  · obtain ⟨c', h1, h2⟩ := of_decide_eq_true hu
    exact decide_eq_true ⟨c', h1, by omega⟩
  · have e : ((y.toNat : Nat) : Int) = y := by omega
    rw [e]
    refine ⟨decide_eq_true ⟨c, h, hcd⟩, fun hh => ?_⟩
    obtain ⟨c', h1, h2⟩ := of_decide_eq_true hh
    have := hm c' h1
    omega
theorem rdn_set {o : List Int} {i j : Int} (v : Int) (h0 : 0 ≤ i) (h1 : i < o.length) (hj : 0 ≤ j) : rd (o.set i.toNat v) j = if i = j then v else rd o j := by
  unfold rd
  rw [List.getD_eq_getElem?_getD, List.getD_eq_getElem?_getD, List.getElem?_set]
  by_cases c : i = j
  · subst c
    rw [if_pos rfl, if_pos (by omega), if_pos rfl]
    rfl
  · rw [if_neg (by omega), if_neg c]
theorem relax_le {n : Int} {t : List S76} (g : Gok n t) {e : S76} (he : e ∈ t) {o : List Int} (h : Dok n o) {v : Int} (hv : Node n v) : rd (Pure.relax o e) v ≤ rd o v := by
  obtain ⟨a1, a2, a3, a4, a5⟩ := g.mem he
  unfold Node at a1 a2 hv
  have := h.1
  unfold Pure.relax
  by_cases c : rd o e.f0 < 1000000
  · rw [if_pos c, rdn_set _ a2.1 (by omega) hv.1]
    by_cases q : e.f1 = v
    · rw [if_pos q, q]
      exact (mn_le _ _).1
    · rw [if_neg q]
      exact Int.le_refl _
  · rw [if_neg c]
    exact Int.le_refl _
theorem relax_at {n : Int} {t : List S76} (g : Gok n t) {e : S76} (he : e ∈ t) {o : List Int} (h : Dok n o) (c : rd o e.f0 < 1000000) : rd (Pure.relax o e) e.f1 ≤ rd o e.f0 + e.f2 := by
  obtain ⟨a1, a2, a3, a4, a5⟩ := g.mem he
  unfold Node at a1 a2
  have := h.1
  unfold Pure.relax
  rw [if_pos c, rdn_set _ a2.1 (by omega) a2.1, if_pos rfl]
  exact (mn_le _ _).2
theorem fold_le {n : Int} {t : List S76} (g : Gok n t) {v : Int} (hv : Node n v) : ∀ (s : List S76) (o : List Int), (∀ e ∈ s, e ∈ t) → Dok n o → rd (s.foldl Pure.relax o) v ≤ rd o v := by
  intro s
  induction s with
  | nil => intro o _ _; exact Int.le_refl _
  | cons e s ih =>
    intro o hs h
    have he := hs e List.mem_cons_self
    have a := ih (Pure.relax o e) (fun b hb => hs b (List.mem_cons_of_mem _ hb)) (h.relax g he)
    have b := relax_le g he h hv
    exact Int.le_trans a b
theorem fold_at {n : Int} {t : List S76} (g : Gok n t) {e : S76} : ∀ (s : List S76) (o : List Int), (∀ e ∈ s, e ∈ t) → Dok n o → e ∈ s → rd o e.f0 < 1000000 → rd (s.foldl Pure.relax o) e.f1 ≤ rd o e.f0 + e.f2 := by
  intro s
  induction s with
  | nil => intro o _ _ h; cases h
  | cons a s ih =>
    intro o hs h he c
    have ha := hs a List.mem_cons_self
    have hs' : ∀ b ∈ s, b ∈ t := fun b hb => hs b (List.mem_cons_of_mem _ hb)
    have het := hs e he
    obtain ⟨a1, a2, _⟩ := g.mem het
    rcases List.mem_cons.1 he with rfl | he
    · exact Int.le_trans (fold_le g a2 s _ hs' (h.relax g ha)) (relax_at g ha h c)
    · have q := relax_le g ha h a1
      have := ih (Pure.relax o a) hs' (h.relax g ha) he (by omega)
      show rd (s.foldl Pure.relax (Pure.relax o a)) e.f1 ≤ _
      omega
theorem rounds_succ (t : List S76) : ∀ (d : Nat) (o : List Int), Pure.rounds t (d + 1) o = relaxAll t (Pure.rounds t d o)
  | 0, _ => rfl
  | d + 1, o => rounds_succ t d (relaxAll t o)
/-- What is told of a node is the cost of a walk. -/
def Real (n : Int) (t : List S76) (x : Int) (o : List Int) : Prop := ∀ v, Node n v → rd o v < 1000000 → Walk t x v (rd o v)
theorem Real.relax {n : Int} {t : List S76} (g : Gok n t) {x : Int} {e : S76} (he : e ∈ t) {o : List Int} (h : Dok n o) (r : Real n t x o) : Real n t x (Pure.relax o e) := by
  intro v hv hl
  obtain ⟨a1, a2, a3, a4, a5⟩ := g.mem he
  have b1 := a1
  have b2 := a2
  have bv := hv
  unfold Node at b1 b2 bv
  have := h.1
  unfold Pure.relax at hl ⊢
  by_cases c : rd o e.f0 < 1000000
  · rw [if_pos c, rdn_set _ b2.1 (by omega) bv.1] at hl ⊢
    by_cases q : e.f1 = v
    · rw [if_pos q] at hl ⊢
      subst q
      unfold mn at hl ⊢
      by_cases d : rd o e.f0 + e.f2 < rd o e.f1
      · rw [if_pos d]
        exact .snoc e (r _ a1 c) he rfl
      · rw [if_neg d] at hl ⊢
        exact r _ a2 hl
    · rw [if_neg q] at hl ⊢
      exact r v hv hl
  · rw [if_neg c] at hl ⊢
    exact r v hv hl
theorem Real.fold {n : Int} {t : List S76} (g : Gok n t) {x : Int} : ∀ (s : List S76) (o : List Int), (∀ e ∈ s, e ∈ t) → Dok n o → Real n t x o → Real n t x (s.foldl Pure.relax o) := by
  intro s
  induction s with
  | nil => intro o _ _ r; exact r
  | cons e s ih =>
    intro o hs h r
    have he := hs e List.mem_cons_self
    exact ih _ (fun b hb => hs b (List.mem_cons_of_mem _ hb)) (h.relax g he) (r.relax g he h)
theorem Real.rounds {n : Int} {t : List S76} (g : Gok n t) {x : Int} : ∀ (d : Nat) (o : List Int), Dok n o → Real n t x o → Real n t x (Pure.rounds t d o) := by
  intro d
  induction d with
  | zero => intro o _ r; exact r
  | succ d ih => intro o h r; exact ih _ (h.all g t (fun e he => he)) (Real.fold g t o (fun e he => he) h r)
theorem rd_rep' {m : Nat} {v i : Int} (h0 : 0 ≤ i) (h1 : i < m) : rd (List.replicate m v) i = v := by
  unfold rd
  rw [List.getD_eq_getElem?_getD, List.getElem?_replicate, if_pos (by omega)]
  rfl
theorem start_rd {n x v : Int} (hx : Node n x) (hv : Node n v) : rd ((List.replicate n.toNat 1000000).set x.toNat 0) v = if x = v then 0 else 1000000 := by
  unfold Node at hx hv
  rw [rdn_set _ hx.1 (by rw [List.length_replicate]; omega) hv.1, rd_rep' hv.1 (by omega)]
theorem Real.start {n x : Int} (t : List S76) (hx : Node n x) : Real n t x ((List.replicate n.toNat 1000000).set x.toNat 0) := by
  intro v hv hl
  rw [start_rd hx hv] at hl ⊢
  by_cases c : x = v
  · rw [if_pos c, ← c]
    exact .nil
  · rw [if_neg c] at hl
    exact absurd hl (by omega)
theorem D_walk {n : Int} {t : List S76} (g : Gok n t) {x y : Int} (hx : Node n x) (hy : Node n y) (h : D n t x y < 1000000) : Walk t x y (D n t x y) :=
  Real.rounds g _ _ (Dok.start g.1) (Real.start t hx) y hy h
theorem conv {n : Int} {t : List S76} (g : Gok n t) {x : Int} (hx : Node n x) : ∀ (N : Nat) (v c : Int), c.toNat ≤ N → Walk t x v c → (∀ c', Walk t x v c' → c ≤ c') →
    c ≤ 1000 * (rk n t x c : Int) ∧ ∀ r, rk n t x c ≤ r → rd (Pure.rounds t r ((List.replicate n.toNat 1000000).set x.toNat 0)) v ≤ c := by
  have hn := g.1
  have s0 := Dok.start (x := x) hn
  have base : ∀ r, rd (Pure.rounds t r ((List.replicate n.toNat 1000000).set x.toNat 0)) x ≤ 0 := by
    intro r
    induction r with
    | zero =>
      show rd ((List.replicate n.toNat 1000000).set x.toNat 0) x ≤ 0
      rw [start_rd hx hx, if_pos rfl]
      exact Int.le_refl _
    | succ r ih =>
      rw [rounds_succ]
      exact Int.le_trans (fold_le g hx t _ (fun e he => he) (Dok.rounds g r s0)) ih
  intro N
  induction N with
  | zero =>
    intro v c hN h hm
    cases h with
    | nil => exact ⟨by omega, fun r _ => base r⟩
    | snoc e h1 he h0 =>
      have := h1.nonneg g
      have := (g.mem he).2.2.2
      omega
  | succ N ih =>
    intro v c hN h hm
    cases h with
    | nil => exact ⟨by omega, fun r _ => base r⟩
    | @snoc y c1 e h1 he h0 =>
      subst h0
      obtain ⟨a1, a2, a3, a4, a5⟩ := g.mem he
      have p1 := h1.nonneg g
      have m1 : ∀ c', Walk t x e.f0 c' → c1 ≤ c' := fun c' h' => by
        have := hm _ (.snoc e h' he rfl)
        omega
      obtain ⟨q1, q2⟩ := ih e.f0 c1 (by omega) h1 m1
      have hr := rk_lt (n := n) x (d := c1 + e.f2) a1 h1 m1 (by omega)
      refine ⟨by omega, fun r hrr => ?_⟩
      obtain ⟨r', rfl⟩ : ∃ r', r = r' + 1 := ⟨r - 1, by omega⟩
      have z := q2 r' (by omega)
      have hk := rk_le (n := n) t x c1
      rw [rounds_succ]
      have f := fold_at g (e := e) t _ (fun e he => he) (Dok.rounds g r' s0) he (by omega)
      show rd (t.foldl Pure.relax (Pure.rounds t r' _)) e.f1 ≤ _
      omega
theorem walk_D {n : Int} {t : List S76} (g : Gok n t) {x y c : Int} (hx : Node n x) (h : Walk t x y c) : D n t x y ≤ c := by
  obtain ⟨c0, h1, h2, h3⟩ := h.least g c.toNat c (Nat.le_refl _)
  have := (conv g hx c0.toNat y c0 (Nat.le_refl _) h1 h3).2 n.toNat (rk_le t x c0)
  exact Int.le_trans this h2
theorem D_self {n : Int} {t : List S76} (g : Gok n t) {x : Int} (hx : Node n x) : D n t x x = 0 := by
  have a := walk_D g hx (Walk.nil (t := t))
  have b := D_lim g x hx
  omega
theorem D_tri {n : Int} {t : List S76} (g : Gok n t) {x y z : Int} (hx : Node n x) (hy : Node n y) (hz : Node n z) (h1 : D n t x y < 1000000) (h2 : D n t y z < 1000000) : D n t x z ≤ D n t x y + D n t y z :=
  walk_D g hx ((D_walk g hx hy h1).trans (D_walk g hy hz h2))
theorem D_edge {n : Int} {t : List S76} (g : Gok n t) {e : S76} (he : e ∈ t) : D n t e.f0 e.f1 ≤ e.f2 := walk_D g (g.mem he).1 (Walk.edge he)
/-- Two ascending lists of the same members are one list. -/
theorem asc_eq : ∀ {a b : List Int}, a.Pairwise (· < ·) → b.Pairwise (· < ·) → (∀ z, z ∈ a ↔ z ∈ b) → a = b := by
  intro a
  induction a with
  | nil =>
    intro b _ _ h
    cases b with
    | nil => rfl
    | cons q b => exact absurd ((h q).2 List.mem_cons_self) (by simp)
  | cons p a ih =>
    intro b ha hb h
    cases b with
    | nil => exact absurd ((h p).1 List.mem_cons_self) (by simp)
    | cons q b =>
      have ha' := List.pairwise_cons.1 ha
      have hb' := List.pairwise_cons.1 hb
      have e : p = q := by
        rcases List.mem_cons.1 ((h p).1 List.mem_cons_self) with h1 | h1
        · exact h1
        · rcases List.mem_cons.1 ((h q).2 List.mem_cons_self) with h2 | h2
          · exact h2.symm
          · have := ha'.1 q h2; have := hb'.1 p h1; omega
      subst e
      congr 1
      refine ih ha'.2 hb'.2 (fun z => ⟨fun hz => ?_, fun hz => ?_⟩)
      · rcases List.mem_cons.1 ((h z).1 (List.mem_cons_of_mem _ hz)) with h1 | h1
        · have := ha'.1 z hz; omega
        · exact h1
      · rcases List.mem_cons.1 ((h z).2 (List.mem_cons_of_mem _ hz)) with h1 | h1
        · have := hb'.1 z hz; omega
        · exact h1
theorem Gok.asc {n : Int} {t : List S76} (g : Gok n t) : t.Pairwise EAhead := by
  have key : ∀ (j i : Nat), i < j → j < t.length → EAhead (rd_T76 t i) (rd_T76 t j) := by
    intro j
    induction j with
    | zero => intro i hi _; omega
    | succ j ih =>
      intro i hi hj
      have x := (g.2.2 (j + 1) hj).2.2.2.2 (by omega)
      have e : ((j + 1 : Nat) : Int) - 1 = (j : Int) := by omega
      rw [e] at x
      by_cases c : i = j
      · subst c; exact x
      · have y := ih i (by omega) (by omega)
        unfold EAhead at x y ⊢
        omega
  rw [List.pairwise_iff_getElem]
  intro i j hi hj hij
  have z := key j i hij hj
  rw [rdE_get, rdE_get, List.getD_eq_getElem?_getD, List.getD_eq_getElem?_getD, List.getElem?_eq_getElem hi, List.getElem?_eq_getElem hj] at z
  exact z
theorem ecost_of_mem : ∀ {t : List S76} {e : S76}, t.Pairwise EAhead → e ∈ t → ecost t e.f0 e.f1 = e.f2 := by
  intro t
  induction t with
  | nil => intro e _ h; cases h
  | cons a t ih =>
    intro e hp he
    have hp' := List.pairwise_cons.1 hp
    simp only [ecost]
    rcases List.mem_cons.1 he with h | h
    · subst h; rw [if_pos rfl, if_pos rfl]
    · have x := hp'.1 e h
      have y := ih hp'.2 h
      unfold EAhead at x
      by_cases c1 : a.f0 = e.f0
      · rw [if_pos c1, if_neg (by omega)]; exact y
      · rw [if_neg c1]; exact y
/-- The next nodes, out of the edges. -/
def hopE (n : Int) (t : List S76) (x y : Int) (e : S76) : Bool := decide (e.f0 = x ∧ e.f2 + D n t e.f1 y = D n t x y)
def hopsL (n : Int) (t : List S76) (x y : Int) : List Int := (t.filter (hopE n t x y)).map fun e => e.f1
/-- The next nodes, out of the nodes. -/
def hopN (n : Int) (t : List S76) (x y z : Int) : Bool := decide (z ≠ x ∧ gcost n t x z < 1000000 ∧ gcost n t x z + D n t z y = D n t x y)
def hopsR (n : Int) (t : List S76) (x y : Int) : List Int := ((List.range' 0 n.toNat).map fun (i : Nat) => (i : Int)).filter (hopN n t x y)
theorem hops_eq {n : Int} {t : List S76} (g : Gok n t) {x y : Int} (hx : Node n x) : hopsL n t x y = hopsR n t x y := by
  refine asc_eq ?_ ?_ (fun z => ?_)
  · unfold hopsL
    rw [List.pairwise_map]
    refine (g.asc.filter _).imp_of_mem ?_
    intro a b ha hb hab
    have ha2 := (List.mem_filter.1 ha).2
    have hb2 := (List.mem_filter.1 hb).2
    unfold hopE at ha2 hb2
    rw [decide_eq_true_eq] at ha2 hb2
    unfold EAhead at hab
    omega
  · unfold hopsR
    refine List.Pairwise.filter _ ?_
    rw [List.pairwise_map]
    refine (List.pairwise_lt_range' (s := 0) (n := n.toNat)).imp ?_
    intro a b hab
    omega
  · unfold hopsL hopsR
    simp only [List.mem_map, List.mem_filter, List.mem_range'_1, hopE, hopN, decide_eq_true_eq]
    constructor
    · rintro ⟨e, ⟨hm, h1, h2⟩, rfl⟩
      obtain ⟨a1, a2, a3, a4, a5⟩ := g.mem hm
      have hc : gcost n t x e.f1 = e.f2 := by
        unfold gcost
        rw [if_pos ⟨hx, a2⟩, if_neg (by omega), ← h1]
        exact ecost_of_mem g.asc hm
      unfold Node at a2
      refine ⟨⟨e.f1.toNat, by omega, by omega⟩, by omega, by omega, ?_⟩
      rw [hc]; exact h2
    · rintro ⟨⟨i, hi, rfl⟩, h1, h2, h3⟩
      have hn : Node n (i : Int) := ⟨by omega, by omega⟩
      unfold gcost at h2 h3
      rw [if_pos ⟨hx, hn⟩, if_neg (by omega)] at h2 h3
      obtain ⟨e, m, e1, e2, e3⟩ := ecost_mem (t := t) (x := x) (y := (i : Int)) (by omega)
      refine ⟨e, ⟨m, e1, ?_⟩, e2⟩
      rw [e2, ← e3]; exact h3
/-- A sum over a list. -/
def sm {α : Type} (f : α → Int) : List α → Int
  | [] => 0
  | a :: l => f a + sm f l
theorem sm_fold {α : Type} (f : α → Int) : ∀ (l : List α) (a0 : Int), l.foldl (fun a z => a + f z) a0 = a0 + sm f l
  | [], a0 => by simp [sm]
  | a :: l, a0 => by simp only [List.foldl_cons, sm]; rw [sm_fold f l, Int.add_assoc]
theorem sm_congr {α : Type} {f h : α → Int} : ∀ (l : List α), (∀ a ∈ l, f a = h a) → sm f l = sm h l
  | [], _ => rfl
  | a :: l, e => by
    simp only [sm]
    rw [e a List.mem_cons_self, sm_congr l (fun b hb => e b (List.mem_cons_of_mem _ hb))]
theorem sm_append {α : Type} (f : α → Int) : ∀ (l m : List α), sm f (l ++ m) = sm f l + sm f m
  | [], m => by simp [sm]
  | a :: l, m => by simp only [List.cons_append, sm]; rw [sm_append f l m, Int.add_assoc]
theorem sm_le {α : Type} {f : α → Int} {c : Int} : ∀ (l : List α), (∀ a ∈ l, f a ≤ c) → sm f l ≤ c * l.length
  | [], _ => by simp [sm]
  | a :: l, e => by
    simp only [sm, List.length_cons]
    have h1 := e a List.mem_cons_self
    have h2 := sm_le l (fun b hb => e b (List.mem_cons_of_mem _ hb))
    have h3 : c * ((l.length + 1 : Nat) : Int) = c * (l.length : Int) + c := by
      rw [Int.natCast_add, Int.mul_add]; simp
    rw [h3]
    omega
theorem sm_nonneg {α : Type} {f : α → Int} : ∀ (l : List α), (∀ a ∈ l, 0 ≤ f a) → 0 ≤ sm f l
  | [], _ => Int.le_refl _
  | a :: l, e => by
    simp only [sm]
    have h1 := e a List.mem_cons_self
    have h2 := sm_nonneg l (fun b hb => e b (List.mem_cons_of_mem _ hb))
    omega
theorem sm_pos {α : Type} {f : α → Int} : ∀ (l : List α), (∀ a ∈ l, 0 ≤ f a) → (∃ a ∈ l, 0 < f a) → 0 < sm f l
  | [], _, h => by obtain ⟨a, ha, _⟩ := h; cases ha
  | a :: l, e, h => by
    simp only [sm]
    have h1 := e a List.mem_cons_self
    have hl : ∀ b ∈ l, 0 ≤ f b := fun b hb => e b (List.mem_cons_of_mem _ hb)
    have h2 := sm_nonneg l hl
    obtain ⟨b, hb, hp⟩ := h
    rcases List.mem_cons.1 hb with rfl | hb
    · omega
    · have := sm_pos l hl ⟨b, hb, hp⟩
      omega
theorem mem_hops {n : Int} {t : List S76} {x y z : Int} : z ∈ hopsL n t x y ↔ ∃ e ∈ t, e.f0 = x ∧ e.f1 = z ∧ e.f2 + D n t z y = D n t x y := by
  unfold hopsL hopE
  simp only [List.mem_map, List.mem_filter, decide_eq_true_eq]
  constructor
  · rintro ⟨e, ⟨h1, h2, h3⟩, rfl⟩
    exact ⟨e, h1, h2, rfl, h3⟩
  · rintro ⟨e, h1, h2, rfl, h3⟩
    exact ⟨e, ⟨h1, h2, h3⟩, rfl⟩
theorem hop_lt {n : Int} {t : List S76} (g : Gok n t) {x y z : Int} (h : z ∈ hopsL n t x y) : Node n z ∧ D n t z y < D n t x y ∧ z ≠ x := by
  obtain ⟨e, h1, h2, h3, h4⟩ := mem_hops.1 h
  obtain ⟨a1, a2, a3, a4, a5⟩ := g.mem h1
  rw [h3] at a2
  exact ⟨a2, by omega, by omega⟩
/-- From a node that is not the target, and from which it can be reached, there is a hop. -/
theorem hop_ex {n : Int} {t : List S76} (g : Gok n t) {x y : Int} (hx : Node n x) (hy : Node n y) (hxy : x ≠ y) (h : D n t x y < 1000000) : ∃ z, z ∈ hopsL n t x y := by
  have first : ∀ {v c : Int}, Walk t x v c → v = x ∧ c = 0 ∨ ∃ e ∈ t, e.f0 = x ∧ ∃ d, Walk t e.f1 v d ∧ c = e.f2 + d := by
    intro v c w
    induction w with
    | nil => exact .inl ⟨rfl, rfl⟩
    | snoc e w he h0 ih =>
      rcases ih with ⟨rfl, rfl⟩ | ⟨e', he', h1, d, w', rfl⟩
      · exact .inr ⟨e, he, h0, 0, .nil, by omega⟩
      · exact .inr ⟨e', he', h1, d + e.f2, .snoc e w' he h0, by omega⟩
  rcases first (D_walk g hx hy h) with ⟨h1, _⟩ | ⟨e, he, h1, d, w, hd⟩
  · exact absurd h1.symm hxy
  · obtain ⟨a1, a2, a3, a4, a5⟩ := g.mem he
    have b1 := walk_D g a2 w
    have dl : D n t e.f1 y < 1000000 := by omega
    have b2 := walk_D g hx ((h1 ▸ Walk.edge he).trans (D_walk g a2 hy dl))
    exact ⟨e.f1, mem_hops.2 ⟨e, he, h1, rfl, by omega⟩⟩
/-- How many shortest ways there are, and the least number of nodes of one; m bounds the depth. -/
def waysF (n : Int) (t : List S76) (y : Int) : Nat → Int → Int
  | 0, _ => 0
  | m + 1, x => if x = y then 1 else sm (waysF n t y m) (hopsL n t x y)
def minz (s v : Int) : Int := if s = 0 then v else if v < s then v else s
def stepsF (n : Int) (t : List S76) (y : Int) : Nat → Int → Int
  | 0, _ => 0
  | m + 1, x => if x = y then 1 else (hopsL n t x y).foldl (fun s z => minz s (stepsF n t y m z + 1)) 0
theorem fold_congr' {α β : Type} {f h : β → α → β} : ∀ (l : List α) (b : β), (∀ a ∈ l, ∀ b, f b a = h b a) → l.foldl f b = l.foldl h b
  | [], _, _ => rfl
  | a :: l, b, e => by
    simp only [List.foldl_cons]
    rw [e a List.mem_cons_self, fold_congr' l _ (fun c hc => e c (List.mem_cons_of_mem _ hc))]
theorem waysF_stable {n : Int} {t : List S76} (g : Gok n t) {y : Int} (hy : Node n y) : ∀ (m m' : Nat) (x : Int), Node n x → (D n t x y).toNat < m → (D n t x y).toNat < m' → waysF n t y m x = waysF n t y m' x ∧ stepsF n t y m x = stepsF n t y m' x := by
  intro m
  induction m with
  | zero => intro m' x _ h _; omega
  | succ m ih =>
    intro m' x hx h h'
    obtain ⟨m', rfl⟩ : ∃ q, m' = q + 1 := ⟨m' - 1, by omega⟩
    have key : ∀ z ∈ hopsL n t x y, waysF n t y m z = waysF n t y m' z ∧ stepsF n t y m z = stepsF n t y m' z := fun z hz => by
      obtain ⟨a, b, _⟩ := hop_lt g hz
      have c := D_lim g z hy
      exact ih m' z a (by omega) (by omega)
    simp only [waysF, stepsF]
    by_cases c : x = y
    · rw [if_pos c, if_pos c, if_pos c, if_pos c]
      exact ⟨rfl, rfl⟩
    · rw [if_neg c, if_neg c, if_neg c, if_neg c]
      exact ⟨sm_congr _ (fun z hz => (key z hz).1), fold_congr' _ _ (fun z hz s => by rw [(key z hz).2])⟩
def ways (n : Int) (t : List S76) (y x : Int) : Int := waysF n t y ((D n t x y).toNat + 1) x
def steps (n : Int) (t : List S76) (y x : Int) : Int := stepsF n t y ((D n t x y).toNat + 1) x
theorem ways_at (n : Int) (t : List S76) (y : Int) : ways n t y y = 1 ∧ steps n t y y = 1 := by
  unfold ways steps
  simp [waysF, stepsF]
theorem ways_eq {n : Int} {t : List S76} (g : Gok n t) {x y : Int} (hy : Node n y) (hxy : x ≠ y) : ways n t y x = sm (ways n t y) (hopsL n t x y) ∧ steps n t y x = (hopsL n t x y).foldl (fun s z => minz s (steps n t y z + 1)) 0 := by
  have key : ∀ z ∈ hopsL n t x y, waysF n t y (D n t x y).toNat z = ways n t y z ∧ stepsF n t y (D n t x y).toNat z = steps n t y z := fun z hz => by
    obtain ⟨a, b, _⟩ := hop_lt g hz
    have c := D_lim g z hy
    exact waysF_stable g hy _ _ z a (by omega) (by omega)
  constructor
  · show waysF n t y ((D n t x y).toNat + 1) x = _
    simp only [waysF]
    rw [if_neg hxy]
    exact sm_congr _ (fun z hz => (key z hz).1)
  · show stepsF n t y ((D n t x y).toNat + 1) x = _
    simp only [stepsF]
    rw [if_neg hxy]
    exact fold_congr' _ _ (fun z hz s => by rw [(key z hz).2])
theorem wr1' {n : Int} (h : n < 100 ∧ 0 ≤ n) : wrap64 (n + 1) = n + 1 := w64 (by omega) (by omega)
/-- Behind the nodes below i: what the node a has gathered. -/
theorem gather {n : Int} {t : List S76} (g : Gok n t) {y a : Int} (hy : Node n y) (ha : Node n a) (hfar : D n t a y < 1000000) {Bk S W : List Int} {Dn : List Bool} (r : Int)
    (hB : ((Bk.length : Int) = n) ∧ ∀ v, Node n v → rd Bk v = D n t v y) (lS : (S.length : Int) = n) (lW : (W.length : Int) = n) (C : Int) (hC : C ≤ 100000000000000000)
    (bW : ∀ v, Node n v → 0 ≤ rd W v ∧ rd W v ≤ C) (bS : ∀ v, Node n v → 0 ≤ rd S v ∧ rd S v ≤ 50) (W0 : rd W a = 0) :
    ∀ (d k i : Nat) (l : List Int), (i : Int) + d = n → 2 * d + (t.length + 3) < k → l = ((List.range' 0 i).map fun (i : Nat) => (i : Int)).filter (hopN n t a y) →
    ∃ k', k ≤ k' + 2 * d + 1 ∧ spec_l03Steps.l3 k y Bk (S.set a.toNat (l.foldl (fun s z => minz s (rd S z + 1)) (rd S a))) (W.set a.toNat (sm (rd W) l)) Dn r a i n t =
      spec_l03Steps.l1 k' y Bk (S.set a.toNat ((hopsR n t a y).foldl (fun s z => minz s (rd S z + 1)) (rd S a))) (W.set a.toNat (sm (rd W) (hopsR n t a y))) Dn (wrap64 (r + 1)) n t := by
  have hn := g.1
  have hl : t.length ≤ 60 := g.2.1
  have ha2 := ha
  unfold Node at ha2
  intro d
  induction d with
  | zero =>
    intro k i l hi hk hl0
    obtain ⟨k, rfl⟩ : ∃ m, k = m + 1 := ⟨k - 1, by omega⟩
    have e : n.toNat = i := by omega
    refine ⟨k, by omega, ?_⟩
    simp only [spec_l03Steps.l3]
    rw [if_neg (by omega), hl0]
    unfold hopsR
    rw [e]
  | succ d ih =>
    intro k i l hi hk hl0
    obtain ⟨k, rfl⟩ : ∃ m, k = m + 1 + 1 := ⟨k - 2, by omega⟩
    have hi' : Node n (i : Int) := ⟨by omega, by omega⟩
    have e1 : (i : Int) + 1 = ((i + 1 : Nat) : Int) := by omega
    have hr : ((List.range' 0 (i + 1)).map fun (i : Nat) => (i : Int)) = ((List.range' 0 i).map fun (i : Nat) => (i : Int)) ++ [(i : Int)] := by
      rw [List.range'_1_concat, List.map_append]
      simp
    have skip : hopN n t a y (i : Int) = false → ∃ k', k + 1 + 1 ≤ k' + 2 * (d + 1) + 1 ∧ spec_l03Steps.l3 k y Bk (S.set a.toNat (l.foldl (fun s z => minz s (rd S z + 1)) (rd S a))) (W.set a.toNat (sm (rd W) l)) Dn r a ((i + 1 : Nat) : Int) n t = spec_l03Steps.l1 k' y Bk (S.set a.toNat ((hopsR n t a y).foldl (fun s z => minz s (rd S z + 1)) (rd S a))) (W.set a.toNat (sm (rd W) (hopsR n t a y))) Dn (wrap64 (r + 1)) n t := fun hf => by
      obtain ⟨k', h1, h2⟩ := ih k (i + 1) l (by omega) (by omega) (by rw [hr, List.filter_append, ← hl0]; simp [hf])
      exact ⟨k', by omega, h2⟩
    have lhop : ∀ z ∈ l, Node n z ∧ z ≠ a := fun z hz => by
      rw [hl0] at hz
      simp only [List.mem_filter, List.mem_map, List.mem_range'_1, hopN, decide_eq_true_eq] at hz
      obtain ⟨⟨q, hq, rfl⟩, h2, _⟩ := hz
      exact ⟨⟨by omega, by omega⟩, h2⟩
    have llen : l.length ≤ i := by
      rw [hl0]
      refine Nat.le_trans (List.length_filter_le _ _) ?_
      rw [List.length_map, List.length_range']
      exact Nat.le_refl _
    simp only [spec_l03Steps.l3]
    rw [if_pos (by omega), spec_Cost hn (by omega) a i (by omega)]
    simp only [Option.bind_some]
    by_cases h1 : (i : Int) = a
    · have hf : hopN n t a y (i : Int) = false := by unfold hopN; simp [h1]
      rw [if_pos h1]
      simp only [spec_l03Steps.j4]
      rw [if_pos trivial, wr1' (by omega), e1]
      exact skip hf
    · rw [if_neg h1]
      by_cases h2 : gcost n t a (i : Int) = 1000000
      · have hf : hopN n t a y (i : Int) = false := by unfold hopN; simp [h2]
        rw [if_pos h2]
        simp only [spec_l03Steps.j4]
        rw [if_pos trivial, wr1' (by omega), e1]
        exact skip hf
      · have gl := gcost_lim g a (i : Int)
        have dl := D_lim g (i : Int) hy
        have da := D_lim g a hy
        rw [if_neg h2, if_pos (by omega), if_pos (by have := hB.1; omega), hB.2 _ hi']
        by_cases h3 : D n t i y = 1000000
        · have hf : hopN n t a y (i : Int) = false := by
            unfold hopN
            rw [decide_eq_false]
            omega
          rw [if_pos h3]
          simp only [spec_l03Steps.j4]
          rw [if_pos trivial, wr1' (by omega), e1]
          exact skip hf
        · rw [if_neg h3, if_pos ha2.1, if_pos (by have := hB.1; omega), hB.2 _ ha, w64 (by omega) (by omega)]
          simp only [spec_l03Steps.j4]
          by_cases h4 : gcost n t a (i : Int) + D n t i y = D n t a y
          · have hf : hopN n t a y (i : Int) = true := by
              unfold hopN
              rw [decide_eq_true_eq]
              omega
            have hsm : 0 ≤ sm (rd W) l ∧ sm (rd W) l ≤ C * l.length := ⟨sm_nonneg l (fun z hz => (bW z (lhop z hz).1).1), sm_le l (fun z hz => (bW z (lhop z hz).1).2)⟩
            have hc2 : C * (l.length : Int) ≤ 1000000000000000000 := by
              have hc0 : 0 ≤ C := Int.le_trans (bW a ha).1 (bW a ha).2
              have := Int.mul_le_mul hC (show (l.length : Int) ≤ 10 by omega) (by omega) (by omega)
              omega
            have bi := bW i hi'
            have si := bS i hi'
            obtain ⟨k', q1, q2⟩ := ih k (i + 1) (l ++ [(i : Int)]) (by omega) (by omega) (by rw [hr, List.filter_append, ← hl0]; simp [hf])
            refine ⟨k', by omega, ?_⟩
            rw [← q2, sm_append, List.foldl_append]
            simp only [List.foldl_cons, List.foldl_nil, sm, Int.add_zero]
            obtain ⟨s0, hs0⟩ : ∃ s0, s0 = l.foldl (fun s z => minz s (rd S z + 1)) (rd S a) := ⟨_, rfl⟩
            obtain ⟨w0, hw0⟩ : ∃ w0, w0 = sm (rd W) l := ⟨_, rfl⟩
            rw [← hs0, ← hw0]
            rw [← hw0] at hsm
            have rSa : rd (S.set a.toNat s0) a = s0 := by rw [rdn_set _ ha2.1 (by omega) ha2.1, if_pos rfl]
            have rSi : rd (S.set a.toNat s0) (i : Int) = rd S i := by rw [rdn_set _ ha2.1 (by omega) (by omega), if_neg (by omega)]
            have rWa : rd (W.set a.toNat w0) a = w0 := by rw [rdn_set _ ha2.1 (by omega) ha2.1, if_pos rfl]
            have rWi : rd (W.set a.toNat w0) (i : Int) = rd W i := by rw [rdn_set _ ha2.1 (by omega) (by omega), if_neg (by omega)]
            rw [if_neg (by simp [h4]), if_pos ha2.1, List.length_set, if_pos (by omega), if_pos (by omega), if_pos (by omega)]
            simp only [Option.bind_some]
            rw [List.length_set, if_pos (by omega), rSa, rSi, rWa, rWi, List.set_set, w64 (n := rd S (i : Int) + 1) (by omega) (by omega), w64 (n := w0 + rd W (i : Int)) (by omega) (by omega), wr1' (n := (i : Int)) (by omega), e1]
            by_cases c : s0 = 0
            · have e : minz s0 (rd S (i : Int) + 1) = rd S (i : Int) + 1 := by unfold minz; rw [if_pos c]
              rw [if_pos c, if_pos (by omega), List.set_set, e]
            · rw [if_neg c, if_pos (by omega)]
              by_cases c2 : rd S (i : Int) + 1 < s0
              · have e : minz s0 (rd S (i : Int) + 1) = rd S (i : Int) + 1 := by unfold minz; rw [if_neg c, if_pos c2]
                rw [if_pos c2, List.set_set, e]
              · have e : minz s0 (rd S (i : Int) + 1) = s0 := by unfold minz; rw [if_neg c, if_neg c2]
                rw [if_neg c2, List.set_set, e]
          · have hf : hopN n t a y (i : Int) = false := by unfold hopN; simp [h4]
            rw [if_pos (by simp [h4]), wr1' (by omega), e1]
            exact skip hf
/-- Not done yet, and the target can be reached. -/
def Cd (n : Int) (t : List S76) (y : Int) (Dn : List Bool) (u : Int) : Prop := rdOf false Dn u = false ∧ D n t u y < 1000000
def Pk (n : Int) (t : List S76) (y : Int) (Dn : List Bool) (i : Nat) (p : Int) : Prop :=
  (p = -1 ∧ ∀ u, Node n u → u < i → ¬ Cd n t y Dn u) ∨ (Node n p ∧ Cd n t y Dn p ∧ ∀ u, Node n u → u < i → Cd n t y Dn u → D n t p y ≤ D n t u y)
theorem pick {n : Int} {t : List S76} (hn : 1 ≤ n ∧ n ≤ 10) {y : Int} {Bk S W : List Int} {Dn : List Bool} (r : Int)
    (hB : ((Bk.length : Int) = n) ∧ ∀ v, Node n v → rd Bk v = D n t v y) (lD : (Dn.length : Int) = n) : ∀ (d k i : Nat) (p : Int), (i : Int) + d = n → Pk n t y Dn i p →
    ∃ q, Pk n t y Dn n.toNat q ∧ spec_l03Steps.l2 (k + d) y Bk S W Dn r p i n t = spec_l03Steps.l2 k y Bk S W Dn r q n n t := by
  intro d
  induction d with
  | zero =>
    intro k i p hi hp
    have e : n.toNat = i := by omega
    have e2 : n = (i : Int) := by omega
    refine ⟨p, by rw [e]; exact hp, ?_⟩
    rw [Nat.add_zero, ← e2]
  | succ d ih =>
    intro k i p hi hp
    have e1 : (i : Int) + 1 = ((i + 1 : Nat) : Int) := by omega
    have hi' : Node n (i : Int) := ⟨by omega, by omega⟩
    have lB := hB.1
    have split : ∀ u : Int, Node n u → u < ((i + 1 : Nat) : Int) → u < i ∨ u = i := fun u _ hu => by omega
    show ∃ q, _ ∧ spec_l03Steps.l2 ((k + d) + 1) y Bk S W Dn r p i n t = _
    simp only [spec_l03Steps.l2]
    rw [if_pos (by omega), if_pos (by omega), if_pos (by omega), wr1' (by omega), e1, hB.2 _ hi']
    by_cases h1 : rdOf false Dn (i : Int) = true
    · rw [if_pos h1]
      refine ih k (i + 1) p (by omega) ?_
      have no : ¬ Cd n t y Dn i := fun h => by have := h.1; rw [h1] at this; cases this
      rcases hp with ⟨a, b⟩ | ⟨a, b, c⟩
      · refine .inl ⟨a, fun u hu hl => ?_⟩
        rcases split u hu hl with h | h
        · exact b u hu h
        · rw [h]; exact no
      · refine .inr ⟨a, b, fun u hu hl hc => ?_⟩
        rcases split u hu hl with h | h
        · exact c u hu h hc
        · rw [h] at hc; exact absurd hc no
    · have h1' : rdOf false Dn (i : Int) = false := by simpa using h1
      rw [if_neg h1, if_pos (by omega)]
      by_cases h2 : D n t i y < 1000000
      · rw [if_pos h2]
        have yes : Cd n t y Dn i := ⟨h1', h2⟩
        rcases hp with ⟨a, b⟩ | ⟨a, b, c⟩
        · rw [if_pos (by omega)]
          refine ih k (i + 1) i (by omega) (.inr ⟨hi', yes, fun u hu hl hc => ?_⟩)
          rcases split u hu hl with h | h
          · exact absurd hc (b u hu h)
          · rw [h]; exact Int.le_refl _
        · have a2 := a
          unfold Node at a2
          rw [if_neg (by omega), if_pos a2.1, if_pos (by omega), hB.2 _ a]
          by_cases h3 : D n t i y < D n t p y
          · rw [if_pos h3]
            refine ih k (i + 1) i (by omega) (.inr ⟨hi', yes, fun u hu hl hc => ?_⟩)
            rcases split u hu hl with h | h
            · have := c u hu h hc; omega
            · rw [h]; exact Int.le_refl _
          · rw [if_neg h3]
            refine ih k (i + 1) p (by omega) (.inr ⟨a, b, fun u hu hl hc => ?_⟩)
            rcases split u hu hl with h | h
            · exact c u hu h hc
            · rw [h]; omega
      · rw [if_neg h2]
        have no : ¬ Cd n t y Dn i := fun h => h2 h.2
        refine ih k (i + 1) p (by omega) ?_
        rcases hp with ⟨a, b⟩ | ⟨a, b, c⟩
        · refine .inl ⟨a, fun u hu hl => ?_⟩
          rcases split u hu hl with h | h
          · exact b u hu h
          · rw [h]; exact no
        · refine .inr ⟨a, b, fun u hu hl hc => ?_⟩
          rcases split u hu hl with h | h
          · exact c u hu h hc
          · rw [h] at hc; exact absurd hc no
theorem rdb_set {o : List Bool} {i j : Int} (v : Bool) (h0 : 0 ≤ i) (h1 : i < o.length) (hj : 0 ≤ j) : rdOf false (o.set i.toNat v) j = if i = j then v else rdOf false o j := by
  unfold rdOf
  rw [List.getD_eq_getElem?_getD, List.getD_eq_getElem?_getD, List.getElem?_set]
  by_cases c : i = j
  · subst c
    rw [if_pos rfl, if_pos (by omega), if_pos rfl]
    rfl
  · rw [if_neg (by omega), if_neg c]
theorem minz_lim {M : Int} {f : Int → Int} : ∀ (l : List Int) (s : Int), 0 ≤ s → s ≤ M → (∀ z ∈ l, 0 ≤ f z ∧ f z ≤ M) → 0 ≤ l.foldl (fun s z => minz s (f z)) s ∧ l.foldl (fun s z => minz s (f z)) s ≤ M
  | [], s, h0, h1, _ => ⟨h0, h1⟩
  | a :: l, s, h0, h1, h => by
    have ha := h a List.mem_cons_self
    simp only [List.foldl_cons]
    refine minz_lim l _ ?_ ?_ (fun b hb => h b (List.mem_cons_of_mem _ hb))
    · unfold minz; split
      · exact ha.1
      · split <;> omega
    · unfold minz; split
      · exact ha.2
      · split <;> omega
/-- How many nodes are not done. -/
def nd (n : Int) (Dn : List Bool) : Nat := ((List.range n.toNat).filter fun (u : Nat) => !rdOf false Dn (u : Int)).length
structure Stp (n : Int) (t : List S76) (y : Int) (r : Nat) (S W : List Int) (Dn : List Bool) : Prop where
  lS : (S.length : Int) = n
  lW : (W.length : Int) = n
  lD : (Dn.length : Int) = n
  done : ∀ v, Node n v → rdOf false Dn v = true → D n t v y < 1000000 ∧ rd S v = steps n t y v ∧ rd W v = ways n t y v ∧ ∀ u, Node n u → D n t u y < D n t v y → rdOf false Dn u = true
  left : ∀ v, Node n v → rdOf false Dn v = false → rd S v = 0 ∧ rd W v = 0
  bW : ∀ v, Node n v → 0 ≤ rd W v ∧ rd W v ≤ (10 : Int) ^ r
  bS : ∀ v, Node n v → 0 ≤ rd S v ∧ rd S v ≤ (r : Int)
  cnt : nd n Dn + r ≤ n.toNat
/-- What l03Steps comes to. -/
def Fin (n : Int) (t : List S76) (y : Int) (S W : List Int) : Prop := (S.length : Int) = n ∧ (W.length : Int) = n ∧ ∀ v, Node n v → (D n t v y < 1000000 → rd S v = steps n t y v ∧ rd W v = ways n t y v) ∧ (¬ D n t v y < 1000000 → rd S v = 0 ∧ rd W v = 0) ∧ 0 ≤ rd W v ∧ rd W v ≤ 10000000000 ∧ 0 ≤ rd S v ∧ rd S v ≤ 10
theorem pow10 {r : Nat} (h : r ≤ 10) : (10 : Int) ^ r ≤ 10000000000 := by
  have e : r = 0 ∨ r = 1 ∨ r = 2 ∨ r = 3 ∨ r = 4 ∨ r = 5 ∨ r = 6 ∨ r = 7 ∨ r = 8 ∨ r = 9 ∨ r = 10 := by omega
  rcases e with rfl | rfl | rfl | rfl | rfl | rfl | rfl | rfl | rfl | rfl | rfl <;> decide
theorem Stp.fin {n : Int} {t : List S76} {y : Int} {r : Nat} {S W : List Int} {Dn : List Bool} (h : Stp n t y r S W Dn) (hr : r ≤ 10) (ha : ∀ v, Node n v → ¬ Cd n t y Dn v) : Fin n t y S W := by
  refine ⟨h.lS, h.lW, fun v hv => ?_⟩
  have p := pow10 hr
  have b1 := h.bW v hv
  have b2 := h.bS v hv
  refine ⟨fun hd => ?_, fun hd => ?_, b1.1, by omega, b2.1, by omega⟩
  · by_cases c : rdOf false Dn v = true
    · have := h.done v hv c
      exact ⟨this.2.1, this.2.2.1⟩
    · exact absurd ⟨by simpa using c, hd⟩ (ha v hv)
  · by_cases c : rdOf false Dn v = true
    · exact absurd (h.done v hv c).1 hd
    · exact h.left v hv (by simpa using c)
theorem hopsR_len {n : Int} (hn : 1 ≤ n ∧ n ≤ 10) (t : List S76) (x y : Int) : (hopsR n t x y).length ≤ 10 := by
  unfold hopsR
  refine Nat.le_trans (List.length_filter_le _ _) ?_
  rw [List.length_map, List.length_range']
  omega
theorem Stp.next {n : Int} {t : List S76} (g : Gok n t) {y a : Int} (hy : Node n y) {r : Nat} {S W : List Int} {Dn : List Bool} (h : Stp n t y r S W Dn) (ha : Node n a) (hc : Cd n t y Dn a) (hm : ∀ u, Node n u → Cd n t y Dn u → D n t a y ≤ D n t u y) :
    Stp n t y (r + 1) (S.set a.toNat (if a = y then 1 else (hopsR n t a y).foldl (fun s z => minz s (rd S z + 1)) (rd S a))) (W.set a.toNat (if a = y then 1 else sm (rd W) (hopsR n t a y))) (Dn.set a.toNat true) := by
  have hn := g.1
  have ha2 := ha
  unfold Node at ha2
  have lS := h.lS
  have lW := h.lW
  have lD := h.lD
  have below : ∀ u, Node n u → D n t u y < D n t a y → rdOf false Dn u = true := fun u hu hl => by
    by_cases c : rdOf false Dn u = true
    · exact c
    · have := hm u hu ⟨by simpa using c, by have := hc.2; omega⟩
      omega
  have rS : ∀ v s, Node n v → rd (S.set a.toNat s) v = if a = v then s else rd S v := fun v s hv => by
    unfold Node at hv; exact rdn_set _ ha2.1 (by omega) hv.1
  have rW : ∀ v s, Node n v → rd (W.set a.toNat s) v = if a = v then s else rd W v := fun v s hv => by
    unfold Node at hv; exact rdn_set _ ha2.1 (by omega) hv.1
  have rD : ∀ v, Node n v → rdOf false (Dn.set a.toNat true) v = if a = v then true else rdOf false Dn v := fun v hv => by
    unfold Node at hv; exact rdb_set _ ha2.1 (by omega) hv.1
  have z0 := h.left a ha hc.1
  have hops : ∀ z ∈ hopsR n t a y, Node n z ∧ rd S z = steps n t y z ∧ rd W z = ways n t y z := fun z hz => by
    rw [← hops_eq g ha] at hz
    obtain ⟨p1, p2, _⟩ := hop_lt g hz
    have := h.done z p1 (below z p1 p2)
    exact ⟨p1, this.2.1, this.2.2.1⟩
  obtain ⟨s1, hs1⟩ : ∃ s1, s1 = (if a = y then 1 else (hopsR n t a y).foldl (fun s z => minz s (rd S z + 1)) (rd S a)) := ⟨_, rfl⟩
  obtain ⟨w1, hw1⟩ : ∃ w1, w1 = (if a = y then 1 else sm (rd W) (hopsR n t a y)) := ⟨_, rfl⟩
  have vs : s1 = steps n t y a ∧ w1 = ways n t y a := by
    rw [hs1, hw1]
    by_cases c : a = y
    · rw [if_pos c, if_pos c, c]
      exact ⟨(ways_at n t y).2.symm, (ways_at n t y).1.symm⟩
    · have := ways_eq g hy c
      rw [if_neg c, if_neg c, this.1, this.2, hops_eq g ha, z0.1]
      exact ⟨fold_congr' _ _ (fun z hz s => by rw [(hops z hz).2.1]), sm_congr _ (fun z hz => (hops z hz).2.2)⟩
  have bs : 0 ≤ s1 ∧ s1 ≤ (r : Int) + 1 := by
    rw [hs1]
    by_cases c : a = y
    · rw [if_pos c]; omega
    · rw [if_neg c, z0.1]
      refine minz_lim (f := fun z => rd S z + 1) _ 0 (Int.le_refl _) (by omega) (fun z hz => ?_)
      have := h.bS z (hops z hz).1
      omega
  have p10 : (10 : Int) ^ (r + 1) = (10 : Int) ^ r * 10 := Int.pow_succ ..
  have p0 : 0 ≤ (10 : Int) ^ r := Int.le_trans (h.bW a ha).1 (h.bW a ha).2
  have p1 : 1 ≤ (10 : Int) ^ r := by
    have : (0 : Int) < (10 : Int) ^ r := Int.pow_pos (by decide)
    omega
  have bw : 0 ≤ w1 ∧ w1 ≤ (10 : Int) ^ (r + 1) := by
    rw [hw1, p10]
    by_cases c : a = y
    · rw [if_pos c]; omega
    · rw [if_neg c]
      refine ⟨sm_nonneg _ (fun z hz => (h.bW z (hops z hz).1).1), Int.le_trans (sm_le _ (fun z hz => (h.bW z (hops z hz).1).2)) ?_⟩
      exact Int.mul_le_mul_of_nonneg_left (by have := hopsR_len hn t a y; omega) p0
  rw [← hs1, ← hw1]
  refine ⟨by rw [List.length_set]; exact lS, by rw [List.length_set]; exact lW, by rw [List.length_set]; exact lD, fun v hv hd => ?_, fun v hv hd => ?_, fun v hv => ?_, fun v hv => ?_, ?_⟩
  · rw [rS v _ hv, rW v _ hv]
    by_cases c : a = v
    · rw [if_pos c, if_pos c, ← c]
      refine ⟨hc.2, vs.1, vs.2, fun u hu hl => ?_⟩
      rw [rD u hu]
      split
      · rfl
      · exact below u hu hl
    · rw [rD v hv, if_neg c] at hd
      rw [if_neg c, if_neg c]
      obtain ⟨q1, q2, q3, q4⟩ := h.done v hv hd
      refine ⟨q1, q2, q3, fun u hu hl => ?_⟩
      rw [rD u hu]
      split
      · rfl
      · exact q4 u hu hl
  · rw [rD v hv] at hd
    by_cases c : a = v
    · rw [if_pos c] at hd; cases hd
    · rw [if_neg c] at hd
      rw [rS v _ hv, rW v _ hv, if_neg c, if_neg c]
      exact h.left v hv hd
  · rw [rW v _ hv]
    by_cases c : a = v
    · rw [if_pos c]; exact bw
    · rw [if_neg c, p10]
      have := h.bW v hv
      omega
  · rw [rS v _ hv]
    by_cases c : a = v
    · rw [if_pos c]; omega
    · rw [if_neg c]
      have := h.bS v hv
      omega
  · have hlt : nd n (Dn.set a.toNat true) < nd n Dn := by
      unfold nd
      refine filter_lt' _ _ _ (fun u hu q => ?_) ⟨a.toNat, List.mem_range.2 (by omega), ?_⟩
      · have hu2 := List.mem_range.1 hu
        rw [rD (u : Int) ⟨by omega, by omega⟩] at q
        by_cases c : a = (u : Int)
        · rw [if_pos c] at q; cases q
        · rw [if_neg c] at q; exact q
      · have e : ((a.toNat : Nat) : Int) = a := by omega
        rw [e, rD a ha, if_pos rfl, hc.1]
        exact ⟨rfl, by decide⟩
    have := h.cnt
    omega
theorem nd_zero {n : Int} {Dn : List Bool} (h : nd n Dn = 0) {v : Int} (hv : Node n v) : rdOf false Dn v = true := by
  unfold Node at hv
  unfold nd at h
  have h0 := List.eq_nil_of_length_eq_zero h
  by_cases c : rdOf false Dn v = true
  · exact c
  · have e : ((v.toNat : Nat) : Int) = v := by omega
    have : v.toNat ∈ (List.range n.toNat).filter fun (u : Nat) => !rdOf false Dn (u : Int) := by
      rw [List.mem_filter]
      refine ⟨List.mem_range.2 (by omega), ?_⟩
      rw [e]
      simpa using c
    rw [h0] at this
    cases this
theorem steps_rounds {n : Int} {t : List S76} (g : Gok n t) {y : Int} (hy : Node n y) {Bk : List Int} (hB : ((Bk.length : Int) = n) ∧ ∀ v, Node n v → rd Bk v = D n t v y) :
    ∀ (d k r : Nat) (S W : List Int) (Dn : List Bool), r + d = n.toNat → d * 40 + (t.length + 60) < k → Stp n t y r S W Dn →
      ∃ S' W', Fin n t y S' W' ∧ spec_l03Steps.l1 k y Bk S W Dn r n t = some (S', W') := by
  have hn := g.1
  have hl : t.length ≤ 60 := g.2.1
  intro d
  induction d with
  | zero =>
    intro k r S W Dn hr hk h
    obtain ⟨k, rfl⟩ : ∃ m, k = m + 1 := ⟨k - 1, by omega⟩
    refine ⟨S, W, h.fin (by omega) (fun v hv c => ?_), ?_⟩
    · have := nd_zero (n := n) (Dn := Dn) (by have := h.cnt; omega) hv
      have q := c.1
      rw [this] at q
      cases q
    · simp only [spec_l03Steps.l1]
      rw [if_neg (by omega)]
  | succ d ih =>
    intro k r S W Dn hr hk h
    obtain ⟨k, rfl⟩ : ∃ m, k = (m + 1 + n.toNat) + 1 := ⟨k - 2 - n.toNat, by omega⟩
    obtain ⟨q, q1, q2⟩ := pick (S := S) (W := W) hn (r : Int) hB h.lD n.toNat (k + 1) 0 (-1) (by omega) (.inl ⟨rfl, fun u hu hl => by unfold Node at hu; omega⟩)
    have q2' : spec_l03Steps.l2 (k + 1 + n.toNat) y Bk S W Dn r (-1) 0 n t = spec_l03Steps.l2 (k + 1) y Bk S W Dn r q n n t := q2
    have lB := hB.1
    have lD := h.lD
    have lS := h.lS
    have lW := h.lW
    simp only [spec_l03Steps.l1]
    rw [if_pos (by omega), q2']
    simp only [spec_l03Steps.l2]
    rw [if_neg (by omega)]
    rcases q1 with ⟨a, b⟩ | ⟨a, b, c⟩
    · rw [if_pos (by omega)]
      exact ⟨S, W, h.fin (by omega) (fun v hv => b v hv (by unfold Node at hv; omega)), rfl⟩
    · have a2 := a
      unfold Node at a2
      have hm : ∀ u, Node n u → Cd n t y Dn u → D n t q y ≤ D n t u y := fun u hu hc => c u hu (by unfold Node at hu; omega) hc
      have nx := h.next g hy a b hm
      have e1 : (r : Int) + 1 = ((r + 1 : Nat) : Int) := by omega
      rw [if_neg (by omega), if_pos a2.1, if_pos (by omega)]
      simp only [Option.bind_some]
      by_cases cy : q = y
      · rw [if_pos cy, if_pos (by omega), if_pos (by omega), wr1' (by omega), e1]
        rw [if_pos cy, if_pos cy] at nx
        exact ih k (r + 1) _ _ _ (by omega) (by omega) nx
      · rw [if_neg cy]
        rw [if_neg cy, if_neg cy] at nx
        have z0 := h.left q a b.1
        have p := pow10 (r := r) (by omega)
        obtain ⟨k', g1, g2⟩ := gather (S := S) (W := W) (Bk := Bk) (Dn := Dn.set q.toNat true) g hy a b.2 (r : Int) hB lS lW ((10 : Int) ^ r) (by omega) h.bW (fun v hv => by have := h.bS v hv; omega) z0.2 n.toNat k 0 [] (by omega) (by omega) (by simp)
        have hse : S.set q.toNat (rd S q) = S := by
          have := set_self (o := S) (i := q.toNat) (by omega)
          exact this
        have hwe : W.set q.toNat 0 = W := by
          have := set_self (o := W) (i := q.toNat) (by omega)
          have e : W.getD q.toNat 0 = 0 := z0.2
          rw [e] at this
          exact this
        have g2' : spec_l03Steps.l3 k y Bk S W (Dn.set q.toNat true) r q 0 n t = spec_l03Steps.l1 k' y Bk (S.set q.toNat ((hopsR n t q y).foldl (fun s z => minz s (rd S z + 1)) (rd S q))) (W.set q.toNat (sm (rd W) (hopsR n t q y))) (Dn.set q.toNat true) (wrap64 ((r : Int) + 1)) n t := by
          have := g2
          simp only [List.foldl_nil, sm, hse, hwe] at this
          exact this
        rw [g2', wr1' (by omega), e1]
        exact ih k' (r + 1) _ _ _ (by omega) (by omega) nx
theorem Stp.start {n : Int} (hn : 1 ≤ n ∧ n ≤ 10) (t : List S76) (y : Int) : Stp n t y 0 (List.replicate n.toNat 0) (List.replicate n.toNat 0) (List.replicate n.toNat false) := by
  have rb : ∀ v, Node n v → rdOf false (List.replicate n.toNat false) v = false := fun v hv => by
    unfold Node at hv
    unfold rdOf
    rw [List.getD_eq_getElem?_getD, List.getElem?_replicate, if_pos (by omega)]
    rfl
  have ri : ∀ v, Node n v → rd (List.replicate n.toNat 0) v = 0 := fun v hv => by
    unfold Node at hv
    exact rd_rep' hv.1 (by omega)
  refine ⟨by rw [List.length_replicate]; omega, by rw [List.length_replicate]; omega, by rw [List.length_replicate]; omega, fun v hv hd => ?_, fun v hv _ => ⟨ri v hv, ri v hv⟩, fun v hv => ?_, fun v hv => ?_, ?_⟩
  · rw [rb v hv] at hd; cases hd
  · rw [ri v hv]; exact ⟨Int.le_refl _, by decide⟩
  · rw [ri v hv]; exact ⟨Int.le_refl _, Int.le_refl _⟩
  · unfold nd
    have := List.length_filter_le (fun (u : Nat) => !rdOf false (List.replicate n.toNat false) (u : Int)) (List.range n.toNat)
    rw [List.length_range] at this
    omega
theorem spec_back {n : Int} {t : List S76} (g : Gok n t) {y : Int} (hy : Node n y) : ∀ (d k i : Nat), (i : Int) + d = n → d + (t.length * 12 + 62) < k →
    spec_l03Steps.l0 k y ((List.range i).map fun (j : Nat) => D n t j y) i n t = spec_l03Steps.l1 (k - d - 1) y ((List.range n.toNat).map fun (j : Nat) => D n t j y) (List.replicate n.toNat 0) (List.replicate n.toNat 0) (List.replicate n.toNat false) 0 n t := by
  have hn := g.1
  have hl : t.length ≤ 60 := g.2.1
  have hy2 := hy
  unfold Node at hy2
  intro d
  induction d with
  | zero =>
    intro k i hi hk
    obtain ⟨k, rfl⟩ : ∃ m, k = m + 1 := ⟨k - 1, by omega⟩
    have e : n.toNat = i := by omega
    simp only [spec_l03Steps.l0]
    rw [if_neg (by omega), if_pos (by omega), if_pos (by omega), if_pos (by omega), e]
    rfl
  | succ d ih =>
    intro k i hi hk
    obtain ⟨k, rfl⟩ : ∃ m, k = m + 1 := ⟨k - 1, by omega⟩
    have e1 : (i : Int) + 1 = ((i + 1 : Nat) : Int) := by omega
    have hi' : Node n (i : Int) := ⟨by omega, by omega⟩
    have dl := (dist_ok g (i : Int)).1
    simp only [spec_l03Steps.l0]
    rw [if_pos (by omega), spec_Dist' g hi' (by omega)]
    simp only [Option.bind_some]
    rw [if_pos hy2.1, if_pos (by omega), if_pos (by rw [List.length_map, List.length_range]; omega), wr1' (by omega), e1]
    have z := ih k (i + 1) (by omega) (by omega)
    have e2 : ((List.range (i + 1)).map fun (j : Nat) => D n t j y) = ((List.range i).map fun (j : Nat) => D n t j y) ++ [rd (dist n t i) y] := by
      rw [List.range_succ, List.map_append]
      rfl
    rw [← e2, z]
    congr 1
    omega
theorem back_rd {n : Int} (t : List S76) {y v : Int} (hv : Node n v) : rd ((List.range n.toNat).map fun (j : Nat) => D n t j y) v = D n t v y := by
  unfold Node at hv
  unfold rd
  rw [List.getD_eq_getElem?_getD, List.getElem?_map, List.getElem?_range (by omega)]
  simp only [Option.map_some, Option.getD_some]
  have e : ((v.toNat : Nat) : Int) = v := by omega
  rw [e]
theorem spec_Steps {n : Int} {t : List S76} (g : Gok n t) {y : Int} (hy : Node n y) {k : Nat} (hk : t.length * 12 + 700 < k) : ∃ S W, Fin n t y S W ∧ spec_l03Steps.f k n t y = some (S, W) := by
  have hn := g.1
  have hl : t.length ≤ 60 := g.2.1
  obtain ⟨S, W, h1, h2⟩ := steps_rounds g hy (Bk := (List.range n.toNat).map fun (j : Nat) => D n t j y) ⟨by rw [List.length_map, List.length_range]; omega, fun v hv => back_rd t hv⟩ n.toNat (k - n.toNat - 1) 0 _ _ _ (by omega) (by omega) (Stp.start hn t y)
  refine ⟨S, W, h1, ?_⟩
  have z := spec_back g hy n.toNat k 0 (by omega) (by omega)
  have z' : spec_l03Steps.l0 k y [] 0 n t = _ := z
  unfold spec_l03Steps.f
  rw [z']
  exact h2
theorem minz_min {f : Int → Int} : ∀ (l : List Int) (s : Int), (∀ z ∈ l, 1 ≤ f z) → 0 ≤ s → (s = 0 → ∃ z, z ∈ l) →
    (1 ≤ l.foldl (fun s z => minz s (f z)) s) ∧ (∀ z ∈ l, l.foldl (fun s z => minz s (f z)) s ≤ f z) ∧ (s ≠ 0 → l.foldl (fun s z => minz s (f z)) s ≤ s) ∧ ((∃ z ∈ l, l.foldl (fun s z => minz s (f z)) s = f z) ∨ (s ≠ 0 ∧ l.foldl (fun s z => minz s (f z)) s = s))
  | [], s, _, h0, hs => by
    have hne : s ≠ 0 := fun e => by obtain ⟨z, hz⟩ := hs e; cases hz
    have h1 : 1 ≤ s := by omega
    exact And.intro h1 (And.intro (fun z hz => absurd hz (by simp)) (And.intro (fun _ => Int.le_refl _) (Or.inr (And.intro hne rfl))))
  | a :: l, s, h, h0, _ => by
    have ha := h a List.mem_cons_self
    have hl : ∀ z ∈ l, 1 ≤ f z := fun b hb => h b (List.mem_cons_of_mem _ hb)
    have hm : minz s (f a) ≠ 0 ∧ 0 ≤ minz s (f a) ∧ minz s (f a) ≤ f a ∧ (s ≠ 0 → minz s (f a) ≤ s) ∧ (minz s (f a) = f a ∨ s ≠ 0 ∧ minz s (f a) = s) := by
      unfold minz
      by_cases c : s = 0
      · rw [if_pos c]; exact ⟨by omega, by omega, Int.le_refl _, fun e => absurd c e, .inl rfl⟩
      · rw [if_neg c]
        by_cases c2 : f a < s
        · rw [if_pos c2]; exact ⟨by omega, by omega, Int.le_refl _, fun _ => by omega, .inl rfl⟩
        · rw [if_neg c2]; exact ⟨c, h0, by omega, fun _ => Int.le_refl _, .inr ⟨c, rfl⟩⟩
    obtain ⟨m1, m2, m3, m4, m5⟩ := hm
    obtain ⟨q1, q2, q3, q4⟩ := minz_min l (minz s (f a)) hl m2 (fun e => absurd e m1)
    simp only [List.foldl_cons]
    refine ⟨q1, fun z hz => ?_, fun e => Int.le_trans (q3 m1) (m4 e), ?_⟩
    · rcases List.mem_cons.1 hz with rfl | hz
      · exact Int.le_trans (q3 m1) m3
      · exact q2 z hz
    · rcases q4 with ⟨z, hz, e⟩ | ⟨_, e⟩
      · exact .inl ⟨z, List.mem_cons_of_mem _ hz, e⟩
      · rcases m5 with m5 | ⟨m6, m5⟩
        · exact .inl ⟨a, List.mem_cons_self, by rw [e, m5]⟩
        · exact .inr ⟨m6, by rw [e, m5]⟩
/-- Steps, where the target can be reached: one at the target, else one more than the least of the hops. -/
theorem steps_pos {n : Int} {t : List S76} (g : Gok n t) {y : Int} (hy : Node n y) : ∀ (N : Nat) (x : Int), (D n t x y).toNat ≤ N → Node n x → D n t x y < 1000000 → 1 ≤ steps n t y x ∧ 1 ≤ ways n t y x := by
  intro N
  induction N with
  | zero =>
    intro x hN hx hf
    by_cases c : x = y
    · rw [c, (ways_at n t y).1, (ways_at n t y).2]
      exact ⟨Int.le_refl _, Int.le_refl _⟩
    · obtain ⟨z, hz⟩ := hop_ex g hx hy c hf
      have := (hop_lt g hz).2.1
      have := D_lim g z hy
      omega
  | succ N ih =>
    intro x hN hx hf
    by_cases c : x = y
    · rw [c, (ways_at n t y).1, (ways_at n t y).2]
      exact ⟨Int.le_refl _, Int.le_refl _⟩
    · obtain ⟨z, hz⟩ := hop_ex g hx hy c hf
      have key : ∀ z ∈ hopsL n t x y, 1 ≤ steps n t y z ∧ 1 ≤ ways n t y z := fun z hz => by
        obtain ⟨p1, p2, _⟩ := hop_lt g hz
        have := D_lim g z hy
        exact ih z (by omega) p1 (by omega)
      obtain ⟨e1, e2⟩ := ways_eq g (x := x) hy c
      rw [e1, e2]
      refine ⟨(minz_min (f := fun z => steps n t y z + 1) _ 0 (fun z hz => by have := (key z hz).1; omega) (Int.le_refl _) (fun _ => ⟨z, hz⟩)).1, ?_⟩
      have := sm_pos (f := ways n t y) (hopsL n t x y) (fun z hz => by have := (key z hz).2; omega) ⟨z, hz, by have := (key z hz).2; omega⟩
      omega
theorem steps_min {n : Int} {t : List S76} (g : Gok n t) {x y : Int} (hx : Node n x) (hy : Node n y) (hxy : x ≠ y) (hf : D n t x y < 1000000) :
    (∀ z ∈ hopsL n t x y, steps n t y x ≤ steps n t y z + 1) ∧ ∃ z ∈ hopsL n t x y, steps n t y x = steps n t y z + 1 := by
  obtain ⟨z, hz⟩ := hop_ex g hx hy hxy hf
  have key : ∀ z ∈ hopsL n t x y, 1 ≤ steps n t y z := fun z hz => by
    obtain ⟨p1, p2, _⟩ := hop_lt g hz
    exact (steps_pos g hy _ z (Nat.le_refl _) p1 (by omega)).1
  rw [(ways_eq g (x := x) hy hxy).2]
  obtain ⟨_, q2, _, q4⟩ := minz_min (f := fun z => steps n t y z + 1) (hopsL n t x y) 0 (fun z hz => by have := key z hz; omega) (Int.le_refl _) (fun _ => ⟨z, hz⟩)
  refine ⟨q2, ?_⟩
  rcases q4 with q4 | ⟨q4, _⟩
  · exact q4
  · exact absurd rfl q4
/-- One edge of the program's steps. -/
def rlx (n : Int) (t : List S76) (y : Int) (o : List Int) (e : S76) : List Int := if D n t e.f0 y < 1000000 ∧ e.f2 + D n t e.f1 y = D n t e.f0 y then o.set e.f0.toNat (mn (rd o e.f0) (rd o e.f1 + 1)) else o
/-- Lower bound, and what is kept. -/
def Low (n : Int) (t : List S76) (y : Int) (o : List Int) : Prop := Dok n o ∧ ∀ v, Node n v → (D n t v y < 1000000 → steps n t y v - 1 ≤ rd o v) ∧ (¬ D n t v y < 1000000 → rd o v = 1000000)
theorem tight {n : Int} {t : List S76} (g : Gok n t) {y : Int} {e : S76} (he : e ∈ t) (h : D n t e.f0 y < 1000000 ∧ e.f2 + D n t e.f1 y = D n t e.f0 y) (hy : Node n y) : e.f1 ∈ hopsL n t e.f0 y ∧ e.f0 ≠ y := by
  refine ⟨mem_hops.2 ⟨e, he, rfl, rfl, h.2⟩, fun c => ?_⟩
  obtain ⟨a1, a2, a3, a4, a5⟩ := g.mem he
  have := D_lim g e.f1 hy
  rw [c, D_self g hy] at h
  omega
theorem Low.rlx {n : Int} {t : List S76} (g : Gok n t) {y : Int} (hy : Node n y) {e : S76} (he : e ∈ t) {o : List Int} (h : Low n t y o) : Low n t y (Pure.rlx n t y o e) := by
  obtain ⟨a1, a2, a3, a4, a5⟩ := g.mem he
  obtain ⟨h1, h2⟩ := h
  have b1 := a1
  have b2 := a2
  unfold Node at b1 b2
  have hl := h1.1
  unfold Pure.rlx
  by_cases c : D n t e.f0 y < 1000000 ∧ e.f2 + D n t e.f1 y = D n t e.f0 y
  · rw [if_pos c]
    obtain ⟨p1, p2⟩ := tight g he c hy
    have s := (steps_min g a1 hy p2 c.1).1 _ p1
    have c0 := h2 e.f0 a1
    have c1 := h2 e.f1 a2
    have dl := D_lim g e.f1 hy
    have r0 := h1.2 _ (rd_mem (o := o) (i := e.f0) b1.1 (by omega))
    have r1 := h1.2 _ (rd_mem (o := o) (i := e.f1) b2.1 (by omega))
    have f1 : D n t e.f1 y < 1000000 := by omega
    have ml := mn_le (rd o e.f0) (rd o e.f1 + 1)
    have mg : steps n t y e.f0 - 1 ≤ mn (rd o e.f0) (rd o e.f1 + 1) ∧ 0 ≤ mn (rd o e.f0) (rd o e.f1 + 1) := by
      have := c0.1 c.1
      have := c1.1 f1
      unfold mn
      split <;> omega
    refine ⟨⟨by rw [List.length_set]; exact hl, fun v hv => ?_⟩, fun v hv => ?_⟩
    · rcases List.mem_or_eq_of_mem_set hv with hv | rfl
      · exact h1.2 v hv
      · omega
    · have hv2 := hv
      unfold Node at hv2
      rw [rdn_set _ b1.1 (by omega) hv2.1]
      by_cases q : e.f0 = v
      · rw [if_pos q, ← q]
        exact ⟨fun _ => mg.1, fun hh => absurd c.1 hh⟩
      · rw [if_neg q]
        exact h2 v hv
  · rw [if_neg c]
    exact ⟨h1, h2⟩
theorem rlx_le {n : Int} {t : List S76} (g : Gok n t) {y : Int} {e : S76} (he : e ∈ t) {o : List Int} (h : Dok n o) {v : Int} (hv : Node n v) : rd (Pure.rlx n t y o e) v ≤ rd o v := by
  obtain ⟨a1, a2, a3, a4, a5⟩ := g.mem he
  unfold Node at a1 a2 hv
  have := h.1
  unfold Pure.rlx
  by_cases c : D n t e.f0 y < 1000000 ∧ e.f2 + D n t e.f1 y = D n t e.f0 y
  · rw [if_pos c, rdn_set _ a1.1 (by omega) hv.1]
    by_cases q : e.f0 = v
    · rw [if_pos q, ← q]
      exact (mn_le _ _).1
    · rw [if_neg q]
      exact Int.le_refl _
  · rw [if_neg c]
    exact Int.le_refl _
theorem rlx_at {n : Int} {t : List S76} (g : Gok n t) {y : Int} {e : S76} (he : e ∈ t) {o : List Int} (h : Dok n o) (c : D n t e.f0 y < 1000000 ∧ e.f2 + D n t e.f1 y = D n t e.f0 y) : rd (Pure.rlx n t y o e) e.f0 ≤ rd o e.f1 + 1 := by
  obtain ⟨a1, a2, a3, a4, a5⟩ := g.mem he
  unfold Node at a1 a2
  have := h.1
  unfold Pure.rlx
  rw [if_pos c, rdn_set _ a1.1 (by omega) a1.1, if_pos rfl]
  exact (mn_le _ _).2
theorem Low.fold {n : Int} {t : List S76} (g : Gok n t) {y : Int} (hy : Node n y) : ∀ (s : List S76) (o : List Int), (∀ e ∈ s, e ∈ t) → Low n t y o → Low n t y (s.foldl (Pure.rlx n t y) o) := by
  intro s
  induction s with
  | nil => intro o _ h; exact h
  | cons e s ih => intro o hs h; exact ih _ (fun b hb => hs b (List.mem_cons_of_mem _ hb)) (h.rlx g hy (hs e List.mem_cons_self))
theorem rfold_le {n : Int} {t : List S76} (g : Gok n t) {y v : Int} (hy : Node n y) (hv : Node n v) : ∀ (s : List S76) (o : List Int), (∀ e ∈ s, e ∈ t) → Low n t y o → rd (s.foldl (Pure.rlx n t y) o) v ≤ rd o v := by
  intro s
  induction s with
  | nil => intro o _ _; exact Int.le_refl _
  | cons e s ih =>
    intro o hs h
    have he := hs e List.mem_cons_self
    have a := ih (Pure.rlx n t y o e) (fun b hb => hs b (List.mem_cons_of_mem _ hb)) (h.rlx g hy he)
    have b := rlx_le (y := y) g he h.1 hv
    exact Int.le_trans a b
theorem rfold_at {n : Int} {t : List S76} (g : Gok n t) {y : Int} (hy : Node n y) {e : S76} (c : D n t e.f0 y < 1000000 ∧ e.f2 + D n t e.f1 y = D n t e.f0 y) : ∀ (s : List S76) (o : List Int), (∀ e ∈ s, e ∈ t) → Low n t y o → e ∈ s → rd (s.foldl (Pure.rlx n t y) o) e.f0 ≤ rd o e.f1 + 1 := by
  intro s
  induction s with
  | nil => intro o _ _ h; cases h
  | cons b s ih =>
    intro o hs h he
    have hb := hs b List.mem_cons_self
    have hs2 : ∀ e ∈ s, e ∈ t := fun a ha => hs a (List.mem_cons_of_mem _ ha)
    obtain ⟨a1, a2, _⟩ := g.mem (hs e he)
    rcases List.mem_cons.1 he with rfl | he
    · exact Int.le_trans (rfold_le g hy a1 s _ hs2 (h.rlx g hy hb)) (rlx_at g hb h.1 c)
    · have a := ih (Pure.rlx n t y o b) hs2 (h.rlx g hy hb) he
      have b := rlx_le (y := y) g hb h.1 a2
      exact Int.le_trans a (by simpa using b)
def rrounds (n : Int) (t : List S76) (y : Int) : Nat → List Int → List Int
  | 0, o => o
  | d + 1, o => rrounds n t y d (t.foldl (Pure.rlx n t y) o)
theorem rrounds_succ (n : Int) (t : List S76) (y : Int) : ∀ (d : Nat) (o : List Int), rrounds n t y (d + 1) o = t.foldl (Pure.rlx n t y) (rrounds n t y d o)
  | 0, _ => rfl
  | d + 1, o => rrounds_succ n t y d (t.foldl (Pure.rlx n t y) o)
/-- How many nodes lie nearer to y than c. -/
def rky (n : Int) (t : List S76) (y c : Int) : Nat := ((List.range n.toNat).filter fun (u : Nat) => decide (D n t (u : Int) y < c)).length
theorem rky_lt {n : Int} {t : List S76} {y z c : Int} (hz : Node n z) (h : D n t z y < c) : rky n t y (D n t z y) < rky n t y c := by
  unfold Node at hz
  unfold rky
  have e : ((z.toNat : Nat) : Int) = z := by omega
  refine filter_lt' _ _ _ (fun u _ hu => ?_) ⟨z.toNat, List.mem_range.2 (by omega), ?_⟩
  · exact decide_eq_true (by have := of_decide_eq_true hu; omega)
  · rw [e]
    exact ⟨decide_eq_true h, fun hh => by have := of_decide_eq_true hh; omega⟩
theorem rky_le {n : Int} (t : List S76) (y c : Int) : rky n t y c ≤ n.toNat := by
  unfold rky
  exact Nat.le_trans (List.length_filter_le _ _) (by rw [List.length_range]; exact Nat.le_refl _)
theorem Low.rounds {n : Int} {t : List S76} (g : Gok n t) {y : Int} (hy : Node n y) : ∀ (d : Nat) {o : List Int}, Low n t y o → Low n t y (rrounds n t y d o)
  | 0, _, h => h
  | d + 1, _, h => Low.rounds g hy d (h.fold g hy t _ (fun _ h => h))
theorem up {n : Int} {t : List S76} (g : Gok n t) {y : Int} (hy : Node n y) {o : List Int} (h : Low n t y o) (h0 : rd o y ≤ 0) : ∀ (d : Nat) (v : Int), Node n v → D n t v y < 1000000 → v = y ∨ rky n t y (D n t v y) ≤ d → rd (rrounds n t y d o) v ≤ steps n t y v - 1 := by
  intro d
  induction d with
  | zero =>
    intro v hv hf hk
    by_cases c : v = y
    · rw [c, (ways_at n t y).2]
      exact h0
    · obtain ⟨z, hz⟩ := hop_ex g hv hy c hf
      have p := hop_lt g hz
      have := rky_lt p.1 p.2.1
      rcases hk with hk | hk
      · exact absurd hk c
      · omega
  | succ d ih =>
    intro v hv hf hk
    have hl := Low.rounds g hy d h
    rw [rrounds_succ]
    by_cases c : v = y
    · have a := ih v hv hf (.inl c)
      exact Int.le_trans (rfold_le g hy hv t _ (fun _ h => h) hl) a
    · obtain ⟨z, hz, hs⟩ := (steps_min g hv hy c hf).2
      have p := hop_lt g hz
      have r := rky_lt p.1 p.2.1
      have a := ih z p.1 (by omega) (.inr (by rcases hk with hk | hk; exact absurd hk c; omega))
      obtain ⟨e, he, e0, e1, e2⟩ := mem_hops.1 hz
      subst e0
      subst e1
      have b := rfold_at g hy ⟨hf, e2⟩ t _ (fun _ h => h) hl he
      omega
theorem Low.start {n : Int} {t : List S76} (g : Gok n t) {y : Int} (hy : Node n y) (hb : ∀ v, Node n v → D n t v y < 1000000 → steps n t y v ≤ 1000001) : Low n t y ((List.replicate n.toNat 1000000).set y.toNat 0) := by
  refine ⟨Dok.start g.1, fun v hv => ?_⟩
  rw [start_rd hy hv]
  by_cases c : y = v
  · rw [if_pos c, ← c, (ways_at n t y).2]
    exact ⟨fun _ => by omega, fun hh => absurd (by rw [D_self g hy]; omega) hh⟩
  · rw [if_neg c]
    exact ⟨fun hf => by have := hb v hv hf; omega, fun _ => rfl⟩
theorem steps_le {n : Int} {t : List S76} (g : Gok n t) {y : Int} (hy : Node n y) : ∀ (N : Nat) (x : Int), (D n t x y).toNat ≤ N → Node n x → D n t x y < 1000000 → steps n t y x ≤ D n t x y + 1 := by
  intro N
  induction N with
  | zero =>
    intro x hN hx hf
    have l := D_lim g x hy
    by_cases c : x = y
    · rw [c, (ways_at n t y).2]
      rw [c] at l
      omega
    · obtain ⟨z, hz⟩ := hop_ex g hx hy c hf
      have := (hop_lt g hz).2.1
      have := D_lim g z hy
      omega
  | succ N ih =>
    intro x hN hx hf
    have l := D_lim g x hy
    by_cases c : x = y
    · rw [c, (ways_at n t y).2]
      rw [c] at l
      omega
    · obtain ⟨z, hz, e⟩ := (steps_min g hx hy c hf).2
      obtain ⟨p1, p2, _⟩ := hop_lt g hz
      have := D_lim g z hy
      have := ih z (by omega) p1 (by omega)
      omega
theorem allD_at {n : Int} {t : List S76} (g : Gok n t) {x : Int} (hx : Node n x) (y : Int) : rd (rd_L4 (allD n t) x) y = D n t x y ∧ ((rd_L4 (allD n t) x).length : Int) = n := by
  rw [allD_rd t hx]
  exact ⟨rfl, (dist_ok g x).1⟩
theorem steps_inner {n : Int} {t : List S76} (g : Gok n t) {y : Int} (hy : Node n y) (k : Nat) (r : Int) : ∀ (d i K : Nat) (o : List Int), i + d = t.length → K = k + d + 1 → Dok n o →
    (∀ s : List S76, (∀ e ∈ s, e ∈ t) → Dok n (s.foldl (Pure.rlx n t y) o)) →
    impl_Graph_steps.l1 K y (allD n t) o n r t t.length i n t = impl_Graph_steps.l0 k y (allD n t) ((t.drop i).foldl (Pure.rlx n t y) o) n (wrap64 (r + 1)) n t := by
  have hl : t.length ≤ 60 := g.2.1
  have hA := allD_len g.1 t
  have hy2 := hy
  unfold Node at hy2
  intro d
  induction d with
  | zero =>
    intro i K o hi hK ho _
    obtain rfl : i = t.length := by omega
    obtain rfl : K = k + 1 := by omega
    simp only [impl_Graph_steps.l1]
    rw [if_neg (by omega), List.drop_length]; rfl
  | succ d ih =>
    intro i K o hi hK ho hall
    obtain ⟨K, rfl⟩ : ∃ m, K = m + 1 := ⟨K - 1, by omega⟩
    have hil : i < t.length := by omega
    have e1 : (i : Int) + 1 = ((i + 1 : Nat) : Int) := by omega
    have hmem : rd_T76 t i ∈ t := by
      rw [rdE_get, List.getD_eq_getElem?_getD, List.getElem?_eq_getElem hil]; exact List.getElem_mem hil
    obtain ⟨a1, a2, a3, a4, a5⟩ := g.mem hmem
    have hd : Dok n (Pure.rlx n t y o (rd_T76 t i)) := hall [rd_T76 t i] (fun e he => by rw [List.mem_singleton.1 he]; exact hmem)
    have hall2 : ∀ s : List S76, (∀ e ∈ s, e ∈ t) → Dok n (s.foldl (Pure.rlx n t y) (Pure.rlx n t y o (rd_T76 t i))) := fun s hs => hall (rd_T76 t i :: s) (fun e he => by rcases List.mem_cons.1 he with rfl | he; exact hmem; exact hs e he)
    have hlen := ho.1
    obtain ⟨q1, q2⟩ := allD_at g a1 y
    obtain ⟨q3, q4⟩ := allD_at g a2 y
    have d1 := D_lim g (rd_T76 t i).f1 hy
    unfold Node at a1 a2
    have b1 := ho.2 _ (rd_mem (o := o) (i := (rd_T76 t i).f1) a2.1 (by omega))
    simp only [impl_Graph_steps.l1]
    rw [if_pos (by omega), if_pos (by omega), if_pos (by omega), if_pos a1.1, if_pos (by omega), if_pos hy2.1, if_pos (by omega), q1, q3, w64 (n := (i : Int) + 1) (by omega) (by omega), e1, drop_getD t z76 hil, ← rdE_get, List.foldl_cons]
    by_cases c : D n t (rd_T76 t i).f0 y < 1000000
    · rw [if_pos c, if_pos a2.1, if_pos (by omega), if_pos (by omega), w64 (n := (rd_T76 t i).f2 + D n t (rd_T76 t i).f1 y) (by omega) (by omega)]
      by_cases c2 : (rd_T76 t i).f2 + D n t (rd_T76 t i).f1 y = D n t (rd_T76 t i).f0 y
      · have er : Pure.rlx n t y o (rd_T76 t i) = o.set (rd_T76 t i).f0.toNat (mn (rd o (rd_T76 t i).f0) (rd o (rd_T76 t i).f1 + 1)) := by
          unfold Pure.rlx; rw [if_pos ⟨c, c2⟩]
        rw [if_pos c2, if_pos (by omega), if_pos (by omega), w64 (by omega) (by omega), ← er, ih (i + 1) K _ (by omega) (by omega) hd hall2]
      · have er : Pure.rlx n t y o (rd_T76 t i) = o := by unfold Pure.rlx; rw [if_neg (fun h => c2 h.2)]
        rw [er] at hall2
        rw [if_neg c2, er, ih (i + 1) K _ (by omega) (by omega) ho hall2]
    · have er : Pure.rlx n t y o (rd_T76 t i) = o := by unfold Pure.rlx; rw [if_neg (fun h => c h.1)]
      rw [er] at hall2
      rw [if_neg c, er, ih (i + 1) K _ (by omega) (by omega) ho hall2]
theorem steps_outer {n : Int} {t : List S76} (g : Gok n t) {y : Int} (hy : Node n y) : ∀ (d k i : Nat) (o : List Int), (i : Int) + d = n → d * (t.length + 2) < k → Low n t y o →
    impl_Graph_steps.l0 k y (allD n t) o n i n t = some (rrounds n t y d o) := by
  have hn := g.1
  intro d
  induction d with
  | zero =>
    intro k i o hi hk ho
    obtain ⟨k, rfl⟩ : ∃ m, k = m + 1 := ⟨k - 1, by omega⟩
    simp only [impl_Graph_steps.l0]
    rw [if_neg (by omega)]; rfl
  | succ d ih =>
    intro k i o hi hk ho
    rw [Nat.add_mul, Nat.one_mul] at hk
    obtain ⟨k, rfl⟩ : ∃ m, k = (m + t.length + 1) + 1 := ⟨k - t.length - 2, by omega⟩
    have e1 : (i : Int) + 1 = ((i + 1 : Nat) : Int) := by omega
    have z := steps_inner g hy k i t.length 0 (k + t.length + 1) o (by omega) rfl ho.1 (fun s hs => (ho.fold g hy s o hs).1)
    have z' : impl_Graph_steps.l1 (k + t.length + 1) y (allD n t) o n i t t.length 0 n t = impl_Graph_steps.l0 k y (allD n t) (t.foldl (Pure.rlx n t y) o) n (wrap64 ((i : Int) + 1)) n t := z
    simp only [impl_Graph_steps.l0]
    rw [if_pos (by omega), z', w64 (by omega) (by omega), e1, ih k (i + 1) _ (by omega) (by omega) (ho.fold g hy t o (fun e he => he))]
    rfl
/-- What the program's steps come to. -/
theorem impl_steps {n : Int} {t : List S76} (g : Gok n t) {y : Int} (hy : Node n y) {k : Nat} (hk : t.length * 12 + 60 < k) : ∃ o, impl_Graph_steps.f k n t y (allD n t) = some o ∧ (o.length : Int) = n ∧ ∀ v, Node n v → rd o v = if D n t v y < 1000000 then steps n t y v - 1 else 1000000 := by
  have hn := g.1
  have hl : t.length ≤ 60 := g.2.1
  have hy2 := hy
  unfold Node at hy2
  have hm : n.toNat * (t.length + 2) ≤ 10 * (t.length + 2) := Nat.mul_le_mul_right _ (by omega)
  have hs : Low n t y ((List.replicate n.toNat 1000000).set y.toNat 0) := Low.start g hy (fun v hv hf => by have := steps_le g hy _ v (Nat.le_refl _) hv hf; omega)
  have hs0 : rd ((List.replicate n.toNat 1000000).set y.toNat 0) y ≤ 0 := by rw [start_rd hy hy, if_pos rfl]; exact Int.le_refl _
  refine ⟨rrounds n t y n.toNat ((List.replicate n.toNat 1000000).set y.toNat 0), ?_, ?_, ?_⟩
  · unfold impl_Graph_steps.f slices_Repeat_int_int.f
    have e1 : ([1000000] : List Int).length = 1 := rfl
    rw [if_pos e1, if_pos (by omega), if_pos (by omega)]
    have e2 : rd ([1000000] : List Int) 0 = 1000000 := rfl
    simp only [Option.bind_some, e2]
    rw [if_pos hy2.1, List.length_replicate, if_pos (by omega)]
    exact steps_outer g hy n.toNat k 0 _ (by omega) (by omega) hs
  · exact (Low.rounds g hy n.toNat hs).1.1
  · intro v hv
    have h := (Low.rounds g hy n.toNat hs).2 v hv
    by_cases c : D n t v y < 1000000
    · rw [if_pos c]
      have a := up g hy hs hs0 n.toNat v hv c (.inr (rky_le t y _))
      have b := h.1 c
      omega
    · rw [if_neg c]
      exact h.2 c
/-- The next node of a cheapest way with the fewest steps. -/
def nxP (n : Int) (t : List S76) (y x z : Int) : Bool := decide (steps n t y z + 1 = steps n t y x)
theorem cs_find {n : Int} {t : List S76} (g : Gok n t) {x y z0 : Int} (hx : Node n x) (hy : Node n y) (hf : D n t x y < 1000000) {S W acc : List Int} (F : Fin n t y S W) (ha : acc.length < 1000) {R : List Int × Bool} {k0 : Nat}
    (hR : ∀ k', k0 ≤ k' → spec_CheapestWay.l0 k' y S W (acc ++ [z0]) z0 n t = some R) : ∀ (d i K : Nat), (i : Int) + d = n → (((List.range' i d).map fun (j : Nat) => (j : Int)).filter (hopN n t x y)).find? (nxP n t y x) = some z0 → k0 + d + (t.length * 12 + 100) < K →
    spec_CheapestWay.l1 K y S W acc x (D n t x y) i n t = some R := by
  have hn := g.1
  have hl : t.length ≤ 60 := g.2.1
  obtain ⟨s1, s2, s3⟩ := F
  have hx2 := hx
  have hy2 := hy
  unfold Node at hx2 hy2
  intro d
  induction d with
  | zero => intro i K _ h _; simp at h
  | succ d ih =>
    intro i K hi h hK
    obtain ⟨K, rfl⟩ : ∃ m, K = m + 1 := ⟨K - 1, by omega⟩
    have e1 : (i : Int) + 1 = ((i + 1 : Nat) : Int) := by omega
    have hv : Node n (i : Int) := by unfold Node; omega
    have dl := D_lim g (i : Int) hy
    have gl := gcost_lim g x (i : Int)
    have fi := s3 i hv
    have fx := s3 x hx
    have nxt := fun (q : (((List.range' (i + 1) d).map fun (j : Nat) => (j : Int)).filter (hopN n t x y)).find? (nxP n t y x) = some z0) => ih (i + 1) K (by omega) q (by omega)
    rw [List.range'_succ, List.map_cons, List.filter_cons] at h
    simp only [spec_CheapestWay.l1]
    rw [if_pos (by omega), spec_Cost hn (by omega) x (i : Int) (by omega), w64 (n := (i : Int) + 1) (by omega) (by omega), e1]
    simp only [Option.bind_some]
    by_cases c1 : (i : Int) = x
    · rw [if_pos c1]
      have q : ¬ hopN n t x y (i : Int) = true := fun q => (of_decide_eq_true q).1 c1
      rw [if_neg q] at h
      exact nxt h
    rw [if_neg c1]
    by_cases c2 : gcost n t x i < 1000000
    · rw [if_pos c2, if_pos (by omega), if_pos (by omega)]
      by_cases c3 : rd W i > 0
      · have fd : D n t i y < 1000000 := Classical.byContradiction fun q => by have := (fi.2.1 q).2; omega
        have ei := fi.1 fd
        have ex := fx.1 hf
        rw [if_pos c3, if_pos (by omega), if_pos hx2.1, if_pos (by omega), w64 (n := rd S i + 1) (by omega) (by omega)]
        by_cases c4 : rd S i + 1 = rd S x
        · have l1 := (dist_ok g (i : Int)).1
          rw [if_pos c4, spec_Dist' g hv (by omega)]
          simp only [Option.bind_some]
          rw [if_pos hy2.1, if_pos (by omega)]
          have ed : rd (dist n t i) y = D n t i y := rfl
          have pz : nxP n t y x i = true := decide_eq_true (by omega)
          rw [ed, w64 (n := gcost n t x i + D n t i y) (by omega) (by omega)]
          by_cases c5 : gcost n t x i + D n t i y = D n t x y
          · have q : hopN n t x y (i : Int) = true := decide_eq_true ⟨c1, c2, c5⟩
            rw [if_pos q, List.find?_cons, pz] at h
            have e := Option.some.inj h
            rw [if_pos c5, if_pos (by omega)]
            rw [e]
            exact hR K (by omega)
          · have q : ¬ hopN n t x y (i : Int) = true := fun q => c5 (of_decide_eq_true q).2.2
            rw [if_neg q] at h
            rw [if_neg c5]
            exact nxt h
        · rw [if_neg c4]
          have pz : nxP n t y x i = false := decide_eq_false (by omega)
          by_cases q : hopN n t x y (i : Int) = true
          · rw [if_pos q, List.find?_cons, pz] at h
            exact nxt h
          · rw [if_neg q] at h
            exact nxt h
      · rw [if_neg c3]
        have q : ¬ hopN n t x y (i : Int) = true := fun q => by
          have q2 := (of_decide_eq_true q).2.2
          have fd : D n t i y < 1000000 := by omega
          have := (fi.1 fd).2
          have := (steps_pos g hy _ i (Nat.le_refl _) hv fd).2
          omega
        rw [if_neg q] at h
        exact nxt h
    · rw [if_neg c2]
      have q : ¬ hopN n t x y (i : Int) = true := fun q => c2 (of_decide_eq_true q).2.1
      rw [if_neg q] at h
      exact nxt h
theorem ci_find {n : Int} {t : List S76} (g : Gok n t) {x y z0 : Int} (hx : Node n x) (hy : Node n y) (hf : D n t x y < 1000000) {o acc : List Int} (ho : (o.length : Int) = n) (hq : ∀ v, Node n v → rd o v = if D n t v y < 1000000 then steps n t y v - 1 else 1000000) (ha : acc.length < 1000) {R : List Int × Bool} {k0 : Nat}
    (hR : ∀ k', k0 ≤ k' → impl_Graph_cheapest.l0 k' y (allD n t) o (acc ++ [z0]) z0 n t = some R) : ∀ (d i K : Nat), i + d = t.length → (((t.drop i).filter (hopE n t x y)).map fun e => e.f1).find? (nxP n t y x) = some z0 → k0 + d < K →
    impl_Graph_cheapest.l1 K y (allD n t) o acc x t t.length i n t = some R := by
  have hn := g.1
  have hl : t.length ≤ 60 := g.2.1
  have hA := allD_len g.1 t
  have hx2 := hx
  have hy2 := hy
  unfold Node at hx2 hy2
  have ox := hq x hx
  rw [if_pos hf] at ox
  have sx := (steps_pos g hy _ x (Nat.le_refl _) hx hf).1
  have sx2 := steps_le g hy _ x (Nat.le_refl _) hx hf
  obtain ⟨q1, q2⟩ := allD_at g hx y
  intro d
  induction d with
  | zero => 
    intro i K hi h _
    obtain rfl : i = t.length := by omega
    rw [List.drop_length] at h
    simp at h
  | succ d ih =>
    intro i K hi h hK
    obtain ⟨K, rfl⟩ : ∃ m, K = m + 1 := ⟨K - 1, by omega⟩
    have hil : i < t.length := by omega
    have e1 : (i : Int) + 1 = ((i + 1 : Nat) : Int) := by omega
    have hmem : rd_T76 t i ∈ t := by
      rw [rdE_get, List.getD_eq_getElem?_getD, List.getElem?_eq_getElem hil]; exact List.getElem_mem hil
    obtain ⟨a1, a2, a3, a4, a5⟩ := g.mem hmem
    obtain ⟨q3, q4⟩ := allD_at g a2 y
    have d1 := D_lim g (rd_T76 t i).f1 hy
    have oz := hq _ a2
    have b2 := a2
    unfold Node at a1 a2
    have nxt := fun (q : (((t.drop (i + 1)).filter (hopE n t x y)).map fun e => e.f1).find? (nxP n t y x) = some z0) => ih (i + 1) K (by omega) q (by omega)
    rw [drop_getD t z76 hil, ← rdE_get, List.filter_cons] at h
    simp only [impl_Graph_cheapest.l1]
    rw [if_pos (by omega), if_pos (by omega), if_pos (by omega), w64 (n := (i : Int) + 1) (by omega) (by omega), e1]
    by_cases c1 : (rd_T76 t i).f0 = x
    · rw [if_pos c1, if_pos a2.1, if_pos (by omega), if_pos hy2.1, if_pos (by omega), if_pos hx2.1, if_pos (by omega), if_pos (by omega), q1, q3, w64 (n := (rd_T76 t i).f2 + D n t (rd_T76 t i).f1 y) (by omega) (by omega)]
      by_cases c2 : (rd_T76 t i).f2 + D n t (rd_T76 t i).f1 y = D n t x y
      · have q : hopE n t x y (rd_T76 t i) = true := decide_eq_true ⟨c1, c2⟩
        rw [if_pos q, List.map_cons, List.find?_cons] at h
        have fz : D n t (rd_T76 t i).f1 y < 1000000 := by omega
        rw [if_pos fz] at oz
        rw [if_pos c2, if_pos (by omega), if_pos (by omega), w64 (n := rd o x - 1) (by omega) (by omega)]
        by_cases c3 : rd o (rd_T76 t i).f1 = rd o x - 1
        · have pz : nxP n t y x (rd_T76 t i).f1 = true := decide_eq_true (by omega)
          rw [pz] at h
          have e := Option.some.inj h
          rw [if_pos c3, if_pos (by omega), e]
          exact hR K (by omega)
        · have pz : nxP n t y x (rd_T76 t i).f1 = false := decide_eq_false (by omega)
          rw [pz] at h
          rw [if_neg c3]
          exact nxt h
      · have q : ¬ hopE n t x y (rd_T76 t i) = true := fun q => c2 (of_decide_eq_true q).2
        rw [if_neg q] at h
        rw [if_neg c2]
        exact nxt h
    · have q : ¬ hopE n t x y (rd_T76 t i) = true := fun q => c1 (of_decide_eq_true q).1
      rw [if_neg q] at h
      rw [if_neg c1]
      exact nxt h
/-- The next node is there. -/
theorem nx_ex {n : Int} {t : List S76} (g : Gok n t) {x y : Int} (hx : Node n x) (hy : Node n y) (hxy : x ≠ y) (hf : D n t x y < 1000000) : ∃ z, (hopsL n t x y).find? (nxP n t y x) = some z ∧ Node n z ∧ D n t z y < 1000000 ∧ steps n t y z + 1 = steps n t y x := by
  obtain ⟨z, hz, e⟩ := (steps_min g hx hy hxy hf).2
  cases c : (hopsL n t x y).find? (nxP n t y x) with
  | none =>
    have := List.find?_eq_none.1 c z hz
    exact absurd (decide_eq_true e.symm) this
  | some w =>
    have m := List.mem_of_find?_eq_some c
    have p := List.find?_some c
    obtain ⟨p1, p2, _⟩ := hop_lt g m
    exact ⟨w, rfl, p1, by omega, of_decide_eq_true p⟩
/-- Both ways are the same list. -/
theorem both_way {n : Int} {t : List S76} (g : Gok n t) {y : Int} (hy : Node n y) {S W o : List Int} (F : Fin n t y S W) (ho : (o.length : Int) = n) (hq : ∀ v, Node n v → rd o v = if D n t v y < 1000000 then steps n t y v - 1 else 1000000) : ∀ (C : Nat), C = t.length * 13 + 130 → ∀ (m : Nat) (x : Int) (acc : List Int), steps n t y x = (m : Int) + 1 → Node n x → D n t x y < 1000000 → acc.length + m < 1000 →
    ∃ R : List Int, R.length ≤ acc.length + m ∧ (∀ k, (m + 1) * C < k → spec_CheapestWay.l0 k y S W acc x n t = some (R, true)) ∧ (∀ k, (m + 1) * C < k → impl_Graph_cheapest.l0 k y (allD n t) o acc x n t = some (R, true)) := by
  intro C hC
  have hn := g.1
  have hl : t.length ≤ 60 := g.2.1
  have hy2 := hy
  unfold Node at hy2
  have e0 : ((0 : Nat) : Int) = 0 := rfl
  have zy : ∀ (x : Int) (acc : List Int) (m : Nat), x = y → acc.length + m < 1000 → ∃ R : List Int, R.length ≤ acc.length + m ∧ (∀ k, (m + 1) * C < k → spec_CheapestWay.l0 k y S W acc x n t = some (R, true)) ∧ (∀ k, (m + 1) * C < k → impl_Graph_cheapest.l0 k y (allD n t) o acc x n t = some (R, true)) := by
    intro x acc m c _
    refine ⟨acc, by omega, fun k hk => ?_, fun k hk => ?_⟩
    · obtain ⟨k, rfl⟩ : ∃ m, k = m + 1 := ⟨k - 1, by omega⟩
      simp only [spec_CheapestWay.l0]
      rw [if_pos c]
    · obtain ⟨k, rfl⟩ : ∃ m, k = m + 1 := ⟨k - 1, by omega⟩
      simp only [impl_Graph_cheapest.l0]
      rw [if_pos c]
  intro m
  induction m with
  | zero =>
    intro x acc hs hx hf hm
    by_cases c : x = y
    · exact zy x acc 0 c hm
    · obtain ⟨z, _, z2, z3, z4⟩ := nx_ex g hx hy c hf
      have := (steps_pos g hy _ z (Nat.le_refl _) z2 z3).1
      omega
  | succ m ih =>
    intro x acc hs hx hf hm
    by_cases c : x = y
    · exact zy x acc (m + 1) c hm
    · obtain ⟨z, z1, z2, z3, z4⟩ := nx_ex g hx hy c hf
      obtain ⟨R, r0, r1, r2⟩ := ih z (acc ++ [z]) (by omega) z2 z3 (by rw [List.length_append, List.length_singleton]; omega)
      rw [List.length_append, List.length_singleton] at r0
      have ed : rd (dist n t x) y = D n t x y := rfl
      have l1 := (dist_ok g x).1
      generalize hB : (m + 1) * C = B at r1 r2
      have hB2 : (m + 1 + 1) * C = B + C := by
        have q := Nat.succ_mul (m + 1) C
        rw [hB] at q
        exact q
      refine ⟨R, by omega, fun k hk => ?_, fun k hk => ?_⟩
      · rw [hB2] at hk
        obtain ⟨k, rfl⟩ : ∃ m, k = m + 1 := ⟨k - 1, by omega⟩
        simp only [spec_CheapestWay.l0]
        rw [if_neg c, spec_Dist' g hx (by omega)]
        simp only [Option.bind_some]
        rw [if_pos hy2.1, if_pos (by omega), ed]
        rw [hops_eq g hx] at z1
        have zz := cs_find g hx hy hf F (acc := acc) (by omega) (z0 := z) (R := (R, true)) (k0 := B + 1) (fun k' hk' => r1 k' (by omega)) n.toNat 0 k (by omega) z1 (by omega)
        rw [e0] at zz
        exact zz
      · rw [hB2] at hk
        obtain ⟨k, rfl⟩ : ∃ m, k = m + 1 := ⟨k - 1, by omega⟩
        simp only [impl_Graph_cheapest.l0]
        rw [if_neg c]
        have z1' : (((t.drop 0).filter (hopE n t x y)).map fun e => e.f1).find? (nxP n t y x) = some z := by rw [List.drop_zero]; exact z1
        have zz := ci_find g hx hy hf ho hq (acc := acc) (by omega) (z0 := z) (R := (R, true)) (k0 := B + 1) (fun k' hk' => r2 k' (by omega)) t.length 0 k (by omega) z1' (by omega)
        rw [e0] at zz
        exact zz
theorem both_cheap {n : Int} {t : List S76} (g : Gok n t) {x y : Int} (hx : Node n x) (hy : Node n y) : ∃ (r : List Int) (ok : Bool), r.length ≤ 1000 ∧ ∀ k, t.length * 140 + 2500 < k → spec_CheapestWay.f k n t x y = some (r, ok) ∧ impl_Graph_cheapest.f k n t x y = some (r, ok) := by
  have hn := g.1
  have hl : t.length ≤ 60 := g.2.1
  have hx2 := hx
  have hy2 := hy
  unfold Node at hx2 hy2
  have hA := allD_len g.1 t
  obtain ⟨q1, q2⟩ := allD_at g hx y
  have dl := D_lim g x hy
  have pre : ∀ (R : List Int × Bool), (∀ S W k, Fin n t y S W → t.length * 130 + 1500 < k → (if rd W x = 0 then some (([] : List Int), false) else spec_CheapestWay.l0 k y S W [x] x n t) = some R) → (∀ o k, (o.length : Int) = n → (∀ v, Node n v → rd o v = if D n t v y < 1000000 then steps n t y v - 1 else 1000000) → t.length * 130 + 1500 < k → (if D n t x y = 1000000 then some (([] : List Int), false) else impl_Graph_cheapest.l0 k y (allD n t) o [x] x n t) = some R) → ∀ k, t.length * 140 + 2500 < k → spec_CheapestWay.f k n t x y = some R ∧ impl_Graph_cheapest.f k n t x y = some R := by
    intro R hS hI k hk
    obtain ⟨k, rfl⟩ : ∃ m, k = m + 1 := ⟨k - 1, by omega⟩
    obtain ⟨b0, h1, h2, h3⟩ := both_Gok n (t := t) (by omega) (k := k + 1) (by omega)
    refine ⟨?_, ?_⟩
    · obtain ⟨S, W, F, e⟩ := spec_Steps g hy (k := k) (by omega)
      unfold spec_CheapestWay.f
      rw [h1]
      simp only [Option.bind_some, spec_CheapestWay.j0]
      rw [if_pos (h3.2 g), spec_Node hn, spec_Node hn, decide_eq_true hx, decide_eq_true hy]
      simp only [Option.bind_some, if_true, Bool.not_true, Bool.false_eq_true, if_false]
      have l2 := F.2.1
      rw [e]
      simp only [Option.bind_some]
      rw [if_pos hx2.1, if_pos (by omega)]
      exact hS S W k F (by omega)
    · obtain ⟨o, e, o1, o2⟩ := impl_steps g hy (k := k + 1) (by omega)
      unfold impl_Graph_cheapest.f
      rw [impl_all g (by omega)]
      simp only [Option.bind_some]
      rw [if_pos hx2.1, if_pos (by omega), if_pos hy2.1, if_pos (by omega), q1, e]
      simp only [Option.bind_some]
      exact hI o (k + 1) o1 o2 (by omega)
  by_cases c2 : D n t x y < 1000000
  · obtain ⟨S0, W0, F0, _⟩ := spec_Steps g hy (k := t.length * 12 + 701) (by omega)
    obtain ⟨o0, _, p1, p2⟩ := impl_steps g hy (k := t.length * 12 + 61) (by omega)
    have f0 := F0.2.2 x hx
    have s1 := (steps_pos g hy _ x (Nat.le_refl _) hx c2)
    have f1 := f0.1 c2
    obtain ⟨C, hC⟩ : ∃ C, C = t.length * 13 + 130 := ⟨_, rfl⟩
    obtain ⟨m, hm⟩ : ∃ m : Nat, steps n t y x = (m : Int) + 1 := ⟨(steps n t y x - 1).toNat, by omega⟩
    have hmC : (m + 1) * C ≤ 10 * C := Nat.mul_le_mul_right _ (by omega)
    obtain ⟨R, r0, r1, r2⟩ := both_way g hy F0 p1 p2 C hC m x [x] hm hx c2 (by rw [List.length_singleton]; omega)
    rw [List.length_singleton] at r0
    refine ⟨R, true, by omega, pre _ (fun S W k F hk => ?_) (fun o k o1 o2 hk => ?_)⟩
    · obtain ⟨R', _, r1', r2'⟩ := both_way g hy F p1 p2 C hC m x [x] hm hx c2 (by rw [List.length_singleton]; omega)
      have e1 := r2 k (by omega)
      have e2 := r2' k (by omega)
      have e3 := r1' k (by omega)
      rw [e1] at e2
      have w := ((F.2.2 x hx).1 c2).2
      rw [if_neg (by omega), e3, e2]
    · obtain ⟨R', _, r1', r2'⟩ := both_way g hy F0 o1 o2 C hC m x [x] hm hx c2 (by rw [List.length_singleton]; omega)
      have e1 := r1 k (by omega)
      have e2 := r1' k (by omega)
      have e3 := r2' k (by omega)
      rw [e1] at e2
      rw [if_neg (by omega), e3, e2]
  · refine ⟨[], false, Nat.zero_le _, pre _ (fun S W k F hk => ?_) (fun o k o1 o2 hk => ?_)⟩
    · rw [if_pos ((F.2.2 x hx).2.1 c2).2]
    · rw [if_pos (by omega)]
/-- The last node but one of a way. -/
def tl2 (r : List Int) : Int := if (r.length : Int) < 2 then -1 else rd r ((r.length : Int) - 2)
theorem tree_loop {n : Int} {t : List S76} (g : Gok n t) {x : Int} (hx : Node n x) : ∀ (d i : Nat) (acc : List Int), (i : Int) + d = n → acc.length ≤ i →
    ∃ out : List Int, out.length ≤ acc.length + d ∧ (∀ k, t.length * 140 + 2500 + d + 1 < k → spec_TreeOf.l0 k x acc i n t = some out) ∧ (∀ k, t.length * 140 + 2500 + d + 1 < k → impl_TreeOf.l0 k x acc n i n t = some out) := by
  have hn := g.1
  intro d
  induction d with
  | zero =>
    intro i acc hi ha
    refine ⟨acc, by omega, fun k hk => ?_, fun k hk => ?_⟩
    · obtain ⟨k, rfl⟩ : ∃ m, k = m + 1 := ⟨k - 1, by omega⟩
      simp only [spec_TreeOf.l0]
      rw [if_neg (by omega)]
    · obtain ⟨k, rfl⟩ : ∃ m, k = m + 1 := ⟨k - 1, by omega⟩
      simp only [impl_TreeOf.l0]
      rw [if_neg (by omega)]
  | succ d ih =>
    intro i acc hi ha
    have hi2 : Node n i := by unfold Node; omega
    obtain ⟨r, ok, hr, hh⟩ := both_cheap g hx hi2
    obtain ⟨out, o1, o2, o3⟩ := ih (i + 1) (acc ++ [tl2 r]) (by omega) (by rw [List.length_append, List.length_singleton]; omega)
    rw [List.length_append, List.length_singleton] at o1
    have e1 : (i : Int) + 1 = ((i + 1 : Nat) : Int) := by omega
    have ew : wrap64 ((r.length : Int) - 2) = (r.length : Int) - 2 := w64 (by omega) (by omega)
    refine ⟨out, by omega, fun k hk => ?_, fun k hk => ?_⟩
    · obtain ⟨k, rfl⟩ : ∃ m, k = m + 1 := ⟨k - 1, by omega⟩
      have z := o2 k (by omega)
      simp only [spec_TreeOf.l0]
      rw [if_pos (by omega), (hh k (by omega)).1]
      simp only [Option.bind_some]
      rw [w64 (n := (i : Int) + 1) (by omega) (by omega), e1, ew]
      unfold tl2 at z
      by_cases c : (r.length : Int) < 2
      · rw [if_pos c] at z
        rw [if_pos c, if_pos (by omega), z]
      · rw [if_neg c] at z
        rw [if_neg c, if_pos (by omega), if_pos (by omega), if_pos (by omega), z]
    · obtain ⟨k, rfl⟩ : ∃ m, k = m + 1 := ⟨k - 1, by omega⟩
      have z := o3 k (by omega)
      simp only [impl_TreeOf.l0]
      rw [if_pos (by omega), (hh k (by omega)).2]
      simp only [Option.bind_some]
      rw [w64 (n := (i : Int) + 1) (by omega) (by omega), e1, ew]
      unfold tl2 at z
      by_cases c : (r.length : Int) < 2
      · rw [if_pos c] at z
        rw [if_pos c, if_pos (by omega), z]
      · rw [if_neg c] at z
        rw [if_neg c, if_pos (by omega), if_pos (by omega), if_pos (by omega), z]
theorem both_TreeOf (n : Int) {t : List S76} (h : t.length ≤ 1048576) (x : Int) : ∃ r : List Int, r.length ≤ 1000 ∧ ∀ k, t.length * 140 + 2600 < k → spec_TreeOf.f k n t x = some r ∧ impl_TreeOf.f k n t x = some r := by
  by_cases c : Gok n t ∧ Node n x
  · obtain ⟨g, hx⟩ := c
    have hn := g.1
    obtain ⟨out, o1, o2, o3⟩ := tree_loop g hx n.toNat 0 [] (by omega) (Nat.le_refl _)
    rw [List.length_nil] at o1
    refine ⟨out, by omega, fun k hk => ?_⟩
    obtain ⟨k, rfl⟩ : ∃ m, k = m + 1 := ⟨k - 1, by omega⟩
    obtain ⟨b0, h1, h2, h3⟩ := both_Gok n (t := t) h (k := k + 1) (by omega)
    have z1 := o2 k (by omega)
    have z2 := o3 k (by omega)
    unfold spec_TreeOf.f impl_TreeOf.f
    rw [h1, h2]
    simp only [Option.bind_some, spec_TreeOf.j0, impl_TreeOf.j0]
    rw [if_pos (h3.2 g), if_pos (h3.2 g), spec_Node hn, impl_Node hn, decide_eq_true hx]
    simp only [Option.bind_some, Bool.not_true, Bool.false_eq_true, if_false]
    exact ⟨z1, z2⟩
  · refine ⟨[], Nat.zero_le _, fun k hk => ?_⟩
    obtain ⟨k, rfl⟩ : ∃ m, k = m + 1 := ⟨k - 1, by omega⟩
    obtain ⟨b0, h1, h2, h3⟩ := both_Gok n (t := t) h (k := k + 1) (by omega)
    unfold spec_TreeOf.f impl_TreeOf.f
    rw [h1, h2]
    simp only [Option.bind_some, spec_TreeOf.j0, impl_TreeOf.j0]
    by_cases d : b0 = true
    · have g := h3.1 d
      have hn := g.1
      have d1 : ¬ Node n x := fun d1 => c ⟨g, d1⟩
      rw [if_pos d, if_pos d, spec_Node hn, impl_Node hn]
      simp [d1]
    · rw [if_neg d, if_neg d]
      simp
theorem FnExactTreeOf : FnExactTreeOf.Pure := by
  intro n l x _ hw _
  have hm : l.length ≤ 9223372036854775807 := hw.1
  obtain ⟨K, hK⟩ : ∃ K, K = l.length * 140 + 1050000 := ⟨_, rfl⟩
  refine ⟨K + 3, ?_⟩
  unfold laws_FnExactTreeOf.f
  rw [sz_Graph n hm]
  simp only [Option.bind_some]
  by_cases hl : l.length ≤ 1048576
  · have hn : (l.map cvE).length = l.length := List.length_map ..
    obtain ⟨r, hlen, hr⟩ := both_TreeOf n (t := l.map cvE) (by omega) x
    have hs := (hr (K + 3) (by omega)).1
    have hi := (hr (K + 3) (by omega)).2
    have hi2 := (hr (K + 2) (by omega)).2
    obtain ⟨M1, m1⟩ := mark_Graph n 1 (by omega) (by omega) (l := l.map cvE) (k := K + 3) (by omega) (by omega)
    obtain ⟨M2, m2, m3, m4⟩ := mark_IntS 1 (by omega) (by omega) (l := r) (k := K + 2) (by omega) (by omega)
    have m5 := held_IntS 1 (by omega) (by omega) (M := M2) (k := K + 2) (by omega) (by omega) (by rw [m3]; exact m4)
    rw [if_pos hl, if_neg (by omega), to_Graph n hl (by omega)]
    simp only [Option.bind_some]
    rw [hs]
    simp only [Option.bind_some]
    rw [hi]
    simp only [Option.bind_some]
    rw [eq_IntS (by omega) (by omega)]
    simp only [Option.bind_some, if_true]
    rw [eq_Graph n (by omega) (by omega)]
    simp only [Option.bind_some, if_true]
    rw [m1]
    simp only [Option.bind_some]
    rw [if_neg (by omega)]
    simp only [laws_FnExactTreeOf.j0]
    rw [if_neg (by decide), m2]
    simp only [Option.bind_some]
    rw [m5, m3]
    simp only [Option.bind_some]
    rw [if_neg (by omega), if_pos trivial, to_Graph n hl (by omega)]
    simp only [Option.bind_some]
    rw [hi2]
    simp only [Option.bind_some]
    rw [eq_IntS (by omega) (by omega)]
    simp only [Option.bind_some, if_true]
    rw [if_neg (by omega)]
  · rw [if_neg hl]; rfl

end Go.Proofs.Ythmahcohcphljaa.Pure
