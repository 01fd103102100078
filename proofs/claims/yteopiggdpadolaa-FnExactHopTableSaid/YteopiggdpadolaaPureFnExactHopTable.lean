/- The plain law of FnExactHopTable: the program's answer is the reference's. -/
import Derived.Test.YteopiggdpadolaaStmtFnExactHopTable
namespace Go.Proofs.Yteopiggdpadolaa.Pure
open Go.RowKit Go.Proofs.Yteopiggdpadolaa.QFnExactHopTable Go.Proofs.YteopiggdpadolaaU.PrintWords Go.Proofs.YteopiggdpadolaaU.PrintLast Go.Proofs.YteopiggdpadolaaU.PrintMore
set_option linter.unusedVariables false
set_option linter.unusedSimpArgs false

theorem w64 {n : Int} (h0 : -9223372036854775808 ≤ n) (h1 : n ≤ 9223372036854775807) : wrap64 n = n := by unfold wrap64; omega
theorem wr1 {i : Nat} (h : i ≤ 1048576) : wrap64 ((i : Int) + 1) = ((i + 1 : Nat) : Int) := by rw [w64 (by omega) (by omega)]; omega
theorem spec_In (a b c : Int) : spec_l01In.f a b c = some (decide (b ≤ a ∧ a ≤ c)) := by
  unfold spec_l01In.f
  by_cases h : b ≤ a <;> simp [h]
theorem impl_In (a b c : Int) : impl_within.f a b c = some (decide (b ≤ a ∧ a ≤ c)) := by
  unfold impl_within.f
  by_cases h : b ≤ a <;> simp [h]
/-- A loop that asks each index and ends at the first refusal. -/
theorem all_loop {F : Nat → Int → Option Bool} {n : Nat} {P : Nat → Prop} {e : Bool}
    (hs : ∀ (k i : Nat), i < n → (∀ j, j < i → P j) → (P i ∧ F (k + 1) i = F k ((i : Int) + 1)) ∨ (¬ P i ∧ F (k + 1) i = some false))
    (he : ∀ k : Nat, (∀ j, j < n → P j) → F (k + 1) n = some e) : ∀ (d k i : Nat), i + d = n → d < k → (∀ j, j < i → P j) →
    ∃ b, F k i = some b ∧ (b = true ↔ ((∀ j, j < n → P j) ∧ e = true)) := by
  intro d
  induction d with
  | zero =>
    intro k i hi hk hp
    obtain ⟨k, rfl⟩ : ∃ m, k = m + 1 := ⟨k - 1, by omega⟩
    obtain rfl : i = n := by omega
    exact ⟨e, he k hp, ⟨fun h => ⟨hp, h⟩, fun h => h.2⟩⟩
  | succ d ih =>
    intro k i hi hk hp
    obtain ⟨k, rfl⟩ : ∃ m, k = m + 1 := ⟨k - 1, by omega⟩
    rcases hs k i (by omega) hp with ⟨h1, h2⟩ | ⟨h1, h2⟩
    · have e1 : (i : Int) + 1 = ((i + 1 : Nat) : Int) := by omega
      rw [h2, e1]
      refine ih k (i + 1) (by omega) (by omega) (fun j hj => ?_)
      by_cases hji : j = i
      · rw [hji]; exact h1
      · exact hp j (by omega)
    · refine ⟨false, h2, ⟨(fun h => by cases h), fun h => absurd (h.1 i (by omega)) h1⟩⟩
/-- A loop that copies a list, element by element. -/
theorem copy_loop {α β : Type} {F : Nat → List α → List β → Int → Option (List β)} {cv : α → β} (z : α) {N : Nat}
    (hs : ∀ (k i : Nat) (x : List α) (y : List β), x.length ≤ N → i < x.length → i < y.length → F (k + 1) x y i = F k x (y.set i (cv (x.getD i z))) ((i : Int) + 1))
    (he : ∀ (k : Nat) (x : List α) (y : List β), F (k + 1) x y x.length = some y) (x : List α) (hN : x.length ≤ N) : ∀ (d k i : Nat) (y : List β), i + d = x.length → d < k → y.length = x.length →
    y.take i = (x.take i).map cv → F k x y i = some (x.map cv) := by
  intro d
  induction d with
  | zero =>
    intro k i y hi hk hl ht
    obtain ⟨k, rfl⟩ : ∃ m, k = m + 1 := ⟨k - 1, by omega⟩
    obtain rfl : i = x.length := by omega
    rw [he]
    rw [List.take_of_length_le (by omega), List.take_of_length_le (by omega)] at ht
    rw [ht]
  | succ d ih =>
    intro k i y hi hk hl ht
    obtain ⟨k, rfl⟩ : ∃ m, k = m + 1 := ⟨k - 1, by omega⟩
    have e1 : (i : Int) + 1 = ((i + 1 : Nat) : Int) := by omega
    rw [hs k i x y hN (by omega) (by omega), e1]
    refine ih k (i + 1) _ (by omega) (by omega) (by rw [List.length_set, hl]) ?_
    have hx : i < x.length := by omega
    have hy : i < y.length := by omega
    rw [List.take_succ_eq_append_getElem (by rw [List.length_set]; exact hy), List.take_succ_eq_append_getElem hx, List.map_append, List.take_set, ht]
    congr 1
    · rw [List.set_eq_of_length_le]
      simp; omega
    · simp [List.getD_eq_getElem?_getD, hx]
/-- Two equal lists, compared element by element. -/
theorem same_loop {α : Type} {F : Nat → List α → List α → Int → Option Bool} {N : Nat}
    (hs : ∀ (k i : Nat) (x : List α), x.length ≤ N → i < x.length → F (k + 1) x x i = F k x x ((i : Int) + 1))
    (he : ∀ (k : Nat) (x : List α), F (k + 1) x x x.length = some true) (x : List α) (hN : x.length ≤ N) : ∀ (d k i : Nat), i + d = x.length → d < k → F k x x i = some true := by
  intro d
  induction d with
  | zero =>
    intro k i hi hk
    obtain ⟨k, rfl⟩ : ∃ m, k = m + 1 := ⟨k - 1, by omega⟩
    obtain rfl : i = x.length := by omega
    exact he k x
  | succ d ih =>
    intro k i hi hk
    obtain ⟨k, rfl⟩ : ∃ m, k = m + 1 := ⟨k - 1, by omega⟩
    have e1 : (i : Int) + 1 = ((i + 1 : Nat) : Int) := by omega
    rw [hs k i x hN (by omega), e1]
    exact ih k (i + 1) (by omega) (by omega)
/-- The same where a round costs c + 1 rounds of the count. -/
theorem all_loopc (c : Nat) {F : Nat → Int → Option Bool} {n : Nat} {P : Nat → Prop} {e : Bool}
    (hs : ∀ (k i : Nat), i < n → (∀ j, j < i → P j) → (P i ∧ F (k + (c + 1)) i = F k ((i : Int) + 1)) ∨ (¬ P i ∧ F (k + (c + 1)) i = some false))
    (he : ∀ k : Nat, (∀ j, j < n → P j) → F (k + 1) n = some e) : ∀ (d k i : Nat), i + d = n → d * (c + 1) < k → (∀ j, j < i → P j) →
    ∃ b, F k i = some b ∧ (b = true ↔ ((∀ j, j < n → P j) ∧ e = true)) := by
  intro d
  induction d with
  | zero =>
    intro k i hi hk hp
    obtain ⟨k, rfl⟩ : ∃ m, k = m + 1 := ⟨k - 1, by omega⟩
    obtain rfl : i = n := by omega
    exact ⟨e, he k hp, ⟨fun h => ⟨hp, h⟩, fun h => h.2⟩⟩
  | succ d ih =>
    intro k i hi hk hp
    rw [Nat.add_mul, Nat.one_mul] at hk
    obtain ⟨k, rfl⟩ : ∃ m, k = m + (c + 1) := ⟨k - (c + 1), by omega⟩
    rcases hs k i (by omega) hp with ⟨h1, h2⟩ | ⟨h1, h2⟩
    · have e1 : (i : Int) + 1 = ((i + 1 : Nat) : Int) := by omega
      rw [h2, e1]
      refine ih k (i + 1) (by omega) (by omega) (fun j hj => ?_)
      by_cases hji : j = i
      · rw [hji]; exact h1
      · exact hp j (by omega)
    · refine ⟨false, h2, ⟨(fun h => by cases h), fun h => absurd (h.1 i (by omega)) h1⟩⟩
/-- A loop that looks for something in a list, from an index on. -/
theorem find_loop {α ρ : Type} {F : Nat → Int → Option ρ} {h : List α → ρ} (t : List α)
    (hs : ∀ (k i : Nat), i < t.length → (F (k + 1) i = F k ((i : Int) + 1) ∧ h (t.drop i) = h (t.drop (i + 1))) ∨ F (k + 1) i = some (h (t.drop i)))
    (he : ∀ (k : Nat), F (k + 1) t.length = some (h [])) : ∀ (d k i : Nat), i + d = t.length → d < k → F k i = some (h (t.drop i)) := by
  intro d
  induction d with
  | zero =>
    intro k i hi hk
    obtain ⟨k, rfl⟩ : ∃ m, k = m + 1 := ⟨k - 1, by omega⟩
    obtain rfl : i = t.length := by omega
    rw [he, List.drop_length]
  | succ d ih =>
    intro k i hi hk
    obtain ⟨k, rfl⟩ : ∃ m, k = m + 1 := ⟨k - 1, by omega⟩
    rcases hs k i (by omega) with ⟨h1, h2⟩ | h1
    · have e1 : (i : Int) + 1 = ((i + 1 : Nat) : Int) := by omega
      rw [h1, e1, ih k (i + 1) (by omega) (by omega), h2]
    · exact h1
theorem drop_getD {α : Type} (t : List α) (z : α) {i : Nat} (hi : i < t.length) : t.drop i = t.getD i z :: t.drop (i + 1) := by
  rw [List.drop_eq_getElem_cons hi, List.getD_eq_getElem?_getD, List.getElem?_eq_getElem hi]; rfl
/-- An edge, of the laws' type and of the program's. -/
def cvE (x : S82) : S67 := ⟨x.f0, x.f1, x.f2⟩
theorem sz_Graph (n : Int) {l : List S82} (h : l.length ≤ 9223372036854775807) : laws_szGraph.f n l 1048576 = some (if l.length ≤ 1048576 then 1048576 - (l.length : Int) else -1) := by
  unfold laws_szGraph.f laws_szEdgeS.f
  rw [w64 (by omega) (by omega)]
  by_cases hl : l.length ≤ 1048576
  · rw [if_neg (by omega), if_pos hl]
    simp only [Option.bind_some]
    rw [if_neg (by omega)]
  · rw [if_pos (by omega), if_neg hl]
    rfl
theorem to_EdgeS {l : List S82} {k : Nat} (h : l.length ≤ 1048576) (hk : l.length < k) : laws_toEdgeS.f k l = some (l.map cvE) := by
  unfold laws_toEdgeS.f
  rw [if_pos (by omega), if_pos (by omega)]
  refine copy_loop (F := laws_toEdgeS.l0) (cv := cvE) z82 (N := 1048576) ?_ ?_ l h l.length k 0 _ (by omega) hk (by simp) (by simp)
  · intro k i x y hN hx hy
    simp only [laws_toEdgeS.l0]
    rw [if_pos (by omega), if_pos (by omega)]
    unfold laws_toEdge.f
    simp only [Option.bind_some]
    rw [if_pos (by omega), w64 (by omega) (by omega)]
    simp [rd_T82, cvE]
  · intro k x y
    simp only [laws_toEdgeS.l0]
    rw [if_neg (by omega)]
theorem to_Graph (n : Int) {l : List S82} {k : Nat} (h : l.length ≤ 1048576) (hk : l.length < k) : laws_toGraph.f k n l = some (n, l.map cvE) := by
  unfold laws_toGraph.f
  rw [to_EdgeS h hk]; rfl
theorem eq_EdgeS {l : List S67} {k : Nat} (h : l.length ≤ 1048576) (hk : l.length < k) : laws_eqEdgeS.f k l l = some true := by
  unfold laws_eqEdgeS.f
  rw [if_pos rfl]
  refine same_loop (F := laws_eqEdgeS.l0) (N := 1048576) ?_ ?_ l h l.length k 0 (by omega) hk
  · intro k i x hN hx
    simp only [laws_eqEdgeS.l0]
    rw [if_pos (by omega), if_pos (by omega), if_pos (by omega)]
    unfold laws_eqEdge.f
    simp only [if_true, Option.bind_some]
    rw [w64 (by omega) (by omega)]
  · intro k x
    simp only [laws_eqEdgeS.l0]
    rw [if_neg (by omega)]
theorem eq_Graph (n : Int) {l : List S67} {k : Nat} (h : l.length ≤ 1048576) (hk : l.length < k) : laws_eqGraph.f k n l n l = some true := by
  unfold laws_eqGraph.f
  rw [if_pos rfl, eq_EdgeS h hk]; rfl
/-- A node of a graph of n nodes. -/
def Node (n x : Int) : Prop := 0 ≤ x ∧ x ≤ n - 1
instance (n x : Int) : Decidable (Node n x) := by unfold Node; infer_instance
def EAhead (a b : S67) : Prop := a.f0 < b.f0 ∨ a.f0 = b.f0 ∧ a.f1 < b.f1
/-- The edge at an index is valid and stands behind the one ahead of it. -/
def Eat (n : Int) (t : List S67) (j : Nat) : Prop :=
  Node n (rd_T67 t j).f0 ∧ Node n (rd_T67 t j).f1 ∧ (rd_T67 t j).f0 ≠ (rd_T67 t j).f1 ∧ (1 ≤ (rd_T67 t j).f2 ∧ (rd_T67 t j).f2 ≤ 1000) ∧
    (0 < j → EAhead (rd_T67 t ((j : Int) - 1)) (rd_T67 t j))
/-- A valid graph. -/
def Gok (n : Int) (t : List S67) : Prop := (1 ≤ n ∧ n ≤ 10) ∧ t.length ≤ 60 ∧ ∀ j, j < t.length → Eat n t j
theorem spec_Node {n : Int} (h : 1 ≤ n ∧ n ≤ 10) (t : List S67) (x : Int) : spec_l03Node.f n t x = some (decide (Node n x)) := by
  unfold spec_l03Node.f
  rw [w64 (by omega) (by omega), spec_In]
  rfl
theorem impl_Node {n : Int} (h : 1 ≤ n ∧ n ≤ 10) (t : List S67) (x : Int) : impl_Graph_isNode.f n t x = some (decide (Node n x)) := by
  unfold impl_Graph_isNode.f
  rw [w64 (by omega) (by omega), impl_In]
  rfl
theorem spec_edges {n : Int} (hn : 1 ≤ n ∧ n ≤ 10) {t : List S67} (h : t.length ≤ 1048576) {k : Nat} (hk : t.length * 2 < k) : ∃ b, spec_GraphOk.l0 k 0 n t = some b ∧ (b = true ↔ ∀ j, j < t.length → Eat n t j) := by
  have x := all_loopc 1 (F := fun k i => spec_GraphOk.l0 k i n t) (n := t.length) (P := Eat n t) (e := true) ?_ ?_ t.length k 0 (by omega) hk (fun j hj => by omega)
  · obtain ⟨b, h1, h2⟩ := x
    exact ⟨b, h1, by simpa using h2⟩
  · intro k i hi hp
    simp only [spec_GraphOk.l0]
    rw [if_pos (by omega), if_pos (by omega), spec_Node hn, spec_Node hn, spec_In]
    simp only [Option.bind_some, decide_eq_true_eq]
    by_cases c1 : Node n (rd_T67 t i).f0
    · rw [if_pos c1]
      by_cases c2 : Node n (rd_T67 t i).f1
      · rw [if_pos c2]
        by_cases c3 : (rd_T67 t i).f0 = (rd_T67 t i).f1
        · rw [if_pos c3]
          simp only [spec_GraphOk.j2]
          exact .inr ⟨fun h => h.2.2.1 c3, rfl⟩
        · rw [if_neg c3]
          simp only [spec_GraphOk.j2]
          by_cases c4 : 1 ≤ (rd_T67 t i).f2 ∧ (rd_T67 t i).f2 ≤ 1000
          · rw [decide_eq_true c4, if_neg (by decide)]
            by_cases c5 : i = 0
            · subst c5
              rw [if_neg (by omega), w64 (by omega) (by omega)]
              exact .inl ⟨⟨c1, c2, c3, c4, fun h => by omega⟩, rfl⟩
            · rw [if_pos (by omega), w64 (n := (i : Int) - 1) (by omega) (by omega), if_pos (by omega), if_pos (by omega), w64 (n := (i : Int) + 1) (by omega) (by omega)]
              by_cases c6 : (rd_T67 t ((i : Int) - 1)).f0 > (rd_T67 t i).f0
              · rw [if_pos c6]
                refine .inr ⟨fun h => ?_, rfl⟩
                have := h.2.2.2.2 (by omega)
                unfold EAhead at this; omega
              · rw [if_neg c6]
                by_cases c7 : (rd_T67 t ((i : Int) - 1)).f0 = (rd_T67 t i).f0
                · rw [if_pos c7]
                  by_cases c8 : (rd_T67 t ((i : Int) - 1)).f1 ≥ (rd_T67 t i).f1
                  · rw [if_pos c8]
                    refine .inr ⟨fun h => ?_, rfl⟩
                    have := h.2.2.2.2 (by omega)
                    unfold EAhead at this; omega
                  · rw [if_neg c8]
                    exact .inl ⟨⟨c1, c2, c3, c4, fun _ => .inr ⟨c7, by omega⟩⟩, rfl⟩
                · rw [if_neg c7]
                  exact .inl ⟨⟨c1, c2, c3, c4, fun _ => .inl (by omega)⟩, rfl⟩
          · rw [decide_eq_false c4]
            exact .inr ⟨fun h => c4 h.2.2.2.1, rfl⟩
      · rw [if_neg c2]
        simp only [spec_GraphOk.j2]
        exact .inr ⟨fun h => c2 h.2.1, rfl⟩
    · rw [if_neg c1]
      simp only [spec_GraphOk.j2]
      exact .inr ⟨fun h => c1 h.1, rfl⟩
  · intro k _
    simp only [spec_GraphOk.l0]
    rw [if_neg (by omega)]
theorem spec_Gok (n : Int) {t : List S67} (h : t.length ≤ 1048576) {k : Nat} (hk : t.length * 2 + 1 < k) : ∃ b, spec_GraphOk.f k n t = some b ∧ (b = true ↔ Gok n t) := by
  obtain ⟨k, rfl⟩ : ∃ m, k = m + 1 := ⟨k - 1, by omega⟩
  unfold spec_GraphOk.f Gok
  rw [spec_In]
  simp only [Option.bind_some, decide_eq_true_eq, spec_GraphOk.j0]
  by_cases hn : 1 ≤ n ∧ n ≤ 10
  · rw [if_pos hn]
    by_cases hl : (t.length : Int) > 60
    · refine ⟨false, by rw [if_pos hl], ⟨(fun h => by cases h), fun h => by omega⟩⟩
    · obtain ⟨b, h1, h2⟩ := spec_edges hn h (k := k) (by omega)
      exact ⟨b, by rw [if_neg hl, h1], by rw [h2]; exact ⟨fun x => ⟨hn, by omega, x⟩, fun x => x.2.2⟩⟩
  · rw [if_neg hn]
    exact ⟨false, rfl, ⟨(fun h => by cases h), fun h => absurd h.1 hn⟩⟩
theorem impl_CompareE {n : Int} {a b : S67} (hn : 1 ≤ n ∧ n ≤ 10) (h1 : Node n a.f0) (h2 : Node n a.f1) (h3 : Node n b.f0) (h4 : Node n b.f1) : ∃ c, impl_compareEdges.f a.f0 a.f1 a.f2 b.f0 b.f1 b.f2 = some c ∧ (¬ c ≥ 0 ↔ EAhead a b) := by
  unfold Node at h1 h2 h3 h4
  unfold impl_compareEdges.f EAhead
  by_cases h : a.f0 = b.f0
  · refine ⟨a.f1 - b.f1, by rw [if_pos h, w64 (by omega) (by omega)], by omega⟩
  · refine ⟨a.f0 - b.f0, by rw [if_neg h, w64 (by omega) (by omega)], by omega⟩
theorem impl_edges {n : Int} (hn : 1 ≤ n ∧ n ≤ 10) {t : List S67} (h : t.length ≤ 1048576) {k : Nat} (hk : t.length < k) : ∃ b, impl_GraphOk.l0 k t t.length 0 n t = some b ∧ (b = true ↔ ∀ j, j < t.length → Eat n t j) := by
  have x := all_loop (F := fun k i => impl_GraphOk.l0 k t t.length i n t) (n := t.length) (P := Eat n t) (e := true) ?_ ?_ t.length k 0 (by omega) hk (fun j hj => by omega)
  · obtain ⟨b, h1, h2⟩ := x
    exact ⟨b, h1, by simpa using h2⟩
  · intro k i hi hp
    simp only [impl_GraphOk.l0]
    rw [if_pos (by omega), if_pos (by omega), if_pos (by omega), impl_Node hn, impl_Node hn, impl_In]
    simp only [Option.bind_some, decide_eq_true_eq]
    by_cases c1 : Node n (rd_T67 t i).f0
    · rw [if_pos c1]
      by_cases c2 : Node n (rd_T67 t i).f1
      · rw [if_pos c2]
        by_cases c3 : (rd_T67 t i).f0 = (rd_T67 t i).f1
        · rw [if_pos c3]
          exact .inr ⟨fun h => h.2.2.1 c3, rfl⟩
        · rw [if_neg c3]
          by_cases c4 : 1 ≤ (rd_T67 t i).f2 ∧ (rd_T67 t i).f2 ≤ 1000
          · rw [if_pos c4]
            by_cases c5 : i = 0
            · subst c5
              rw [if_neg (by omega), w64 (by omega) (by omega)]
              exact .inl ⟨⟨c1, c2, c3, c4, fun h => by omega⟩, rfl⟩
            · rw [if_pos (by omega), w64 (n := (i : Int) - 1) (by omega) (by omega), if_pos (by omega), if_pos (by omega)]
              have e1 : (((i - 1 : Nat) : Int)) = (i : Int) - 1 := by omega
              have pv := hp (i - 1) (by omega)
              unfold Eat at pv
              rw [e1] at pv
              obtain ⟨b, hb, hb2⟩ := impl_CompareE hn pv.1 pv.2.1 c1 c2
              rw [hb]
              simp only [Option.bind_some]
              by_cases c6 : b ≥ 0
              · rw [if_pos c6]
                exact .inr ⟨fun h => hb2.2 (h.2.2.2.2 (by omega)) c6, rfl⟩
              · rw [if_neg c6, w64 (by omega) (by omega)]
                exact .inl ⟨⟨c1, c2, c3, c4, fun _ => hb2.1 c6⟩, rfl⟩
          · rw [if_neg c4]
            exact .inr ⟨fun h => c4 h.2.2.2.1, rfl⟩
      · rw [if_neg c2]
        exact .inr ⟨fun h => c2 h.2.1, rfl⟩
    · rw [if_neg c1]
      exact .inr ⟨fun h => c1 h.1, rfl⟩
  · intro k _
    simp only [impl_GraphOk.l0]
    rw [if_neg (by omega)]
theorem impl_Gok (n : Int) {t : List S67} (h : t.length ≤ 1048576) {k : Nat} (hk : t.length + 1 < k) : ∃ b, impl_GraphOk.f k n t = some b ∧ (b = true ↔ Gok n t) := by
  obtain ⟨k, rfl⟩ : ∃ m, k = m + 1 := ⟨k - 1, by omega⟩
  unfold impl_GraphOk.f Gok
  rw [impl_In]
  simp only [Option.bind_some, decide_eq_true_eq, impl_GraphOk.j0]
  by_cases hn : 1 ≤ n ∧ n ≤ 10
  · rw [if_pos hn]
    by_cases hl : (t.length : Int) > 60
    · refine ⟨false, by rw [if_pos hl], ⟨(fun h => by cases h), fun h => by omega⟩⟩
    · obtain ⟨b, h1, h2⟩ := impl_edges hn h (k := k) (by omega)
      exact ⟨b, by rw [if_neg hl, h1], by rw [h2]; exact ⟨fun x => ⟨hn, by omega, x⟩, fun x => x.2.2⟩⟩
  · rw [if_neg hn]
    exact ⟨false, rfl, ⟨(fun h => by cases h), fun h => absurd h.1 hn⟩⟩
/-- Both ask the same of a graph. -/
theorem both_Gok (n : Int) {t : List S67} (h : t.length ≤ 1048576) {k : Nat} (hk : t.length * 2 + 1 < k) : ∃ b, spec_GraphOk.f k n t = some b ∧ impl_GraphOk.f k n t = some b ∧ (b = true ↔ Gok n t) := by
  obtain ⟨b1, s1, s2⟩ := spec_Gok n h hk
  obtain ⟨b2, i1, i2⟩ := impl_Gok n h (k := k) (by omega)
  have e : b2 = b1 := by rw [Bool.eq_iff_iff, i2, s2]
  exact ⟨b1, s1, by rw [i1, e], s2⟩
/-- The cost of the edge from x to y, far where there is none. -/
def ecost : List S67 → Int → Int → Int
  | [], _, _ => 1000000
  | e :: t, x, y => if e.f0 = x then (if e.f1 = y then e.f2 else ecost t x y) else ecost t x y
def gcost (n : Int) (t : List S67) (x y : Int) : Int := if Node n x ∧ Node n y then (if x = y then 0 else ecost t x y) else 1000000
theorem rdE_get (t : List S67) (i : Nat) : rd_T67 t i = t.getD i z67 := by simp [rd_T67]
theorem Gok.mem {n : Int} {t : List S67} (h : Gok n t) {e : S67} (he : e ∈ t) : Node n e.f0 ∧ Node n e.f1 ∧ e.f0 ≠ e.f1 ∧ 1 ≤ e.f2 ∧ e.f2 ≤ 1000 := by
  obtain ⟨i, hi, rfl⟩ := List.getElem_of_mem he
  have x := h.2.2 i hi
  have e1 : rd_T67 t i = t[i] := by rw [rdE_get, List.getD_eq_getElem?_getD, List.getElem?_eq_getElem hi]; rfl
  unfold Eat at x
  rw [e1] at x
  exact ⟨x.1, x.2.1, x.2.2.1, x.2.2.2.1.1, x.2.2.2.1.2⟩
theorem ecost_mem {t : List S67} {x y : Int} (h : ecost t x y ≠ 1000000) : ∃ e ∈ t, e.f0 = x ∧ e.f1 = y ∧ ecost t x y = e.f2 := by
  induction t with
  | nil => exact absurd rfl h
  | cons e t ih =>
    simp only [ecost] at h ⊢
    by_cases h1 : e.f0 = x
    · by_cases h2 : e.f1 = y
      · rw [if_pos h1, if_pos h2]
        exact ⟨e, List.mem_cons_self, h1, h2, rfl⟩
      · rw [if_pos h1, if_neg h2] at h ⊢
        obtain ⟨e', m, r⟩ := ih h
        exact ⟨e', List.mem_cons_of_mem _ m, r⟩
    · rw [if_neg h1] at h ⊢
      obtain ⟨e', m, r⟩ := ih h
      exact ⟨e', List.mem_cons_of_mem _ m, r⟩
theorem ecost_far {n : Int} {t : List S67} (h : Gok n t) {x y : Int} (hxy : ¬ (Node n x ∧ Node n y ∧ x ≠ y)) : ecost t x y = 1000000 := by
  by_cases c : ecost t x y = 1000000
  · exact c
  · obtain ⟨e, m, h1, h2, _⟩ := ecost_mem c
    have g := h.mem m
    rw [h1, h2] at g
    exact absurd ⟨g.1, g.2.1, g.2.2.1⟩ hxy
theorem gcost_lim {n : Int} {t : List S67} (h : Gok n t) (x y : Int) : gcost n t x y = 1000000 ∨ (0 ≤ gcost n t x y ∧ gcost n t x y ≤ 1000) := by
  unfold gcost
  by_cases c : Node n x ∧ Node n y
  · rw [if_pos c]
    by_cases c2 : x = y
    · rw [if_pos c2]; exact .inr ⟨by omega, by omega⟩
    · rw [if_neg c2]
      by_cases c3 : ecost t x y = 1000000
      · exact .inl c3
      · obtain ⟨e, m, _, _, h3⟩ := ecost_mem c3
        have g := h.mem m
        rw [h3]
        exact .inr ⟨by omega, by omega⟩
  · rw [if_neg c]; exact .inl rfl
theorem spec_Cost {n : Int} (hn : 1 ≤ n ∧ n ≤ 10) {t : List S67} (h : t.length ≤ 1048576) (x y : Int) {k : Nat} (hk : t.length + 1 < k) : spec_l03Cost.f k n t x y = some (gcost n t x y) := by
  obtain ⟨k, rfl⟩ : ∃ m, k = m + 1 := ⟨k - 1, by omega⟩
  unfold spec_l03Cost.f gcost
  rw [spec_Node hn, spec_Node hn]
  simp only [Option.bind_some, decide_eq_true_eq, spec_l03Cost.j0]
  by_cases c1 : Node n x
  · by_cases c2 : Node n y
    · rw [if_pos c1, decide_eq_true c2, if_neg (by decide), if_pos (⟨c1, c2⟩ : Node n x ∧ Node n y)]
      by_cases c3 : x = y
      · rw [if_pos c3, if_pos c3]
      · rw [if_neg c3, if_neg c3]
        have z := find_loop (F := fun k i => spec_l03Cost.l0 k x y i n t) (h := fun l => ecost l x y) t ?_ ?_ t.length k 0 (by omega) (by omega)
        · exact z
        · intro k i hi
          simp only [spec_l03Cost.l0]
          rw [if_pos (by omega), if_pos (by omega), w64 (by omega) (by omega), drop_getD t z67 hi, ← rdE_get]
          simp only [ecost]
          by_cases d1 : (rd_T67 t i).f0 = x
          · by_cases d2 : (rd_T67 t i).f1 = y
            · rw [if_pos d1, if_pos d2, if_pos d1, if_pos d2]; exact .inr rfl
            · rw [if_pos d1, if_neg d2, if_pos d1, if_neg d2]; exact .inl ⟨rfl, rfl⟩
          · rw [if_neg d1, if_neg d1]; exact .inl ⟨rfl, rfl⟩
        · intro k
          simp only [spec_l03Cost.l0]
          rw [if_neg (by omega)]; rfl
    · rw [if_pos c1, decide_eq_false c2, if_pos (by decide), if_neg (c := Node n x ∧ Node n y) (fun z => c2 z.2)]
  · rw [if_neg c1, if_pos trivial, if_neg (c := Node n x ∧ Node n y) (fun z => c1 z.1)]
theorem rd_getI (t : List Int) (i : Nat) : rd t i = t.getD i 0 := by simp [rd]
theorem eq_IntS {l : List Int} {k : Nat} (h : l.length ≤ 1048576) (hk : l.length < k) : laws_eqIntS.f k l l = some true := by
  unfold laws_eqIntS.f
  rw [if_pos rfl]
  refine same_loop (F := laws_eqIntS.l0) (N := 1048576) ?_ ?_ l h l.length k 0 (by omega) hk
  · intro k i x hN hx
    simp only [laws_eqIntS.l0]
    rw [if_pos (by omega), if_pos (by omega), if_pos (by omega)]
    simp only [if_true]
    rw [w64 (by omega) (by omega)]
  · intro k x
    simp only [laws_eqIntS.l0]
    rw [if_neg (by omega)]
theorem mark_IntS (a : Int) (h0 : 0 ≤ a) (ha : a ≤ 1048576) {l : List Int} {k : Nat} (h : l.length ≤ 1048576) (hk : l.length < k) : ∃ M, laws_markIntS.f k l a = some (a + l.length, M) ∧ M.length = l.length ∧ ∀ j : Nat, j < l.length → rd M j = a + j := by
  have key : ∀ (d k i : Nat) (x : List Int), i + d = x.length → d < k → x.length ≤ 1048576 → (∀ j : Nat, j < i → rd x j = a + j) → ∃ M, laws_markIntS.l0 k x (a + i) i = some (a + x.length, M) ∧ M.length = x.length ∧ ∀ j : Nat, j < x.length → rd M j = a + j := by
    intro d
    induction d with
    | zero =>
      intro k i x hi hk hx hj
      obtain ⟨k, rfl⟩ : ∃ m, k = m + 1 := ⟨k - 1, by omega⟩
      obtain rfl : i = x.length := by omega
      simp only [laws_markIntS.l0]
      rw [if_neg (by omega)]
      exact ⟨x, rfl, rfl, hj⟩
    | succ d ih =>
      intro k i x hi hk hx hj
      obtain ⟨k, rfl⟩ : ∃ m, k = m + 1 := ⟨k - 1, by omega⟩
      simp only [laws_markIntS.l0]
      have e1 : a + (i : Int) + 1 = a + ((i + 1 : Nat) : Int) := by omega
      have e2 : (i : Int) + 1 = ((i + 1 : Nat) : Int) := by omega
      rw [if_pos (by omega), if_pos (by omega), w64 (by omega) (by omega), w64 (by omega) (by omega), e1, e2, Int.toNat_natCast]
      have z := ih k (i + 1) (x.set i (a + (i : Int))) (by rw [List.length_set]; omega) (by omega) (by rw [List.length_set]; exact hx) (fun j hj2 => ?_)
      · rw [List.length_set] at z; exact z
      · unfold rd
        rw [Int.toNat_natCast, List.getD_eq_getElem?_getD, List.getElem?_set]
        by_cases hji : i = j
        · subst hji; rw [if_pos rfl, if_pos (by omega)]; rfl
        · rw [if_neg hji]
          have := hj j (by omega)
          unfold rd at this
          rw [Int.toNat_natCast, List.getD_eq_getElem?_getD] at this
          exact this
  have z := key l.length k 0 l (by omega) hk h (fun j hj => by omega)
  simpa [laws_markIntS.f] using z
theorem held_IntS (a : Int) (h0 : 0 ≤ a) (ha : a ≤ 1048576) {M : List Int} {k : Nat} (h : M.length ≤ 1048576) (hk : M.length < k) (hM : ∀ j : Nat, j < M.length → rd M j = a + j) : laws_heldIntS.f k M a = some (a + M.length) := by
  have key : ∀ (d k i : Nat), i + d = M.length → d < k → laws_heldIntS.l0 k M (a + i) i = some (a + M.length) := by
    intro d
    induction d with
    | zero =>
      intro k i hi hk
      obtain ⟨k, rfl⟩ : ∃ m, k = m + 1 := ⟨k - 1, by omega⟩
      obtain rfl : i = M.length := by omega
      simp only [laws_heldIntS.l0]
      rw [if_neg (by omega)]
    | succ d ih =>
      intro k i hi hk
      obtain ⟨k, rfl⟩ : ∃ m, k = m + 1 := ⟨k - 1, by omega⟩
      simp only [laws_heldIntS.l0]
      have e1 : a + (i : Int) + 1 = a + ((i + 1 : Nat) : Int) := by omega
      have e2 : (i : Int) + 1 = ((i + 1 : Nat) : Int) := by omega
      rw [if_pos (by omega), if_pos (by omega), if_pos (hM i (by omega)), w64 (by omega) (by omega), w64 (by omega) (by omega), e1, e2]
      exact ih k (i + 1) (by omega) (by omega)
  have z := key M.length k 0 (by omega) hk
  simpa [laws_heldIntS.f] using z
theorem mark_Graph (n a : Int) (h0 : 0 ≤ a) (ha : a ≤ 1048576) {l : List S67} {k : Nat} (h : l.length ≤ 1048576) (hk : l.length < k) : ∃ M, laws_markGraph.f k n l a = some (a + 3 * l.length, M) := by
  have key : ∀ (d k i : Nat) (x : List S67), i + d = x.length → d < k → x.length ≤ 1048576 → ∃ M, laws_markEdgeS.l0 k x (a + 3 * i) i = some (a + 3 * x.length, M) := by
    intro d
    induction d with
    | zero =>
      intro k i x hi hk hx
      obtain ⟨k, rfl⟩ : ∃ m, k = m + 1 := ⟨k - 1, by omega⟩
      obtain rfl : i = x.length := by omega
      simp only [laws_markEdgeS.l0]
      rw [if_neg (by omega)]
      exact ⟨x, rfl⟩
    | succ d ih =>
      intro k i x hi hk hx
      obtain ⟨k, rfl⟩ : ∃ m, k = m + 1 := ⟨k - 1, by omega⟩
      simp only [laws_markEdgeS.l0, Option.bind_some]
      have e1 : a + 3 * (i : Int) + 1 + 1 + 1 = a + 3 * ((i + 1 : Nat) : Int) := by omega
      have e2 : (i : Int) + 1 = ((i + 1 : Nat) : Int) := by omega
      rw [if_pos (by omega), if_pos (by omega)]
      have hfin : ∀ y : List S67, y.length = x.length → ∃ M, laws_markEdgeS.l0 k y (a + 3 * ((i + 1 : Nat) : Int)) ((i + 1 : Nat) : Int) = some (a + 3 * x.length, M) := fun y hy => by
        have z := ih k (i + 1) y (by omega) (by omega) (by omega)
        rwa [hy] at z
      have w1 : wrap64 (a + 3 * (i : Int) + 1) = a + 3 * (i : Int) + 1 := w64 (by omega) (by omega)
      have w2 : wrap64 (a + 3 * (i : Int) + 1 + 1) = a + 3 * (i : Int) + 1 + 1 := w64 (by omega) (by omega)
      have w3 : wrap64 (a + 3 * (i : Int) + 1 + 1 + 1) = a + 3 * ((i + 1 : Nat) : Int) := by rw [w64 (by omega) (by omega)]; exact e1
      have w4 : wrap64 ((i : Int) + 1) = ((i + 1 : Nat) : Int) := by rw [w64 (by omega) (by omega)]; exact e2
      rw [w1, w2, w3, w4]
      exact hfin _ (by simp only [List.length_set])
  obtain ⟨M, hM⟩ := key l.length k 0 l (by omega) hk h
  refine ⟨M, ?_⟩
  unfold laws_markGraph.f laws_markEdgeS.f
  have e : a + 3 * ((0 : Nat) : Int) = a := by omega
  rw [e] at hM
  have hM' : laws_markEdgeS.l0 k l a 0 = some (a + 3 * l.length, M) := hM
  rw [hM']; rfl
/-- One edge more: the way over it, where it is shorter. -/
def relax (o : List Int) (e : S67) : List Int := if rd o e.f0 < 1000000 then o.set e.f1.toNat (mn (rd o e.f1) (rd o e.f0 + e.f2)) else o
def relaxAll (t : List S67) (o : List Int) : List Int := t.foldl relax o
def rounds (t : List S67) : Nat → List Int → List Int
  | 0, o => o
  | d + 1, o => rounds t d (relaxAll t o)
/-- The distances from a node. -/
def dist (n : Int) (t : List S67) (x : Int) : List Int := rounds t n.toNat ((List.replicate n.toNat 1000000).set x.toNat 0)
/-- Distances of n nodes: all between 0 and far. -/
def Dok (n : Int) (o : List Int) : Prop := (o.length : Int) = n ∧ ∀ v ∈ o, 0 ≤ v ∧ v ≤ 1000000
theorem rd_mem {o : List Int} {i : Int} (h0 : 0 ≤ i) (h : i < o.length) : rd o i ∈ o := by
  unfold rd
  have hi : i.toNat < o.length := by omega
  rw [List.getD_eq_getElem?_getD, List.getElem?_eq_getElem hi]
  exact List.getElem_mem hi
theorem mn_le (a b : Int) : mn a b ≤ a ∧ mn a b ≤ b := by unfold mn; split <;> omega
theorem Dok.relax {n : Int} {t : List S67} (g : Gok n t) {e : S67} (he : e ∈ t) {o : List Int} (h : Dok n o) : Dok n (relax o e) := by
  obtain ⟨a1, a2, a3, a4, a5⟩ := g.mem he
  unfold Node at a1 a2
  have b1 := h.2 _ (rd_mem (o := o) (i := e.f0) a1.1 (by have := h.1; omega))
  have b2 := h.2 _ (rd_mem (o := o) (i := e.f1) a2.1 (by have := h.1; omega))
  unfold Pure.relax
  by_cases c : rd o e.f0 < 1000000
  · rw [if_pos c]
    refine ⟨by rw [List.length_set]; exact h.1, fun v hv => ?_⟩
    rcases List.mem_or_eq_of_mem_set hv with hv | rfl
    · exact h.2 v hv
    · have := mn_le (rd o e.f1) (rd o e.f0 + e.f2)
      refine ⟨?_, by omega⟩
      unfold mn; split <;> omega
  · rw [if_neg c]; exact h
theorem set_self {o : List Int} {i : Nat} (h : i < o.length) : o.set i (o.getD i 0) = o := by
  apply List.ext_getElem?
  intro j
  rw [List.getElem?_set]
  by_cases c : i = j
  · subst c; rw [if_pos rfl, if_pos h, List.getD_eq_getElem?_getD, List.getElem?_eq_getElem h]; rfl
  · rw [if_neg c]
theorem Dok.all {n : Int} {t : List S67} (g : Gok n t) {o : List Int} (h : Dok n o) : ∀ (s : List S67), (∀ e ∈ s, e ∈ t) → Dok n (s.foldl Pure.relax o) := by
  intro s
  induction s generalizing o with
  | nil => intro _; exact h
  | cons e s ih =>
    intro hs
    exact ih (h.relax g (hs e List.mem_cons_self)) (fun e' he' => hs e' (List.mem_cons_of_mem _ he'))
theorem spec_inner {n : Int} {t : List S67} (g : Gok n t) (k : Nat) (r : Int) : ∀ (d i K : Nat) (o : List Int), i + d = t.length → K = k + d + 1 → Dok n o →
    spec_Distances.l2 K o r i n t = spec_Distances.l1 k ((t.drop i).foldl relax o) (wrap64 (r + 1)) n t := by
  have hl : t.length ≤ 60 := g.2.1
  intro d
  induction d with
  | zero =>
    intro i K o hi hK ho
    obtain rfl : i = t.length := by omega
    obtain rfl : K = k + 1 := by omega
    simp only [spec_Distances.l2]
    rw [if_neg (by omega), List.drop_length]; rfl
  | succ d ih =>
    intro i K o hi hK ho
    obtain ⟨K, rfl⟩ : ∃ m, K = m + 1 := ⟨K - 1, by omega⟩
    have hil : i < t.length := by omega
    have e1 : (i : Int) + 1 = ((i + 1 : Nat) : Int) := by omega
    have hmem : rd_T67 t i ∈ t := by
      rw [rdE_get, List.getD_eq_getElem?_getD, List.getElem?_eq_getElem hil]; exact List.getElem_mem hil
    obtain ⟨a1, a2, a3, a4, a5⟩ := g.mem hmem
    have hd := ho.relax g hmem
    have hlen := ho.1
    unfold Node at a1 a2
    have b1 := ho.2 _ (rd_mem (o := o) (i := (rd_T67 t i).f0) a1.1 (by omega))
    simp only [spec_Distances.l2]
    rw [if_pos (by omega), if_pos (by omega), if_pos a1.1, if_pos (by omega), w64 (n := (i : Int) + 1) (by omega) (by omega), e1, drop_getD t z67 hil, ← rdE_get, List.foldl_cons]
    by_cases c : rd o (rd_T67 t i).f0 < 1000000
    · rw [if_pos c, if_pos a2.1, if_pos (by omega), w64 (by omega) (by omega)]
      by_cases c2 : rd o (rd_T67 t i).f0 + (rd_T67 t i).f2 < rd o (rd_T67 t i).f1
      · have er : Pure.relax o (rd_T67 t i) = o.set (rd_T67 t i).f1.toNat (rd o (rd_T67 t i).f0 + (rd_T67 t i).f2) := by
          unfold Pure.relax mn; rw [if_pos c, if_pos c2]
        rw [if_pos c2, ← er, ih (i + 1) K _ (by omega) (by omega) hd]
      · have er : Pure.relax o (rd_T67 t i) = o := by
          unfold Pure.relax mn
          rw [if_pos c, if_neg c2]
          exact set_self (by omega)
        rw [if_neg c2, er, ih (i + 1) K _ (by omega) (by omega) ho]
    · have er : Pure.relax o (rd_T67 t i) = o := by unfold Pure.relax; rw [if_neg c]
      rw [if_neg c, er, ih (i + 1) K _ (by omega) (by omega) ho]
theorem spec_outer {n : Int} {t : List S67} (g : Gok n t) : ∀ (d k i : Nat) (o : List Int), (i : Int) + d = n → d * (t.length + 2) < k → Dok n o →
    spec_Distances.l1 k o i n t = some (rounds t d o) := by
  have hn := g.1
  intro d
  induction d with
  | zero =>
    intro k i o hi hk ho
    obtain ⟨k, rfl⟩ : ∃ m, k = m + 1 := ⟨k - 1, by omega⟩
    simp only [spec_Distances.l1]
    rw [if_neg (by omega)]; rfl
  | succ d ih =>
    intro k i o hi hk ho
    rw [Nat.add_mul, Nat.one_mul] at hk
    obtain ⟨k, rfl⟩ : ∃ m, k = (m + t.length + 1) + 1 := ⟨k - t.length - 2, by omega⟩
    have e1 : (i : Int) + 1 = ((i + 1 : Nat) : Int) := by omega
    have z := spec_inner g k i t.length 0 (k + t.length + 1) o (by omega) rfl ho
    have z' : spec_Distances.l2 (k + t.length + 1) o i 0 n t = spec_Distances.l1 k (relaxAll t o) (wrap64 ((i : Int) + 1)) n t := z
    simp only [spec_Distances.l1]
    rw [if_pos (by omega), z', w64 (by omega) (by omega), e1, ih k (i + 1) (relaxAll t o) (by omega) (by omega) (ho.all g t (fun e he => he))]
    rfl
theorem Dok.start {n x : Int} (hn : 1 ≤ n ∧ n ≤ 10) : Dok n ((List.replicate n.toNat 1000000).set x.toNat 0) := by
  refine ⟨by rw [List.length_set, List.length_replicate]; omega, fun v hv => ?_⟩
  rcases List.mem_or_eq_of_mem_set hv with hv | rfl
  · rw [List.eq_of_mem_replicate hv]; omega
  · omega
theorem spec_fars {n x : Int} {t : List S67} (g : Gok n t) (hx : Node n x) (k : Nat) : ∀ (d i K : Nat), (i : Int) + d = n → K = k + d + 1 →
    spec_Distances.l0 K x (List.replicate i 1000000) i n t = spec_Distances.l1 k ((List.replicate n.toNat 1000000).set x.toNat 0) 0 n t := by
  have hn := g.1
  unfold Node at hx
  intro d
  induction d with
  | zero =>
    intro i K hi hK
    have e : n.toNat = i := by omega
    obtain rfl : K = k + 1 := by omega
    simp only [spec_Distances.l0]
    rw [if_neg (by omega), if_pos hx.1, List.length_replicate, if_pos (by omega), e]
  | succ d ih =>
    intro i K hi hK
    have e1 : (i : Int) + 1 = ((i + 1 : Nat) : Int) := by omega
    obtain ⟨K, rfl⟩ : ∃ m, K = m + 1 := ⟨K - 1, by omega⟩
    simp only [spec_Distances.l0]
    rw [if_pos (by omega), List.length_replicate, if_pos (by omega), w64 (by omega) (by omega), e1, ← List.replicate_succ', ih (i + 1) K (by omega) (by omega)]
theorem spec_Dist {n : Int} {t : List S67} (h : t.length ≤ 1048576) (x : Int) {k : Nat} (hk : t.length * 12 + 60 < k) :
    ∃ b : Bool, (b = true ↔ (Gok n t ∧ Node n x)) ∧ spec_Distances.f k n t x = some (if b = true then dist n t x else []) := by
  obtain ⟨k, rfl⟩ : ∃ m, k = m + 1 := ⟨k - 1, by omega⟩
  obtain ⟨b, h1, _, h3⟩ := both_Gok n h (k := k + 1) (by omega)
  unfold spec_Distances.f
  rw [h1]
  simp only [Option.bind_some, spec_Distances.j0]
  by_cases c : b = true
  · have g := h3.1 c
    have hn := g.1
    have hl : t.length ≤ 60 := g.2.1
    rw [if_pos c, spec_Node hn]
    simp only [Option.bind_some]
    by_cases c2 : Node n x
    · rw [decide_eq_true c2, if_neg (by decide)]
      refine ⟨true, ⟨fun _ => ⟨g, c2⟩, fun _ => rfl⟩, ?_⟩
      obtain ⟨k, rfl⟩ : ∃ m, k = m + n.toNat + 1 := ⟨k - n.toNat - 1, by omega⟩
      have z := spec_fars g c2 k n.toNat 0 (k + n.toNat + 1) (by omega) rfl
      have hm : n.toNat * (t.length + 2) ≤ 10 * (t.length + 2) := Nat.mul_le_mul_right _ (by omega)
      have z2 := spec_outer g n.toNat k 0 _ (by omega) (by omega) (Dok.start (x := x) hn)
      have z' : spec_Distances.l0 (k + n.toNat + 1) x [] 0 n t = _ := z
      rw [z']
      exact z2
    · rw [decide_eq_false c2, if_pos (by decide)]
      exact ⟨false, ⟨(fun h => by cases h), fun h => absurd h.2 c2⟩, rfl⟩
  · rw [if_neg c, if_pos trivial]
    exact ⟨false, ⟨(fun h => by cases h), fun h => absurd (h3.2 h.1) c⟩, rfl⟩
theorem impl_inner {n : Int} {t : List S67} (g : Gok n t) (k : Nat) (r : Int) : ∀ (d i K : Nat) (o : List Int), i + d = t.length → K = k + d + 1 → Dok n o →
    impl_Graph_distances.l1 K o n r t t.length i n t = impl_Graph_distances.l0 k ((t.drop i).foldl relax o) n (wrap64 (r + 1)) n t := by
  have hl : t.length ≤ 60 := g.2.1
  intro d
  induction d with
  | zero =>
    intro i K o hi hK ho
    obtain rfl : i = t.length := by omega
    obtain rfl : K = k + 1 := by omega
    simp only [impl_Graph_distances.l1]
    rw [if_neg (by omega), List.drop_length]; rfl
  | succ d ih =>
    intro i K o hi hK ho
    obtain ⟨K, rfl⟩ : ∃ m, K = m + 1 := ⟨K - 1, by omega⟩
    have hil : i < t.length := by omega
    have e1 : (i : Int) + 1 = ((i + 1 : Nat) : Int) := by omega
    have hmem : rd_T67 t i ∈ t := by
      rw [rdE_get, List.getD_eq_getElem?_getD, List.getElem?_eq_getElem hil]; exact List.getElem_mem hil
    obtain ⟨a1, a2, a3, a4, a5⟩ := g.mem hmem
    have hd := ho.relax g hmem
    have hlen := ho.1
    unfold Node at a1 a2
    have b1 := ho.2 _ (rd_mem (o := o) (i := (rd_T67 t i).f0) a1.1 (by omega))
    simp only [impl_Graph_distances.l1]
    rw [if_pos (by omega), if_pos (by omega), if_pos (by omega), if_pos a1.1, if_pos (by omega), w64 (n := (i : Int) + 1) (by omega) (by omega), e1, drop_getD t z67 hil, ← rdE_get, List.foldl_cons]
    by_cases c : rd o (rd_T67 t i).f0 < 1000000
    · have er : Pure.relax o (rd_T67 t i) = o.set (rd_T67 t i).f1.toNat (mn (rd o (rd_T67 t i).f1) (rd o (rd_T67 t i).f0 + (rd_T67 t i).f2)) := by
        unfold Pure.relax; rw [if_pos c]
      rw [if_pos c, if_pos a2.1, if_pos (by omega), w64 (by omega) (by omega), ← er, ih (i + 1) K _ (by omega) (by omega) hd]
    · have er : Pure.relax o (rd_T67 t i) = o := by unfold Pure.relax; rw [if_neg c]
      rw [if_neg c, er, ih (i + 1) K _ (by omega) (by omega) ho]
theorem impl_outer {n : Int} {t : List S67} (g : Gok n t) : ∀ (d k i : Nat) (o : List Int), (i : Int) + d = n → d * (t.length + 2) < k → Dok n o →
    impl_Graph_distances.l0 k o n i n t = some (rounds t d o) := by
  have hn := g.1
  intro d
  induction d with
  | zero =>
    intro k i o hi hk ho
    obtain ⟨k, rfl⟩ : ∃ m, k = m + 1 := ⟨k - 1, by omega⟩
    simp only [impl_Graph_distances.l0]
    rw [if_neg (by omega)]; rfl
  | succ d ih =>
    intro k i o hi hk ho
    rw [Nat.add_mul, Nat.one_mul] at hk
    obtain ⟨k, rfl⟩ : ∃ m, k = (m + t.length + 1) + 1 := ⟨k - t.length - 2, by omega⟩
    have e1 : (i : Int) + 1 = ((i + 1 : Nat) : Int) := by omega
    have z := impl_inner g k i t.length 0 (k + t.length + 1) o (by omega) rfl ho
    have z' : impl_Graph_distances.l1 (k + t.length + 1) o n i t t.length 0 n t = impl_Graph_distances.l0 k (relaxAll t o) n (wrap64 ((i : Int) + 1)) n t := z
    simp only [impl_Graph_distances.l0]
    rw [if_pos (by omega), z', w64 (by omega) (by omega), e1, ih k (i + 1) (relaxAll t o) (by omega) (by omega) (ho.all g t (fun e he => he))]
    rfl
theorem impl_dist {n : Int} {t : List S67} (g : Gok n t) {x : Int} (hx : Node n x) {k : Nat} (hk : t.length * 12 + 60 < k) : impl_Graph_distances.f k n t x = some (dist n t x) := by
  have hn := g.1
  have hl : t.length ≤ 60 := g.2.1
  have hx2 := hx
  unfold Node at hx2
  have hm : n.toNat * (t.length + 2) ≤ 10 * (t.length + 2) := Nat.mul_le_mul_right _ (by omega)
  unfold impl_Graph_distances.f slices_Repeat_int_int.f
  have e1 : ([1000000] : List Int).length = 1 := rfl
  rw [if_pos e1, if_pos (by omega), if_pos (by omega)]
  have e2 : rd ([1000000] : List Int) 0 = 1000000 := rfl
  simp only [Option.bind_some, e2]
  rw [if_pos hx2.1, List.length_replicate, if_pos (by omega)]
  exact impl_outer g n.toNat k 0 _ (by omega) (by omega) (Dok.start (x := x) hn)
theorem spec_Dist' {n : Int} {t : List S67} (g : Gok n t) {x : Int} (hx : Node n x) {k : Nat} (hk : t.length * 12 + 60 < k) : spec_Distances.f k n t x = some (dist n t x) := by
  have hl : t.length ≤ 60 := g.2.1
  obtain ⟨b, h1, h2⟩ := spec_Dist (n := n) (t := t) (by omega) x hk
  rw [h2, if_pos (h1.2 ⟨g, hx⟩)]
theorem Dok.rounds {n : Int} {t : List S67} (g : Gok n t) : ∀ (d : Nat) {o : List Int}, Dok n o → Dok n (Pure.rounds t d o) := by
  intro d
  induction d with
  | zero => intro o h; exact h
  | succ d ih => intro o h; exact ih (h.all g t (fun e he => he))
theorem dist_ok {n : Int} {t : List S67} (g : Gok n t) (x : Int) : Dok n (dist n t x) := Dok.rounds g _ (Dok.start g.1)
/-- The distance between two nodes. -/
def D (n : Int) (t : List S67) (x y : Int) : Int := rd (dist n t x) y
theorem D_lim {n : Int} {t : List S67} (g : Gok n t) (x : Int) {y : Int} (hy : Node n y) : 0 ≤ D n t x y ∧ D n t x y ≤ 1000000 := by
  have h := dist_ok g x
  unfold Node at hy
  have := h.1
  exact h.2 _ (rd_mem hy.1 (by omega))
/-- All distances, row by row. -/
def allD (n : Int) (t : List S67) : List (List Int) := (List.range n.toNat).map fun (i : Nat) => dist n t i
theorem allD_len {n : Int} (h : 1 ≤ n ∧ n ≤ 10) (t : List S67) : ((allD n t).length : Int) = n := by
  simp [allD]; omega
theorem allD_rd {n : Int} (t : List S67) {x : Int} (hx : Node n x) : rd_L3 (allD n t) x = dist n t x := by
  unfold Node at hx
  unfold rd_L3 allD
  have h1 : x.toNat < n.toNat := by omega
  rw [List.getD_eq_getElem?_getD, List.getElem?_map, List.getElem?_range h1]
  simp only [Option.map_some, Option.getD_some]
  have e : ((x.toNat : Nat) : Int) = x := by omega
  rw [e]
theorem impl_all {n : Int} {t : List S67} (g : Gok n t) {k : Nat} (hk : t.length * 12 + 80 < k) : impl_Graph_all.f k n t = some (allD n t) := by
  have hn := g.1
  have key : ∀ (d k i : Nat), (i : Int) + d = n → d + (t.length * 12 + 62) < k → impl_Graph_all.l0 k ((List.range i).map fun (j : Nat) => dist n t j) n i n t = some (allD n t) := by
    intro d
    induction d with
    | zero =>
      intro k i hi hk
      obtain ⟨k, rfl⟩ : ∃ m, k = m + 1 := ⟨k - 1, by omega⟩
      simp only [impl_Graph_all.l0]
      rw [if_neg (by omega)]
      unfold allD
      have e : n.toNat = i := by omega
      rw [e]
    | succ d ih =>
      intro k i hi hk
      obtain ⟨k, rfl⟩ : ∃ m, k = m + 1 := ⟨k - 1, by omega⟩
      have e1 : (i : Int) + 1 = ((i + 1 : Nat) : Int) := by omega
      simp only [impl_Graph_all.l0]
      rw [if_pos (by omega), impl_dist g (⟨by omega, by omega⟩ : Node n i) (by omega)]
      simp only [Option.bind_some]
      rw [if_pos (by simp; omega), w64 (by omega) (by omega), e1, ← ih k (i + 1) (by omega) (by omega), List.range_succ, List.map_append]
      rfl
  have z := key n.toNat k 0 (by omega) (by omega)
  exact z
/-- Two ascending lists of the same members are one list. -/
theorem asc_eq : ∀ {a b : List Int}, a.Pairwise (· < ·) → b.Pairwise (· < ·) → (∀ z, z ∈ a ↔ z ∈ b) → a = b := by
  intro a
  induction a with
  | nil =>
    intro b _ _ h
    cases b with
    | nil => rfl
    | cons q b => exact absurd ((h q).2 List.mem_cons_self) (by simp)
  | cons p a ih =>
    intro b ha hb h
    cases b with
    | nil => exact absurd ((h p).1 List.mem_cons_self) (by simp)
    | cons q b =>
      have ha' := List.pairwise_cons.1 ha
      have hb' := List.pairwise_cons.1 hb
      have e : p = q := by
        rcases List.mem_cons.1 ((h p).1 List.mem_cons_self) with h1 | h1
        · exact h1
        · rcases List.mem_cons.1 ((h q).2 List.mem_cons_self) with h2 | h2
          · exact h2.symm
          · have := ha'.1 q h2; have := hb'.1 p h1; omega
      subst e
      congr 1
      refine ih ha'.2 hb'.2 (fun z => ⟨fun hz => ?_, fun hz => ?_⟩)
      · rcases List.mem_cons.1 ((h z).1 (List.mem_cons_of_mem _ hz)) with h1 | h1
        · have := ha'.1 z hz; omega
        · exact h1
      · rcases List.mem_cons.1 ((h z).2 (List.mem_cons_of_mem _ hz)) with h1 | h1
        · have := hb'.1 z hz; omega
        · exact h1
theorem Gok.asc {n : Int} {t : List S67} (g : Gok n t) : t.Pairwise EAhead := by
  have key : ∀ (j i : Nat), i < j → j < t.length → EAhead (rd_T67 t i) (rd_T67 t j) := by
    intro j
    induction j with
    | zero => intro i hi _; omega
    | succ j ih =>
      intro i hi hj
      have x := (g.2.2 (j + 1) hj).2.2.2.2 (by omega)
      have e : ((j + 1 : Nat) : Int) - 1 = (j : Int) := by omega
      rw [e] at x
      by_cases c : i = j
      · subst c; exact x
      · have y := ih i (by omega) (by omega)
        unfold EAhead at x y ⊢
        omega
  rw [List.pairwise_iff_getElem]
  intro i j hi hj hij
  have z := key j i hij hj
  rw [rdE_get, rdE_get, List.getD_eq_getElem?_getD, List.getD_eq_getElem?_getD, List.getElem?_eq_getElem hi, List.getElem?_eq_getElem hj] at z
  exact z
theorem ecost_of_mem : ∀ {t : List S67} {e : S67}, t.Pairwise EAhead → e ∈ t → ecost t e.f0 e.f1 = e.f2 := by
  intro t
  induction t with
  | nil => intro e _ h; cases h
  | cons a t ih =>
    intro e hp he
    have hp' := List.pairwise_cons.1 hp
    simp only [ecost]
    rcases List.mem_cons.1 he with h | h
    · subst h; rw [if_pos rfl, if_pos rfl]
    · have x := hp'.1 e h
      have y := ih hp'.2 h
      unfold EAhead at x
      by_cases c1 : a.f0 = e.f0
      · rw [if_pos c1, if_neg (by omega)]; exact y
      · rw [if_neg c1]; exact y
/-- The next nodes, out of the edges. -/
def hopE (n : Int) (t : List S67) (x y : Int) (e : S67) : Bool := decide (e.f0 = x ∧ e.f2 + D n t e.f1 y = D n t x y)
def hopsL (n : Int) (t : List S67) (x y : Int) : List Int := (t.filter (hopE n t x y)).map fun e => e.f1
/-- The next nodes, out of the nodes. -/
def hopN (n : Int) (t : List S67) (x y z : Int) : Bool := decide (z ≠ x ∧ gcost n t x z < 1000000 ∧ gcost n t x z + D n t z y = D n t x y)
def hopsR (n : Int) (t : List S67) (x y : Int) : List Int := ((List.range' 0 n.toNat).map fun (i : Nat) => (i : Int)).filter (hopN n t x y)
theorem hops_eq {n : Int} {t : List S67} (g : Gok n t) {x y : Int} (hx : Node n x) : hopsL n t x y = hopsR n t x y := by
  refine asc_eq ?_ ?_ (fun z => ?_)
  · unfold hopsL
    rw [List.pairwise_map]
    refine (g.asc.filter _).imp_of_mem ?_
    intro a b ha hb hab
    have ha2 := (List.mem_filter.1 ha).2
    have hb2 := (List.mem_filter.1 hb).2
    unfold hopE at ha2 hb2
    rw [decide_eq_true_eq] at ha2 hb2
    unfold EAhead at hab
    omega
  · unfold hopsR
    refine List.Pairwise.filter _ ?_
    rw [List.pairwise_map]
    refine (List.pairwise_lt_range' (s := 0) (n := n.toNat)).imp ?_
    intro a b hab
    omega
  · unfold hopsL hopsR
    simp only [List.mem_map, List.mem_filter, List.mem_range'_1, hopE, hopN, decide_eq_true_eq]
    constructor
    · rintro ⟨e, ⟨hm, h1, h2⟩, rfl⟩
      obtain ⟨a1, a2, a3, a4, a5⟩ := g.mem hm
      have hc : gcost n t x e.f1 = e.f2 := by
        unfold gcost
        rw [if_pos ⟨hx, a2⟩, if_neg (by omega), ← h1]
        exact ecost_of_mem g.asc hm
      unfold Node at a2
      refine ⟨⟨e.f1.toNat, by omega, by omega⟩, by omega, by omega, ?_⟩
      rw [hc]; exact h2
    · rintro ⟨⟨i, hi, rfl⟩, h1, h2, h3⟩
      have hn : Node n (i : Int) := ⟨by omega, by omega⟩
      unfold gcost at h2 h3
      rw [if_pos ⟨hx, hn⟩, if_neg (by omega)] at h2 h3
      obtain ⟨e, m, e1, e2, e3⟩ := ecost_mem (t := t) (x := x) (y := (i : Int)) (by omega)
      refine ⟨e, ⟨m, e1, ?_⟩, e2⟩
      rw [e2, ← e3]; exact h3
theorem spec_hops {n : Int} {t : List S67} (g : Gok n t) {x y : Int} (hx : Node n x) (hy : Node n y) : ∀ (d k i : Nat) (acc : List Int), (i : Int) + d = n → d + (t.length * 12 + 62) < k → acc.length ≤ i →
    spec_HopsTo.l0 k x y acc (D n t x y) i n t = some (acc ++ ((List.range' i d).map fun (j : Nat) => (j : Int)).filter (hopN n t x y)) := by
  have hn := g.1
  have hl : t.length ≤ 60 := g.2.1
  intro d
  induction d with
  | zero =>
    intro k i acc hi hk ha
    obtain ⟨k, rfl⟩ : ∃ m, k = m + 1 := ⟨k - 1, by omega⟩
    simp only [spec_HopsTo.l0]
    rw [if_neg (by omega)]
    simp
  | succ d ih =>
    intro k i acc hi hk ha
    obtain ⟨k, rfl⟩ : ∃ m, k = m + 1 := ⟨k - 1, by omega⟩
    have e1 : (i : Int) + 1 = ((i + 1 : Nat) : Int) := by omega
    have hi' : Node n (i : Int) := ⟨by omega, by omega⟩
    have lz := (dist_ok g (i : Int)).1
    have d2 := D_lim g (i : Int) hy
    have c := hy
    unfold Node at c
    have next : ∀ acc' : List Int, acc'.length ≤ i + 1 → spec_HopsTo.l0 k x y acc' (D n t x y) ((i + 1 : Nat) : Int) n t = _ := fun acc' h => ih k (i + 1) acc' (by omega) (by omega) h
    simp only [spec_HopsTo.l0, List.range'_succ, List.map_cons, List.filter_cons]
    rw [if_pos (by omega), spec_Cost hn (by omega) x i (by omega)]
    simp only [Option.bind_some]
    rw [wr1 (by omega)]
    by_cases h1 : (i : Int) = x
    · have hf : hopN n t x y (i : Int) = false := by unfold hopN; simp [h1]
      rw [if_pos h1, hf, next acc (by omega)]
      rfl
    · rw [if_neg h1]
      by_cases h2 : gcost n t x (i : Int) < 1000000
      · have gl := gcost_lim g x (i : Int)
        rw [if_pos h2, spec_Dist' g hi' (by omega)]
        simp only [Option.bind_some]
        rw [if_pos c.1, if_pos (by omega)]
        unfold D at d2
        rw [w64 (n := gcost n t x (i : Int) + rd (dist n t i) y) (by omega) (by omega)]
        by_cases h3 : gcost n t x (i : Int) + D n t i y = D n t x y
        · have hf : hopN n t x y (i : Int) = true := by unfold hopN; simp [h1, h2, h3]
          have h3' : gcost n t x (i : Int) + rd (dist n t i) y = D n t x y := h3
          rw [if_pos h3', if_pos (by omega), hf, next (acc ++ [(i : Int)]) (by simp; omega)]
          simp
        · have hf : hopN n t x y (i : Int) = false := by unfold hopN; simp [h3]
          have h3' : ¬ gcost n t x (i : Int) + rd (dist n t i) y = D n t x y := h3
          rw [if_neg h3', hf, next acc (by omega)]
          rfl
      · have hf : hopN n t x y (i : Int) = false := by unfold hopN; simp [h2]
        rw [if_neg h2, hf, next acc (by omega)]
        rfl
theorem impl_hops {n : Int} {t : List S67} (g : Gok n t) {x y : Int} (hx : Node n x) (hy : Node n y) : ∀ (d k i : Nat) (acc : List Int), i + d = t.length → d < k → acc.length ≤ i →
    impl_Graph_hopsTo.l0 k x y (allD n t) acc t t.length i = some (acc ++ ((t.drop i).filter (hopE n t x y)).map fun e => e.f1) := by
  have hn := g.1
  have hl : t.length ≤ 60 := g.2.1
  have la := allD_len hn t
  have lx := (dist_ok g x).1
  intro d
  induction d with
  | zero =>
    intro k i acc hi hk ha
    obtain ⟨k, rfl⟩ : ∃ m, k = m + 1 := ⟨k - 1, by omega⟩
    obtain rfl : i = t.length := by omega
    simp only [impl_Graph_hopsTo.l0]
    rw [if_neg (by omega), List.drop_length]
    simp
  | succ d ih =>
    intro k i acc hi hk ha
    obtain ⟨k, rfl⟩ : ∃ m, k = m + 1 := ⟨k - 1, by omega⟩
    have e1 : (i : Int) + 1 = ((i + 1 : Nat) : Int) := by omega
    have hil : i < t.length := by omega
    have hmem : rd_T67 t i ∈ t := by
      rw [rdE_get, List.getD_eq_getElem?_getD, List.getElem?_eq_getElem hil]; exact List.getElem_mem hil
    obtain ⟨a1, a2, a3, a4, a5⟩ := g.mem hmem
    have d2 := D_lim g (rd_T67 t i).f1 hy
    have lz := (dist_ok g (rd_T67 t i).f1).1
    have c := hy
    have b := hx
    have a2' := a2
    unfold Node at c b a2'
    have next : ∀ acc' : List Int, acc'.length ≤ i + 1 → impl_Graph_hopsTo.l0 k x y (allD n t) acc' t t.length ((i + 1 : Nat) : Int) = _ := fun acc' h => ih k (i + 1) acc' (by omega) (by omega) h
    simp only [impl_Graph_hopsTo.l0]
    rw [drop_getD t z67 hil, ← rdE_get, List.filter_cons, if_pos (by omega), if_pos (by omega), if_pos (by omega), wr1 (by omega)]
    by_cases h1 : (rd_T67 t i).f0 = x
    · rw [if_pos h1, if_pos a2'.1, if_pos (by omega), allD_rd t a2, allD_rd t hx, if_pos c.1, if_pos (by omega), if_pos b.1, if_pos (by omega), if_pos (by omega)]
      unfold D at d2
      rw [w64 (n := (rd_T67 t i).f2 + rd (dist n t (rd_T67 t i).f1) y) (by omega) (by omega)]
      by_cases h3 : (rd_T67 t i).f2 + D n t (rd_T67 t i).f1 y = D n t x y
      · have h3' : (rd_T67 t i).f2 + rd (dist n t (rd_T67 t i).f1) y = rd (dist n t x) y := h3
        have hf : hopE n t x y (rd_T67 t i) = true := by unfold hopE; simp [h1, h3]
        rw [if_pos h3', if_pos (by omega), hf, next _ (by simp; omega)]
        simp
      · have h3' : ¬ (rd_T67 t i).f2 + rd (dist n t (rd_T67 t i).f1) y = rd (dist n t x) y := h3
        have hf : hopE n t x y (rd_T67 t i) = false := by unfold hopE; simp [h3]
        rw [if_neg h3', hf, next acc (by omega)]
        rfl
    · have hf : hopE n t x y (rd_T67 t i) = false := by unfold hopE; simp [h1]
      rw [if_neg h1, hf, next acc (by omega)]
      rfl
theorem impl_HopsG {n : Int} {t : List S67} (g : Gok n t) {x y : Int} (hx : Node n x) (hy : Node n y) {k : Nat} (hk : t.length * 12 + 90 < k) :
    impl_Graph_hopsTo.f k n t x y (allD n t) = some (if x = y ∨ D n t x y = 1000000 then [] else hopsR n t x y) := by
  obtain ⟨k, rfl⟩ : ∃ m, k = m + 1 := ⟨k - 1, by omega⟩
  have hn := g.1
  have la := allD_len hn t
  have lx := (dist_ok g x).1
  have a := hx; have b := hy
  unfold Node at a b
  unfold impl_Graph_hopsTo.f
  simp only [Option.bind_some, impl_Graph_hopsTo.j0]
  by_cases c : x = y
  · rw [if_pos c, if_pos trivial, if_pos (.inl c)]
  · rw [if_neg c, if_pos a.1, if_pos (by omega), allD_rd t hx, if_pos b.1, if_pos (by omega)]
    by_cases c2 : D n t x y = 1000000
    · have e : (rd (dist n t x) y == 1000000) = true := by rw [beq_iff_eq]; exact c2
      rw [e, if_pos rfl, if_pos (.inr c2)]
    · have e : (rd (dist n t x) y == 1000000) = false := by rw [beq_eq_false_iff_ne]; exact c2
      have z := impl_hops g hx hy t.length k 0 [] (by omega) (by omega) (by simp)
      have z' : impl_Graph_hopsTo.l0 k x y (allD n t) [] t t.length 0 = some (hopsL n t x y) := z
      rw [e, if_neg (by decide), z', if_neg (by omega), hops_eq g hx]
theorem spec_HopsG {n : Int} {t : List S67} (g : Gok n t) {x y : Int} (hx : Node n x) (hy : Node n y) {k : Nat} (hk : t.length * 12 + 90 < k) :
    spec_HopsTo.f k n t x y = some (if x = y ∨ D n t x y = 1000000 then [] else hopsR n t x y) := by
  obtain ⟨k, rfl⟩ : ∃ m, k = m + 1 := ⟨k - 1, by omega⟩
  have hn := g.1
  have hl : t.length ≤ 60 := g.2.1
  have lx := (dist_ok g x).1
  have b := hy
  unfold Node at b
  obtain ⟨b0, h1, _, h3⟩ := both_Gok n (t := t) (by omega) (k := k + 1) (by omega)
  unfold spec_HopsTo.f
  rw [h1]
  simp only [Option.bind_some, spec_HopsTo.j0]
  rw [if_pos (h3.2 g), spec_Node hn, spec_Node hn, decide_eq_true hx, decide_eq_true hy]
  simp only [Option.bind_some, if_true]
  by_cases c : x = y
  · have e : (x == y) = true := by rw [beq_iff_eq]; exact c
    rw [e, if_pos rfl, if_pos (.inl c)]
  · have e : (x == y) = false := by rw [beq_eq_false_iff_ne]; exact c
    rw [e, if_neg (by decide), spec_Dist' g hx (by omega)]
    simp only [Option.bind_some]
    rw [if_pos b.1, if_pos (by omega)]
    by_cases c2 : D n t x y = 1000000
    · have c2' : rd (dist n t x) y = 1000000 := c2
      rw [if_pos c2', if_pos (.inr c2)]
    · have c2' : ¬ rd (dist n t x) y = 1000000 := c2
      have z := spec_hops g hx hy n.toNat k 0 [] (by omega) (by omega) (by simp)
      have z' : spec_HopsTo.l0 k x y [] (rd (dist n t x) y) 0 n t = some (hopsR n t x y) := z
      rw [if_neg c2', z', if_neg (by omega)]
/-- The next hops of a node to another. -/
def HH (n : Int) (t : List S67) (x y : Int) : List Int := if x = y ∨ D n t x y = 1000000 then [] else hopsR n t x y
theorem HH_len (n : Int) (h : n ≤ 10) (t : List S67) (x y : Int) : (HH n t x y).length ≤ 10 := by
  unfold HH
  split
  · simp
  · unfold hopsR
    have := List.length_filter_le (hopN n t x y) ((List.range' 0 n.toNat).map fun (i : Nat) => (i : Int))
    rw [List.length_map, List.length_range'] at this
    omega
def hopT (n : Int) (t : List S67) (x : Int) : List (List Int) := (List.range n.toNat).map fun (i : Nat) => HH n t x i
theorem hopT_len {n : Int} (h : 1 ≤ n ∧ n ≤ 10) (t : List S67) (x : Int) : ((hopT n t x).length : Int) = n := by
  simp [hopT]; omega
theorem hopT_rd {n : Int} (t : List S67) (x : Int) {y : Int} (hy : Node n y) : rd_L3 (hopT n t x) y = HH n t x y := by
  unfold Node at hy
  unfold rd_L3 hopT
  have h1 : y.toNat < n.toNat := by omega
  rw [List.getD_eq_getElem?_getD, List.getElem?_map, List.getElem?_range h1]
  simp only [Option.map_some, Option.getD_some]
  have e : ((y.toNat : Nat) : Int) = y := by omega
  rw [e]
theorem impl_hopT {n : Int} {t : List S67} (g : Gok n t) {x : Int} (hx : Node n x) {k : Nat} (hk : t.length * 12 + 105 < k) : impl_Graph_hopTable.f k n t x = some (hopT n t x) := by
  have hn := g.1
  have key : ∀ (d k i : Nat), (i : Int) + d = n → d + (t.length * 12 + 92) < k → impl_Graph_hopTable.l0 k x (allD n t) ((List.range i).map fun (j : Nat) => HH n t x j) n i n t = some (hopT n t x) := by
    intro d
    induction d with
    | zero =>
      intro k i hi hk
      obtain ⟨k, rfl⟩ : ∃ m, k = m + 1 := ⟨k - 1, by omega⟩
      simp only [impl_Graph_hopTable.l0]
      rw [if_neg (by omega)]
      unfold hopT
      rw [show n.toNat = i by omega]
    | succ d ih =>
      intro k i hi hk
      obtain ⟨k, rfl⟩ : ∃ m, k = m + 1 := ⟨k - 1, by omega⟩
      have e1 : (i : Int) + 1 = ((i + 1 : Nat) : Int) := by omega
      simp only [impl_Graph_hopTable.l0]
      rw [if_pos (by omega), impl_HopsG g hx (⟨by omega, by omega⟩ : Node n i) (by omega)]
      simp only [Option.bind_some]
      rw [if_pos (by simp; omega), w64 (by omega) (by omega), e1, ← ih k (i + 1) (by omega) (by omega), List.range_succ, List.map_append]
      rfl
  have z := key n.toNat k 0 (by omega) (by omega)
  unfold impl_Graph_hopTable.f
  rw [impl_all g (by omega)]
  exact z
/-- Few rows, each short. -/
def Few (t : List (List Int)) : Prop := t.length ≤ 10 ∧ ∀ r ∈ t, r.length ≤ 10
theorem Few.row {t : List (List Int)} (h : Few t) (j : Nat) : (rd_L3 t j).length ≤ 10 := by
  unfold rd_L3
  rw [Int.toNat_natCast, List.getD_eq_getElem?_getD]
  by_cases c : j < t.length
  · rw [List.getElem?_eq_getElem c]
    exact h.2 _ (List.getElem_mem c)
  · rw [List.getElem?_eq_none (by omega)]
    exact Nat.zero_le _
theorem eq_IntSS {t : List (List Int)} (h : Few t) {k : Nat} (hk : 30 < k) : laws_eqIntSS.f k t t = some true := by
  have hl := h.1
  have key : ∀ (d k i : Nat), i + d = t.length → d + 12 < k → laws_eqIntSS.l0 k t t i = some true := by
    intro d
    induction d with
    | zero =>
      intro k i hi hk
      obtain ⟨k, rfl⟩ : ∃ m, k = m + 1 := ⟨k - 1, by omega⟩
      simp only [laws_eqIntSS.l0]
      rw [if_neg (by omega)]
    | succ d ih =>
      intro k i hi hk
      obtain ⟨k, rfl⟩ : ∃ m, k = m + 1 := ⟨k - 1, by omega⟩
      have hr := h.row i
      have e1 : (i : Int) + 1 = ((i + 1 : Nat) : Int) := by omega
      simp only [laws_eqIntSS.l0]
      rw [if_pos (by omega), if_pos (by omega), if_pos (by omega), eq_IntS (by omega) (by omega)]
      simp only [Option.bind_some, if_true]
      rw [w64 (by omega) (by omega), e1]
      exact ih k (i + 1) (by omega) (by omega)
  unfold laws_eqIntSS.f
  rw [if_pos rfl]
  exact key t.length k 0 (by omega) (by omega)
/-- Where the marks of row j begin. -/
def off (t : List (List Int)) (a : Int) : Nat → Int
  | 0 => a
  | j + 1 => off t a j + ((rd_L3 t j).length : Int)
theorem off_lim {t : List (List Int)} (h : Few t) {a : Int} (h0 : 0 ≤ a) : ∀ j : Nat, 0 ≤ off t a j ∧ off t a j ≤ a + 10 * j
  | 0 => by unfold off; omega
  | j + 1 => by
    have z := off_lim h h0 j
    have r := h.row j
    unfold off
    omega
theorem rdL_set {x : List (List Int)} {i j : Nat} (v : List Int) (hi : i < x.length) : rd_L3 (x.set i v) j = if i = j then v else rd_L3 x j := by
  unfold rd_L3
  rw [Int.toNat_natCast, List.getD_eq_getElem?_getD, List.getD_eq_getElem?_getD, List.getElem?_set]
  by_cases c : i = j
  · subst c; simp [hi]
  · simp [c]
def Marked (t : List (List Int)) (a : Int) (x : List (List Int)) (i : Nat) : Prop :=
  x.length = t.length ∧ (∀ j : Nat, j < i → (rd_L3 x j).length = (rd_L3 t j).length ∧ ∀ q : Nat, q < (rd_L3 t j).length → rd (rd_L3 x j) q = off t a j + q) ∧ ∀ j : Nat, i ≤ j → rd_L3 x j = rd_L3 t j
theorem mark_IntSS {t : List (List Int)} (h : Few t) {a : Int} (h0 : 0 ≤ a) (ha : a ≤ 1000) {k : Nat} (hk : 30 < k) : ∃ M, laws_markIntSS.f k t a = some (off t a t.length, M) ∧ Marked t a M t.length := by
  have hl := h.1
  have key : ∀ (d k i : Nat) (x : List (List Int)), i + d = t.length → d + 12 < k → Marked t a x i → ∃ M, laws_markIntSS.l0 k x (off t a i) i = some (off t a t.length, M) ∧ Marked t a M t.length := by
    intro d
    induction d with
    | zero =>
      intro k i x hi hk hx
      obtain ⟨k, rfl⟩ : ∃ m, k = m + 1 := ⟨k - 1, by omega⟩
      obtain rfl : i = t.length := by omega
      have hxl := hx.1
      simp only [laws_markIntSS.l0]
      rw [if_neg (by omega)]
      exact ⟨x, rfl, hx⟩
    | succ d ih =>
      intro k i x hi hk hx
      obtain ⟨k, rfl⟩ : ∃ m, k = m + 1 := ⟨k - 1, by omega⟩
      have hxl := hx.1
      have hr := h.row i
      have ho := off_lim h h0 i
      have e1 : (i : Int) + 1 = ((i + 1 : Nat) : Int) := by omega
      have er : x.getD ((i : Nat) : Int).toNat [] = rd_L3 t i := hx.2.2 i (Nat.le_refl _)
      obtain ⟨M, m1, m2, m3⟩ := mark_IntS (off t a i) ho.1 (by omega) (l := rd_L3 t i) (k := k) (by omega) (by omega)
      have z := ih k (i + 1) (x.set i M) (by omega) (by omega) ⟨by rw [List.length_set]; exact hxl, fun j hj => ?_, fun j hj => ?_⟩
      · simp only [laws_markIntSS.l0]
        rw [if_pos (by omega), if_pos (by omega), er, m1]
        simp only [Option.bind_some]
        rw [w64 (by omega) (by omega), e1, Int.toNat_natCast]
        exact z
      · rw [rdL_set M (by omega)]
        by_cases c : i = j
        · subst c
          rw [if_pos rfl]
          exact ⟨m2, m3⟩
        · rw [if_neg c]
          exact hx.2.1 j (by omega)
      · rw [rdL_set M (by omega), if_neg (by omega)]
        exact hx.2.2 j (by omega)
  have z := key t.length k 0 t (by omega) (by omega) ⟨rfl, fun j hj => by omega, fun _ _ => rfl⟩
  exact z
theorem held_IntSS {t : List (List Int)} (h : Few t) {a : Int} (h0 : 0 ≤ a) (ha : a ≤ 1000) {M : List (List Int)} (hM : Marked t a M t.length) {k : Nat} (hk : 30 < k) : laws_heldIntSS.f k M a = some (off t a t.length) := by
  have hl := h.1
  have hml := hM.1
  have key : ∀ (d k i : Nat), i + d = t.length → d + 12 < k → laws_heldIntSS.l0 k M (off t a i) i = some (off t a t.length) := by
    intro d
    induction d with
    | zero =>
      intro k i hi hk
      obtain ⟨k, rfl⟩ : ∃ m, k = m + 1 := ⟨k - 1, by omega⟩
      obtain rfl : i = t.length := by omega
      simp only [laws_heldIntSS.l0]
      rw [if_neg (by omega)]
    | succ d ih =>
      intro k i hi hk
      obtain ⟨k, rfl⟩ : ∃ m, k = m + 1 := ⟨k - 1, by omega⟩
      have hr := h.row i
      have ho := off_lim h h0 i
      have e1 : (i : Int) + 1 = ((i + 1 : Nat) : Int) := by omega
      obtain ⟨q1, q2⟩ := hM.2.1 i (by omega)
      have z := held_IntS (off t a i) ho.1 (by omega) (M := rd_L3 M i) (k := k) (by omega) (by omega) (fun j hj => q2 j (by omega))
      rw [q1] at z
      have ih' := ih k (i + 1) (by omega) (by omega)
      simp only [laws_heldIntSS.l0]
      rw [if_pos (by omega), if_pos (by omega), z]
      simp only [Option.bind_some]
      rw [if_neg (by omega), w64 (by omega) (by omega), e1]
      exact ih'
  exact key t.length k 0 (by omega) (by omega)
theorem hopT_few {n : Int} (hn : 1 ≤ n ∧ n ≤ 10) (t : List S67) (x : Int) : Few (hopT n t x) := by
  have h1 := hopT_len hn t x
  refine ⟨by omega, fun r hr => ?_⟩
  unfold hopT at hr
  obtain ⟨i, _, rfl⟩ := List.mem_map.1 hr
  exact HH_len n (by omega) t x i
theorem spec_hopT {n : Int} {t : List S67} (g : Gok n t) {x : Int} (hx : Node n x) {k : Nat} (hk : t.length * 12 + 115 < k) : spec_HopTable.l0 k x [] 0 n t = some (hopT n t x) := by
  have hn := g.1
  have key : ∀ (d k i : Nat), (i : Int) + d = n → d + (t.length * 12 + 95) < k → spec_HopTable.l0 k x ((List.range i).map fun (j : Nat) => HH n t x j) i n t = some (hopT n t x) := by
    intro d
    induction d with
    | zero =>
      intro k i hi hk
      obtain ⟨k, rfl⟩ : ∃ m, k = m + 1 := ⟨k - 1, by omega⟩
      simp only [spec_HopTable.l0]
      rw [if_neg (by omega)]
      unfold hopT
      rw [show n.toNat = i by omega]
    | succ d ih =>
      intro k i hi hk
      obtain ⟨k, rfl⟩ : ∃ m, k = m + 1 := ⟨k - 1, by omega⟩
      have e1 : (i : Int) + 1 = ((i + 1 : Nat) : Int) := by omega
      simp only [spec_HopTable.l0]
      rw [if_pos (by omega), spec_HopsG g hx (⟨by omega, by omega⟩ : Node n i) (by omega)]
      simp only [Option.bind_some]
      rw [if_pos (by simp; omega), w64 (by omega) (by omega), e1, ← ih k (i + 1) (by omega) (by omega), List.range_succ, List.map_append]
      rfl
  exact key n.toNat k 0 (by omega) (by omega)
theorem both_HopT (n : Int) {t : List S67} (h : t.length ≤ 1048576) (x : Int) : ∃ r, Few r ∧ ∀ k, t.length * 12 + 120 < k → spec_HopTable.f k n t x = some r ∧ impl_HopTable.f k n t x = some r := by
  by_cases c : Gok n t ∧ Node n x
  · obtain ⟨g, hx⟩ := c
    have hn := g.1
    refine ⟨hopT n t x, hopT_few hn t x, fun k hk => ?_⟩
    obtain ⟨k, rfl⟩ : ∃ m, k = m + 1 := ⟨k - 1, by omega⟩
    obtain ⟨b0, h1, h2, h3⟩ := both_Gok n (t := t) h (k := k + 1) (by omega)
    unfold spec_HopTable.f impl_HopTable.f
    rw [h1, h2]
    simp only [Option.bind_some]
    rw [if_pos (h3.2 g), if_pos (h3.2 g), spec_Node hn, impl_Node hn, decide_eq_true hx]
    simp only [Option.bind_some, if_true, spec_HopTable.j0]
    rw [if_neg (by decide), spec_hopT g hx (by omega), impl_hopT g hx (by omega)]
    exact ⟨rfl, rfl⟩
  · refine ⟨[], ⟨by simp, by simp⟩, fun k hk => ?_⟩
    obtain ⟨k, rfl⟩ : ∃ m, k = m + 1 := ⟨k - 1, by omega⟩
    obtain ⟨b0, h1, h2, h3⟩ := both_Gok n (t := t) h (k := k + 1) (by omega)
    unfold spec_HopTable.f impl_HopTable.f
    rw [h1, h2]
    simp only [Option.bind_some]
    by_cases c0 : b0 = true
    · have g := h3.1 c0
      have hn := g.1
      rw [if_pos c0, if_pos c0, spec_Node hn, impl_Node hn, decide_eq_false (fun hx => c ⟨g, hx⟩)]
      simp only [Option.bind_some, spec_HopTable.j0]
      exact ⟨rfl, rfl⟩
    · rw [if_neg c0, if_neg c0]
      simp only [spec_HopTable.j0, if_true, and_self]
theorem FnExactHopTable : FnExactHopTable.Pure := by
  intro n l x _ hw _
  have hm : l.length ≤ 9223372036854775807 := hw.1
  obtain ⟨K, hK⟩ : ∃ K, K = l.length * 12 + 1048700 := ⟨_, rfl⟩
  refine ⟨K + 1, ?_⟩
  unfold laws_FnExactHopTable.f
  rw [sz_Graph n hm]
  simp only [Option.bind_some]
  by_cases hl : l.length ≤ 1048576
  · have hn : (l.map cvE).length = l.length := List.length_map ..
    obtain ⟨r, hf, hr⟩ := both_HopT n (t := l.map cvE) (by omega) x
    have hs := (hr (K + 1) (by omega)).1
    have hi := (hr (K + 1) (by omega)).2
    have hi2 := (hr K (by omega)).2
    obtain ⟨M1, m1⟩ := mark_Graph n 1 (by omega) (by omega) (l := l.map cvE) (k := K + 1) (by omega) (by omega)
    obtain ⟨M2, m2, m3⟩ := mark_IntSS hf (a := 1) (by omega) (by omega) (k := K) (by omega)
    have m5 := held_IntSS hf (a := 1) (by omega) (by omega) m3 (k := K) (by omega)
    have ho := off_lim hf (a := 1) (by omega) r.length
    rw [if_pos hl, if_neg (by omega), to_Graph n hl (by omega)]
    simp only [Option.bind_some]
    rw [hs]
    simp only [Option.bind_some]
    rw [hi]
    simp only [Option.bind_some]
    rw [eq_IntSS hf (by omega)]
    simp only [Option.bind_some, if_true]
    rw [eq_Graph n (by omega) (by omega)]
    simp only [Option.bind_some, if_true]
    rw [m1]
    simp only [Option.bind_some]
    rw [if_neg (by omega)]
    simp only [laws_FnExactHopTable.j0]
    rw [if_neg (by decide), m2]
    simp only [Option.bind_some]
    rw [m5]
    simp only [Option.bind_some]
    rw [if_neg (by omega), if_pos trivial, to_Graph n hl (by omega)]
    simp only [Option.bind_some]
    rw [hi2]
    simp only [Option.bind_some]
    rw [eq_IntSS hf (by omega)]
    simp only [Option.bind_some, if_true]
    rw [if_neg (by omega)]
  · rw [if_neg hl]; rfl

end Go.Proofs.Yteopiggdpadolaa.Pure
