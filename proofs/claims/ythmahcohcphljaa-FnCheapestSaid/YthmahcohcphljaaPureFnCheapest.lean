/- The plain law of FnCheapest: the program's law answers true at every draw. -/
import Derived.Test.YthmahcohcphljaaStmtFnCheapest
namespace Go.Proofs.Ythmahcohcphljaa.Pure
open Go.RowKit Go.Proofs.Ythmahcohcphljaa.QFnCheapest Go.Proofs.YthmahcohcphljaaC.PrintWords Go.Proofs.YthmahcohcphljaaC.PrintLast Go.Proofs.YthmahcohcphljaaC.PrintMore
set_option linter.unusedVariables false
set_option linter.unusedSimpArgs false

theorem w64 {n : Int} (h0 : -9223372036854775808 ≤ n) (h1 : n ≤ 9223372036854775807) : wrap64 n = n := by unfold wrap64; omega
theorem wr1 {i : Nat} (h : i ≤ 1048576) : wrap64 ((i : Int) + 1) = ((i + 1 : Nat) : Int) := by rw [w64 (by omega) (by omega)]; omega
theorem spec_In (a b c : Int) : spec_l01In.f a b c = some (decide (b ≤ a ∧ a ≤ c)) := by
  unfold spec_l01In.f
  by_cases h : b ≤ a <;> simp [h]
theorem impl_In (a b c : Int) : impl_within.f a b c = some (decide (b ≤ a ∧ a ≤ c)) := by
  unfold impl_within.f
  by_cases h : b ≤ a <;> simp [h]
/-- A loop that asks each index and ends at the first refusal. -/
theorem all_loop {F : Nat → Int → Option Bool} {n : Nat} {P : Nat → Prop} {e : Bool}
    (hs : ∀ (k i : Nat), i < n → (∀ j, j < i → P j) → (P i ∧ F (k + 1) i = F k ((i : Int) + 1)) ∨ (¬ P i ∧ F (k + 1) i = some false))
    (he : ∀ k : Nat, (∀ j, j < n → P j) → F (k + 1) n = some e) : ∀ (d k i : Nat), i + d = n → d < k → (∀ j, j < i → P j) →
    ∃ b, F k i = some b ∧ (b = true ↔ ((∀ j, j < n → P j) ∧ e = true)) := by
  intro d
  induction d with
  | zero =>
    intro k i hi hk hp
    obtain ⟨k, rfl⟩ : ∃ m, k = m + 1 := ⟨k - 1, by omega⟩
    obtain rfl : i = n := by omega
    exact ⟨e, he k hp, ⟨fun h => ⟨hp, h⟩, fun h => h.2⟩⟩
  | succ d ih =>
    intro k i hi hk hp
    obtain ⟨k, rfl⟩ : ∃ m, k = m + 1 := ⟨k - 1, by omega⟩
    rcases hs k i (by omega) hp with ⟨h1, h2⟩ | ⟨h1, h2⟩
    · have e1 : (i : Int) + 1 = ((i + 1 : Nat) : Int) := by omega
      rw [h2, e1]
      refine ih k (i + 1) (by omega) (by omega) (fun j hj => ?_)
      by_cases hji : j = i
      · rw [hji]; exact h1
      · exact hp j (by omega)
    · refine ⟨false, h2, ⟨(fun h => by cases h), fun h => absurd (h.1 i (by omega)) h1⟩⟩
/-- The same where a round costs c + 1 rounds of the count. -/
theorem all_loopc (c : Nat) {F : Nat → Int → Option Bool} {n : Nat} {P : Nat → Prop} {e : Bool}
    (hs : ∀ (k i : Nat), i < n → (∀ j, j < i → P j) → (P i ∧ F (k + (c + 1)) i = F k ((i : Int) + 1)) ∨ (¬ P i ∧ F (k + (c + 1)) i = some false))
    (he : ∀ k : Nat, (∀ j, j < n → P j) → F (k + 1) n = some e) : ∀ (d k i : Nat), i + d = n → d * (c + 1) < k → (∀ j, j < i → P j) →
    ∃ b, F k i = some b ∧ (b = true ↔ ((∀ j, j < n → P j) ∧ e = true)) := by
  intro d
  induction d with
  | zero =>
    intro k i hi hk hp
    obtain ⟨k, rfl⟩ : ∃ m, k = m + 1 := ⟨k - 1, by omega⟩
    obtain rfl : i = n := by omega
    exact ⟨e, he k hp, ⟨fun h => ⟨hp, h⟩, fun h => h.2⟩⟩
  | succ d ih =>
    intro k i hi hk hp
    rw [Nat.add_mul, Nat.one_mul] at hk
    obtain ⟨k, rfl⟩ : ∃ m, k = m + (c + 1) := ⟨k - (c + 1), by omega⟩
    rcases hs k i (by omega) hp with ⟨h1, h2⟩ | ⟨h1, h2⟩
    · have e1 : (i : Int) + 1 = ((i + 1 : Nat) : Int) := by omega
      rw [h2, e1]
      refine ih k (i + 1) (by omega) (by omega) (fun j hj => ?_)
      by_cases hji : j = i
      · rw [hji]; exact h1
      · exact hp j (by omega)
    · refine ⟨false, h2, ⟨(fun h => by cases h), fun h => absurd (h.1 i (by omega)) h1⟩⟩
/-- A loop that looks for something in a list, from an index on. -/
theorem find_loop {α ρ : Type} {F : Nat → Int → Option ρ} {h : List α → ρ} (t : List α)
    (hs : ∀ (k i : Nat), i < t.length → (F (k + 1) i = F k ((i : Int) + 1) ∧ h (t.drop i) = h (t.drop (i + 1))) ∨ F (k + 1) i = some (h (t.drop i)))
    (he : ∀ (k : Nat), F (k + 1) t.length = some (h [])) : ∀ (d k i : Nat), i + d = t.length → d < k → F k i = some (h (t.drop i)) := by
  intro d
  induction d with
  | zero =>
    intro k i hi hk
    obtain ⟨k, rfl⟩ : ∃ m, k = m + 1 := ⟨k - 1, by omega⟩
    obtain rfl : i = t.length := by omega
    rw [he, List.drop_length]
  | succ d ih =>
    intro k i hi hk
    obtain ⟨k, rfl⟩ : ∃ m, k = m + 1 := ⟨k - 1, by omega⟩
    rcases hs k i (by omega) with ⟨h1, h2⟩ | h1
    · have e1 : (i : Int) + 1 = ((i + 1 : Nat) : Int) := by omega
      rw [h1, e1, ih k (i + 1) (by omega) (by omega), h2]
    · exact h1
theorem drop_getD {α : Type} (t : List α) (z : α) {i : Nat} (hi : i < t.length) : t.drop i = t.getD i z :: t.drop (i + 1) := by
  rw [List.drop_eq_getElem_cons hi, List.getD_eq_getElem?_getD, List.getElem?_eq_getElem hi]; rfl
/-- A node of a graph of n nodes. -/
def Node (n x : Int) : Prop := 0 ≤ x ∧ x ≤ n - 1
instance (n x : Int) : Decidable (Node n x) := by unfold Node; infer_instance
def EAhead (a b : S76) : Prop := a.f0 < b.f0 ∨ a.f0 = b.f0 ∧ a.f1 < b.f1
/-- The edge at an index is valid and stands behind the one ahead of it. -/
def Eat (n : Int) (t : List S76) (j : Nat) : Prop :=
  Node n (rd_T76 t j).f0 ∧ Node n (rd_T76 t j).f1 ∧ (rd_T76 t j).f0 ≠ (rd_T76 t j).f1 ∧ (1 ≤ (rd_T76 t j).f2 ∧ (rd_T76 t j).f2 ≤ 1000) ∧
    (0 < j → EAhead (rd_T76 t ((j : Int) - 1)) (rd_T76 t j))
/-- A valid graph. -/
def Gok (n : Int) (t : List S76) : Prop := (1 ≤ n ∧ n ≤ 10) ∧ t.length ≤ 60 ∧ ∀ j, j < t.length → Eat n t j
theorem spec_Node {n : Int} (h : 1 ≤ n ∧ n ≤ 10) (t : List S76) (x : Int) : spec_l03Node.f n t x = some (decide (Node n x)) := by
  unfold spec_l03Node.f
  rw [w64 (by omega) (by omega), spec_In]
  rfl
theorem impl_Node {n : Int} (h : 1 ≤ n ∧ n ≤ 10) (t : List S76) (x : Int) : impl_Graph_isNode.f n t x = some (decide (Node n x)) := by
  unfold impl_Graph_isNode.f
  rw [w64 (by omega) (by omega), impl_In]
  rfl
theorem spec_edges {n : Int} (hn : 1 ≤ n ∧ n ≤ 10) {t : List S76} (h : t.length ≤ 1048576) {k : Nat} (hk : t.length * 2 < k) : ∃ b, spec_GraphOk.l0 k 0 n t = some b ∧ (b = true ↔ ∀ j, j < t.length → Eat n t j) := by
  have x := all_loopc 1 (F := fun k i => spec_GraphOk.l0 k i n t) (n := t.length) (P := Eat n t) (e := true) ?_ ?_ t.length k 0 (by omega) hk (fun j hj => by omega)
  · obtain ⟨b, h1, h2⟩ := x
    exact ⟨b, h1, by simpa using h2⟩
  · intro k i hi hp
    simp only [spec_GraphOk.l0]
    rw [if_pos (by omega), if_pos (by omega), spec_Node hn, spec_Node hn, spec_In]
    simp only [Option.bind_some, decide_eq_true_eq]
    by_cases c1 : Node n (rd_T76 t i).f0
    · rw [if_pos c1]
      by_cases c2 : Node n (rd_T76 t i).f1
      · rw [if_pos c2]
        by_cases c3 : (rd_T76 t i).f0 = (rd_T76 t i).f1
        · rw [if_pos c3]
          simp only [spec_GraphOk.j2]
          exact .inr ⟨fun h => h.2.2.1 c3, rfl⟩
        · rw [if_neg c3]
          simp only [spec_GraphOk.j2]
          by_cases c4 : 1 ≤ (rd_T76 t i).f2 ∧ (rd_T76 t i).f2 ≤ 1000
          · rw [decide_eq_true c4, if_neg (by decide)]
            by_cases c5 : i = 0
            · subst c5
              rw [if_neg (by omega), w64 (by omega) (by omega)]
              exact .inl ⟨⟨c1, c2, c3, c4, fun h => by omega⟩, rfl⟩
            · rw [if_pos (by omega), w64 (n := (i : Int) - 1) (by omega) (by omega), if_pos (by omega), if_pos (by omega), w64 (n := (i : Int) + 1) (by omega) (by omega)]
              by_cases c6 : (rd_T76 t ((i : Int) - 1)).f0 > (rd_T76 t i).f0
              · rw [if_pos c6]
                refine .inr ⟨fun h => ?_, rfl⟩
                have := h.2.2.2.2 (by omega)
                unfold EAhead at this; omega
              · rw [if_neg c6]
                by_cases c7 : (rd_T76 t ((i : Int) - 1)).f0 = (rd_T76 t i).f0
                · rw [if_pos c7]
                  by_cases c8 : (rd_T76 t ((i : Int) - 1)).f1 ≥ (rd_T76 t i).f1
                  · rw [if_pos c8]
                    refine .inr ⟨fun h => ?_, rfl⟩
                    have := h.2.2.2.2 (by omega)
                    unfold EAhead at this; omega
                  · rw [if_neg c8]
                    exact .inl ⟨⟨c1, c2, c3, c4, fun _ => .inr ⟨c7, by omega⟩⟩, rfl⟩
                · rw [if_neg c7]
                  exact .inl ⟨⟨c1, c2, c3, c4, fun _ => .inl (by omega)⟩, rfl⟩
          · rw [decide_eq_false c4]
            exact .inr ⟨fun h => c4 h.2.2.2.1, rfl⟩
      · rw [if_neg c2]
        simp only [spec_GraphOk.j2]
        exact .inr ⟨fun h => c2 h.2.1, rfl⟩
    · rw [if_neg c1]
      simp only [spec_GraphOk.j2]
      exact .inr ⟨fun h => c1 h.1, rfl⟩
  · intro k _
    simp only [spec_GraphOk.l0]
    rw [if_neg (by omega)]
theorem spec_Gok (n : Int) {t : List S76} (h : t.length ≤ 1048576) {k : Nat} (hk : t.length * 2 + 1 < k) : ∃ b, spec_GraphOk.f k n t = some b ∧ (b = true ↔ Gok n t) := by
  obtain ⟨k, rfl⟩ : ∃ m, k = m + 1 := ⟨k - 1, by omega⟩
  unfold spec_GraphOk.f Gok
  rw [spec_In]
  simp only [Option.bind_some, decide_eq_true_eq, spec_GraphOk.j0]
  by_cases hn : 1 ≤ n ∧ n ≤ 10
  · rw [if_pos hn]
    by_cases hl : (t.length : Int) > 60
    · refine ⟨false, by rw [if_pos hl], ⟨(fun h => by cases h), fun h => by omega⟩⟩
    · obtain ⟨b, h1, h2⟩ := spec_edges hn h (k := k) (by omega)
      exact ⟨b, by rw [if_neg hl, h1], by rw [h2]; exact ⟨fun x => ⟨hn, by omega, x⟩, fun x => x.2.2⟩⟩
  · rw [if_neg hn]
    exact ⟨false, rfl, ⟨(fun h => by cases h), fun h => absurd h.1 hn⟩⟩
theorem impl_CompareE {n : Int} {a b : S76} (hn : 1 ≤ n ∧ n ≤ 10) (h1 : Node n a.f0) (h2 : Node n a.f1) (h3 : Node n b.f0) (h4 : Node n b.f1) : ∃ c, impl_compareEdges.f a.f0 a.f1 a.f2 b.f0 b.f1 b.f2 = some c ∧ (¬ c ≥ 0 ↔ EAhead a b) := by
  unfold Node at h1 h2 h3 h4
  unfold impl_compareEdges.f EAhead
  by_cases h : a.f0 = b.f0
  · refine ⟨a.f1 - b.f1, by rw [if_pos h, w64 (by omega) (by omega)], by omega⟩
  · refine ⟨a.f0 - b.f0, by rw [if_neg h, w64 (by omega) (by omega)], by omega⟩
theorem impl_edges {n : Int} (hn : 1 ≤ n ∧ n ≤ 10) {t : List S76} (h : t.length ≤ 1048576) {k : Nat} (hk : t.length < k) : ∃ b, impl_GraphOk.l0 k t t.length 0 n t = some b ∧ (b = true ↔ ∀ j, j < t.length → Eat n t j) := by
  have x := all_loop (F := fun k i => impl_GraphOk.l0 k t t.length i n t) (n := t.length) (P := Eat n t) (e := true) ?_ ?_ t.length k 0 (by omega) hk (fun j hj => by omega)
  · obtain ⟨b, h1, h2⟩ := x
    exact ⟨b, h1, by simpa using h2⟩
  · intro k i hi hp
    simp only [impl_GraphOk.l0]
    rw [if_pos (by omega), if_pos (by omega), if_pos (by omega), impl_Node hn, impl_Node hn, impl_In]
    simp only [Option.bind_some, decide_eq_true_eq]
    by_cases c1 : Node n (rd_T76 t i).f0
    · rw [if_pos c1]
      by_cases c2 : Node n (rd_T76 t i).f1
      · rw [if_pos c2]
        by_cases c3 : (rd_T76 t i).f0 = (rd_T76 t i).f1
        · rw [if_pos c3]
          exact .inr ⟨fun h => h.2.2.1 c3, rfl⟩
        · rw [if_neg c3]
          by_cases c4 : 1 ≤ (rd_T76 t i).f2 ∧ (rd_T76 t i).f2 ≤ 1000
          · rw [if_pos c4]
            by_cases c5 : i = 0
            · subst c5
              rw [if_neg (by omega), w64 (by omega) (by omega)]
              exact .inl ⟨⟨c1, c2, c3, c4, fun h => by omega⟩, rfl⟩
            · rw [if_pos (by omega), w64 (n := (i : Int) - 1) (by omega) (by omega), if_pos (by omega), if_pos (by omega)]
              have e1 : (((i - 1 : Nat) : Int)) = (i : Int) - 1 := by omega
              have pv := hp (i - 1) (by omega)
              unfold Eat at pv
              rw [e1] at pv
              obtain ⟨b, hb, hb2⟩ := impl_CompareE hn pv.1 pv.2.1 c1 c2
              rw [hb]
              simp only [Option.bind_some]
              by_cases c6 : b ≥ 0
              · rw [if_pos c6]
                exact .inr ⟨fun h => hb2.2 (h.2.2.2.2 (by omega)) c6, rfl⟩
              · rw [if_neg c6, w64 (by omega) (by omega)]
                exact .inl ⟨⟨c1, c2, c3, c4, fun _ => hb2.1 c6⟩, rfl⟩
          · rw [if_neg c4]
            exact .inr ⟨fun h => c4 h.2.2.2.1, rfl⟩
      · rw [if_neg c2]
        exact .inr ⟨fun h => c2 h.2.1, rfl⟩
    · rw [if_neg c1]
      exact .inr ⟨fun h => c1 h.1, rfl⟩
  · intro k _
    simp only [impl_GraphOk.l0]
    rw [if_neg (by omega)]
theorem impl_Gok (n : Int) {t : List S76} (h : t.length ≤ 1048576) {k : Nat} (hk : t.length + 1 < k) : ∃ b, impl_GraphOk.f k n t = some b ∧ (b = true ↔ Gok n t) := by
  obtain ⟨k, rfl⟩ : ∃ m, k = m + 1 := ⟨k - 1, by omega⟩
  unfold impl_GraphOk.f Gok
  rw [impl_In]
  simp only [Option.bind_some, decide_eq_true_eq, impl_GraphOk.j0]
  by_cases hn : 1 ≤ n ∧ n ≤ 10
  · rw [if_pos hn]
    by_cases hl : (t.length : Int) > 60
    · refine ⟨false, by rw [if_pos hl], ⟨(fun h => by cases h), fun h => by omega⟩⟩
    · obtain ⟨b, h1, h2⟩ := impl_edges hn h (k := k) (by omega)
      exact ⟨b, by rw [if_neg hl, h1], by rw [h2]; exact ⟨fun x => ⟨hn, by omega, x⟩, fun x => x.2.2⟩⟩
  · rw [if_neg hn]
    exact ⟨false, rfl, ⟨(fun h => by cases h), fun h => absurd h.1 hn⟩⟩
/-- Both ask the same of a graph. -/
theorem both_Gok (n : Int) {t : List S76} (h : t.length ≤ 1048576) {k : Nat} (hk : t.length * 2 + 1 < k) : ∃ b, spec_GraphOk.f k n t = some b ∧ impl_GraphOk.f k n t = some b ∧ (b = true ↔ Gok n t) := by
  obtain ⟨b1, s1, s2⟩ := spec_Gok n h hk
  obtain ⟨b2, i1, i2⟩ := impl_Gok n h (k := k) (by omega)
  have e : b2 = b1 := by rw [Bool.eq_iff_iff, i2, s2]
  exact ⟨b1, s1, by rw [i1, e], s2⟩
/-- The cost of the edge from x to y, far where there is none. -/
def ecost : List S76 → Int → Int → Int
  | [], _, _ => 1000000
  | e :: t, x, y => if e.f0 = x then (if e.f1 = y then e.f2 else ecost t x y) else ecost t x y
def gcost (n : Int) (t : List S76) (x y : Int) : Int := if Node n x ∧ Node n y then (if x = y then 0 else ecost t x y) else 1000000
theorem rdE_get (t : List S76) (i : Nat) : rd_T76 t i = t.getD i z76 := by simp [rd_T76]
theorem Gok.mem {n : Int} {t : List S76} (h : Gok n t) {e : S76} (he : e ∈ t) : Node n e.f0 ∧ Node n e.f1 ∧ e.f0 ≠ e.f1 ∧ 1 ≤ e.f2 ∧ e.f2 ≤ 1000 := by
  obtain ⟨i, hi, rfl⟩ := List.getElem_of_mem he
  have x := h.2.2 i hi
  have e1 : rd_T76 t i = t[i] := by rw [rdE_get, List.getD_eq_getElem?_getD, List.getElem?_eq_getElem hi]; rfl
  unfold Eat at x
  rw [e1] at x
  exact ⟨x.1, x.2.1, x.2.2.1, x.2.2.2.1.1, x.2.2.2.1.2⟩
theorem ecost_mem {t : List S76} {x y : Int} (h : ecost t x y ≠ 1000000) : ∃ e ∈ t, e.f0 = x ∧ e.f1 = y ∧ ecost t x y = e.f2 := by
  induction t with
  | nil => exact absurd rfl h
  | cons e t ih =>
    simp only [ecost] at h ⊢
    by_cases h1 : e.f0 = x
    · by_cases h2 : e.f1 = y
      · rw [if_pos h1, if_pos h2]
        exact ⟨e, List.mem_cons_self, h1, h2, rfl⟩
      · rw [if_pos h1, if_neg h2] at h ⊢
        obtain ⟨e', m, r⟩ := ih h
        exact ⟨e', List.mem_cons_of_mem _ m, r⟩
    · rw [if_neg h1] at h ⊢
      obtain ⟨e', m, r⟩ := ih h
      exact ⟨e', List.mem_cons_of_mem _ m, r⟩
theorem ecost_far {n : Int} {t : List S76} (h : Gok n t) {x y : Int} (hxy : ¬ (Node n x ∧ Node n y ∧ x ≠ y)) : ecost t x y = 1000000 := by
  by_cases c : ecost t x y = 1000000
  · exact c
  · obtain ⟨e, m, h1, h2, _⟩ := ecost_mem c
    have g := h.mem m
    rw [h1, h2] at g
    exact absurd ⟨g.1, g.2.1, g.2.2.1⟩ hxy
theorem gcost_lim {n : Int} {t : List S76} (h : Gok n t) (x y : Int) : gcost n t x y = 1000000 ∨ (0 ≤ gcost n t x y ∧ gcost n t x y ≤ 1000) := by
  unfold gcost
  by_cases c : Node n x ∧ Node n y
  · rw [if_pos c]
    by_cases c2 : x = y
    · rw [if_pos c2]; exact .inr ⟨by omega, by omega⟩
    · rw [if_neg c2]
      by_cases c3 : ecost t x y = 1000000
      · exact .inl c3
      · obtain ⟨e, m, _, _, h3⟩ := ecost_mem c3
        have g := h.mem m
        rw [h3]
        exact .inr ⟨by omega, by omega⟩
  · rw [if_neg c]; exact .inl rfl
theorem spec_Cost {n : Int} (hn : 1 ≤ n ∧ n ≤ 10) {t : List S76} (h : t.length ≤ 1048576) (x y : Int) {k : Nat} (hk : t.length + 1 < k) : spec_l03Cost.f k n t x y = some (gcost n t x y) := by
  obtain ⟨k, rfl⟩ : ∃ m, k = m + 1 := ⟨k - 1, by omega⟩
  unfold spec_l03Cost.f gcost
  rw [spec_Node hn, spec_Node hn]
  simp only [Option.bind_some, decide_eq_true_eq, spec_l03Cost.j0]
  by_cases c1 : Node n x
  · by_cases c2 : Node n y
    · rw [if_pos c1, decide_eq_true c2, if_neg (by decide), if_pos (⟨c1, c2⟩ : Node n x ∧ Node n y)]
      by_cases c3 : x = y
      · rw [if_pos c3, if_pos c3]
      · rw [if_neg c3, if_neg c3]
        have z := find_loop (F := fun k i => spec_l03Cost.l0 k x y i n t) (h := fun l => ecost l x y) t ?_ ?_ t.length k 0 (by omega) (by omega)
        · exact z
        · intro k i hi
          simp only [spec_l03Cost.l0]
          rw [if_pos (by omega), if_pos (by omega), w64 (by omega) (by omega), drop_getD t z76 hi, ← rdE_get]
          simp only [ecost]
          by_cases d1 : (rd_T76 t i).f0 = x
          · by_cases d2 : (rd_T76 t i).f1 = y
            · rw [if_pos d1, if_pos d2, if_pos d1, if_pos d2]; exact .inr rfl
            · rw [if_pos d1, if_neg d2, if_pos d1, if_neg d2]; exact .inl ⟨rfl, rfl⟩
          · rw [if_neg d1, if_neg d1]; exact .inl ⟨rfl, rfl⟩
        · intro k
          simp only [spec_l03Cost.l0]
          rw [if_neg (by omega)]; rfl
    · rw [if_pos c1, decide_eq_false c2, if_pos (by decide), if_neg (c := Node n x ∧ Node n y) (fun z => c2 z.2)]
  · rw [if_neg c1, if_pos trivial, if_neg (c := Node n x ∧ Node n y) (fun z => c1 z.1)]
theorem impl_Cost {n : Int} {t : List S76} (g : Gok n t) (x y : Int) {k : Nat} (hk : t.length + 1 < k) : impl_Graph_cost.f k n t x y = some (gcost n t x y) := by
  obtain ⟨k, rfl⟩ : ∃ m, k = m + 1 := ⟨k - 1, by omega⟩
  have hl : t.length ≤ 60 := g.2.1
  have z : impl_Graph_cost.l0 k x y t t.length 0 = some (ecost t x y) := by
    have z := find_loop (F := fun k i => impl_Graph_cost.l0 k x y t t.length i) (h := fun l => ecost l x y) t ?_ ?_ t.length k 0 (by omega) (by omega)
    · exact z
    · intro k i hi
      simp only [impl_Graph_cost.l0]
      rw [if_pos (by omega), if_pos (by omega), if_pos (by omega), w64 (by omega) (by omega), drop_getD t z76 hi, ← rdE_get]
      simp only [ecost]
      by_cases d1 : (rd_T76 t i).f0 = x
      · by_cases d2 : (rd_T76 t i).f1 = y
        · rw [if_pos d1, if_pos d2, if_pos d1, if_pos d2]; exact .inr rfl
        · rw [if_pos d1, if_neg d2, if_pos d1, if_neg d2]; exact .inl ⟨rfl, rfl⟩
      · rw [if_neg d1, if_neg d1]; exact .inl ⟨rfl, rfl⟩
    · intro k
      simp only [impl_Graph_cost.l0]
      rw [if_neg (by omega)]; rfl
  unfold impl_Graph_cost.f gcost
  simp only [impl_Graph_cost.j0]
  by_cases c : x = y
  · subst c
    rw [if_pos rfl, impl_Node g.1]
    simp only [Option.bind_some, decide_eq_true_eq]
    by_cases c1 : Node n x
    · rw [if_pos c1, if_pos ⟨c1, c1⟩]; simp
    · rw [if_neg c1, if_neg (fun z => c1 z.1), z, ecost_far g (fun h => h.2.2 rfl)]
  · rw [if_neg c, if_neg (by decide), z]
    by_cases c1 : Node n x ∧ Node n y
    · rw [if_pos c1, if_neg c]
    · rw [if_neg c1, ecost_far g (fun h => c1 ⟨h.1, h.2.1⟩)]
theorem rd_getI (t : List Int) (i : Nat) : rd t i = t.getD i 0 := by simp [rd]
/-- One edge more: the way over it, where it is shorter. -/
def relax (o : List Int) (e : S76) : List Int := if rd o e.f0 < 1000000 then o.set e.f1.toNat (mn (rd o e.f1) (rd o e.f0 + e.f2)) else o
def relaxAll (t : List S76) (o : List Int) : List Int := t.foldl relax o
def rounds (t : List S76) : Nat → List Int → List Int
  | 0, o => o
  | d + 1, o => rounds t d (relaxAll t o)
/-- The distances from a node. -/
def dist (n : Int) (t : List S76) (x : Int) : List Int := rounds t n.toNat ((List.replicate n.toNat 1000000).set x.toNat 0)
/-- Distances of n nodes: all between 0 and far. -/
def Dok (n : Int) (o : List Int) : Prop := (o.length : Int) = n ∧ ∀ v ∈ o, 0 ≤ v ∧ v ≤ 1000000
theorem rd_mem {o : List Int} {i : Int} (h0 : 0 ≤ i) (h : i < o.length) : rd o i ∈ o := by
  unfold rd
  have hi : i.toNat < o.length := by omega
  rw [List.getD_eq_getElem?_getD, List.getElem?_eq_getElem hi]
  exact List.getElem_mem hi
theorem mn_le (a b : Int) : mn a b ≤ a ∧ mn a b ≤ b := by unfold mn; split <;> omega
theorem Dok.relax {n : Int} {t : List S76} (g : Gok n t) {e : S76} (he : e ∈ t) {o : List Int} (h : Dok n o) : Dok n (relax o e) := by
  obtain ⟨a1, a2, a3, a4, a5⟩ := g.mem he
  unfold Node at a1 a2
  have b1 := h.2 _ (rd_mem (o := o) (i := e.f0) a1.1 (by have := h.1; omega))
  have b2 := h.2 _ (rd_mem (o := o) (i := e.f1) a2.1 (by have := h.1; omega))
  unfold Pure.relax
  by_cases c : rd o e.f0 < 1000000
  · rw [if_pos c]
    refine ⟨by rw [List.length_set]; exact h.1, fun v hv => ?_⟩
    rcases List.mem_or_eq_of_mem_set hv with hv | rfl
    · exact h.2 v hv
    · have := mn_le (rd o e.f1) (rd o e.f0 + e.f2)
      refine ⟨?_, by omega⟩
      unfold mn; split <;> omega
  · rw [if_neg c]; exact h
theorem set_self {o : List Int} {i : Nat} (h : i < o.length) : o.set i (o.getD i 0) = o := by
  apply List.ext_getElem?
  intro j
  rw [List.getElem?_set]
  by_cases c : i = j
  · subst c; rw [if_pos rfl, if_pos h, List.getD_eq_getElem?_getD, List.getElem?_eq_getElem h]; rfl
  · rw [if_neg c]
theorem Dok.all {n : Int} {t : List S76} (g : Gok n t) {o : List Int} (h : Dok n o) : ∀ (s : List S76), (∀ e ∈ s, e ∈ t) → Dok n (s.foldl Pure.relax o) := by
  intro s
  induction s generalizing o with
  | nil => intro _; exact h
  | cons e s ih =>
    intro hs
    exact ih (h.relax g (hs e List.mem_cons_self)) (fun e' he' => hs e' (List.mem_cons_of_mem _ he'))
theorem spec_inner {n : Int} {t : List S76} (g : Gok n t) (k : Nat) (r : Int) : ∀ (d i K : Nat) (o : List Int), i + d = t.length → K = k + d + 1 → Dok n o →
    spec_Distances.l2 K o r i n t = spec_Distances.l1 k ((t.drop i).foldl relax o) (wrap64 (r + 1)) n t := by
  have hl : t.length ≤ 60 := g.2.1
  intro d
  induction d with
  | zero =>
    intro i K o hi hK ho
    obtain rfl : i = t.length := by omega
    obtain rfl : K = k + 1 := by omega
    simp only [spec_Distances.l2]
    rw [if_neg (by omega), List.drop_length]; rfl
  | succ d ih =>
    intro i K o hi hK ho
    obtain ⟨K, rfl⟩ : ∃ m, K = m + 1 := ⟨K - 1, by omega⟩
    have hil : i < t.length := by omega
    have e1 : (i : Int) + 1 = ((i + 1 : Nat) : Int) := by omega
    have hmem : rd_T76 t i ∈ t := by
      rw [rdE_get, List.getD_eq_getElem?_getD, List.getElem?_eq_getElem hil]; exact List.getElem_mem hil
    obtain ⟨a1, a2, a3, a4, a5⟩ := g.mem hmem
    have hd := ho.relax g hmem
    have hlen := ho.1
    unfold Node at a1 a2
    have b1 := ho.2 _ (rd_mem (o := o) (i := (rd_T76 t i).f0) a1.1 (by omega))
    simp only [spec_Distances.l2]
    rw [if_pos (by omega), if_pos (by omega), if_pos a1.1, if_pos (by omega), w64 (n := (i : Int) + 1) (by omega) (by omega), e1, drop_getD t z76 hil, ← rdE_get, List.foldl_cons]
    by_cases c : rd o (rd_T76 t i).f0 < 1000000
    · rw [if_pos c, if_pos a2.1, if_pos (by omega), w64 (by omega) (by omega)]
      by_cases c2 : rd o (rd_T76 t i).f0 + (rd_T76 t i).f2 < rd o (rd_T76 t i).f1
      · have er : Pure.relax o (rd_T76 t i) = o.set (rd_T76 t i).f1.toNat (rd o (rd_T76 t i).f0 + (rd_T76 t i).f2) := by
          unfold Pure.relax mn; rw [if_pos c, if_pos c2]
        rw [if_pos c2, ← er, ih (i + 1) K _ (by omega) (by omega) hd]
      · have er : Pure.relax o (rd_T76 t i) = o := by
          unfold Pure.relax mn
          rw [if_pos c, if_neg c2]
          exact set_self (by omega)
        rw [if_neg c2, er, ih (i + 1) K _ (by omega) (by omega) ho]
    · have er : Pure.relax o (rd_T76 t i) = o := by unfold Pure.relax; rw [if_neg c]
      rw [if_neg c, er, ih (i + 1) K _ (by omega) (by omega) ho]
theorem spec_outer {n : Int} {t : List S76} (g : Gok n t) : ∀ (d k i : Nat) (o : List Int), (i : Int) + d = n → d * (t.length + 2) < k → Dok n o →
    spec_Distances.l1 k o i n t = some (rounds t d o) := by
  have hn := g.1
  intro d
  induction d with
  | zero =>
    intro k i o hi hk ho
    obtain ⟨k, rfl⟩ : ∃ m, k = m + 1 := ⟨k - 1, by omega⟩
    simp only [spec_Distances.l1]
    rw [if_neg (by omega)]; rfl
  | succ d ih =>
    intro k i o hi hk ho
    rw [Nat.add_mul, Nat.one_mul] at hk
    obtain ⟨k, rfl⟩ : ∃ m, k = (m + t.length + 1) + 1 := ⟨k - t.length - 2, by omega⟩
    have e1 : (i : Int) + 1 = ((i + 1 : Nat) : Int) := by omega
    have z := spec_inner g k i t.length 0 (k + t.length + 1) o (by omega) rfl ho
    have z' : spec_Distances.l2 (k + t.length + 1) o i 0 n t = spec_Distances.l1 k (relaxAll t o) (wrap64 ((i : Int) + 1)) n t := z
    simp only [spec_Distances.l1]
    rw [if_pos (by omega), z', w64 (by omega) (by omega), e1, ih k (i + 1) (relaxAll t o) (by omega) (by omega) (ho.all g t (fun e he => he))]
    rfl
theorem Dok.start {n x : Int} (hn : 1 ≤ n ∧ n ≤ 10) : Dok n ((List.replicate n.toNat 1000000).set x.toNat 0) := by
  refine ⟨by rw [List.length_set, List.length_replicate]; omega, fun v hv => ?_⟩
  rcases List.mem_or_eq_of_mem_set hv with hv | rfl
  · rw [List.eq_of_mem_replicate hv]; omega
  · omega
theorem spec_fars {n x : Int} {t : List S76} (g : Gok n t) (hx : Node n x) (k : Nat) : ∀ (d i K : Nat), (i : Int) + d = n → K = k + d + 1 →
    spec_Distances.l0 K x (List.replicate i 1000000) i n t = spec_Distances.l1 k ((List.replicate n.toNat 1000000).set x.toNat 0) 0 n t := by
  have hn := g.1
  unfold Node at hx
  intro d
  induction d with
  | zero =>
    intro i K hi hK
    have e : n.toNat = i := by omega
    obtain rfl : K = k + 1 := by omega
    simp only [spec_Distances.l0]
    rw [if_neg (by omega), if_pos hx.1, List.length_replicate, if_pos (by omega), e]
  | succ d ih =>
    intro i K hi hK
    have e1 : (i : Int) + 1 = ((i + 1 : Nat) : Int) := by omega
    obtain ⟨K, rfl⟩ : ∃ m, K = m + 1 := ⟨K - 1, by omega⟩
    simp only [spec_Distances.l0]
    rw [if_pos (by omega), List.length_replicate, if_pos (by omega), w64 (by omega) (by omega), e1, ← List.replicate_succ', ih (i + 1) K (by omega) (by omega)]
theorem spec_Dist {n : Int} {t : List S76} (h : t.length ≤ 1048576) (x : Int) {k : Nat} (hk : t.length * 12 + 60 < k) :
    ∃ b : Bool, (b = true ↔ (Gok n t ∧ Node n x)) ∧ spec_Distances.f k n t x = some (if b = true then dist n t x else []) := by
  obtain ⟨k, rfl⟩ : ∃ m, k = m + 1 := ⟨k - 1, by omega⟩
  obtain ⟨b, h1, _, h3⟩ := both_Gok n h (k := k + 1) (by omega)
  unfold spec_Distances.f
  rw [h1]
  simp only [Option.bind_some, spec_Distances.j0]
  by_cases c : b = true
  · have g := h3.1 c
    have hn := g.1
    have hl : t.length ≤ 60 := g.2.1
    rw [if_pos c, spec_Node hn]
    simp only [Option.bind_some]
    by_cases c2 : Node n x
    · rw [decide_eq_true c2, if_neg (by decide)]
      refine ⟨true, ⟨fun _ => ⟨g, c2⟩, fun _ => rfl⟩, ?_⟩
      obtain ⟨k, rfl⟩ : ∃ m, k = m + n.toNat + 1 := ⟨k - n.toNat - 1, by omega⟩
      have z := spec_fars g c2 k n.toNat 0 (k + n.toNat + 1) (by omega) rfl
      have hm : n.toNat * (t.length + 2) ≤ 10 * (t.length + 2) := Nat.mul_le_mul_right _ (by omega)
      have z2 := spec_outer g n.toNat k 0 _ (by omega) (by omega) (Dok.start (x := x) hn)
      have z' : spec_Distances.l0 (k + n.toNat + 1) x [] 0 n t = _ := z
      rw [z']
      exact z2
    · rw [decide_eq_false c2, if_pos (by decide)]
      exact ⟨false, ⟨(fun h => by cases h), fun h => absurd h.2 c2⟩, rfl⟩
  · rw [if_neg c, if_pos trivial]
    exact ⟨false, ⟨(fun h => by cases h), fun h => absurd (h3.2 h.1) c⟩, rfl⟩
theorem impl_inner {n : Int} {t : List S76} (g : Gok n t) (k : Nat) (r : Int) : ∀ (d i K : Nat) (o : List Int), i + d = t.length → K = k + d + 1 → Dok n o →
    impl_Graph_distances.l1 K o n r t t.length i n t = impl_Graph_distances.l0 k ((t.drop i).foldl relax o) n (wrap64 (r + 1)) n t := by
  have hl : t.length ≤ 60 := g.2.1
  intro d
  induction d with
  | zero =>
    intro i K o hi hK ho
    obtain rfl : i = t.length := by omega
    obtain rfl : K = k + 1 := by omega
    simp only [impl_Graph_distances.l1]
    rw [if_neg (by omega), List.drop_length]; rfl
  | succ d ih =>
    intro i K o hi hK ho
    obtain ⟨K, rfl⟩ : ∃ m, K = m + 1 := ⟨K - 1, by omega⟩
    have hil : i < t.length := by omega
    have e1 : (i : Int) + 1 = ((i + 1 : Nat) : Int) := by omega
    have hmem : rd_T76 t i ∈ t := by
      rw [rdE_get, List.getD_eq_getElem?_getD, List.getElem?_eq_getElem hil]; exact List.getElem_mem hil
    obtain ⟨a1, a2, a3, a4, a5⟩ := g.mem hmem
    have hd := ho.relax g hmem
    have hlen := ho.1
    unfold Node at a1 a2
    have b1 := ho.2 _ (rd_mem (o := o) (i := (rd_T76 t i).f0) a1.1 (by omega))
    simp only [impl_Graph_distances.l1]
    rw [if_pos (by omega), if_pos (by omega), if_pos (by omega), if_pos a1.1, if_pos (by omega), w64 (n := (i : Int) + 1) (by omega) (by omega), e1, drop_getD t z76 hil, ← rdE_get, List.foldl_cons]
    by_cases c : rd o (rd_T76 t i).f0 < 1000000
    · have er : Pure.relax o (rd_T76 t i) = o.set (rd_T76 t i).f1.toNat (mn (rd o (rd_T76 t i).f1) (rd o (rd_T76 t i).f0 + (rd_T76 t i).f2)) := by
        unfold Pure.relax; rw [if_pos c]
      rw [if_pos c, if_pos a2.1, if_pos (by omega), w64 (by omega) (by omega), ← er, ih (i + 1) K _ (by omega) (by omega) hd]
    · have er : Pure.relax o (rd_T76 t i) = o := by unfold Pure.relax; rw [if_neg c]
      rw [if_neg c, er, ih (i + 1) K _ (by omega) (by omega) ho]
theorem impl_outer {n : Int} {t : List S76} (g : Gok n t) : ∀ (d k i : Nat) (o : List Int), (i : Int) + d = n → d * (t.length + 2) < k → Dok n o →
    impl_Graph_distances.l0 k o n i n t = some (rounds t d o) := by
  have hn := g.1
  intro d
  induction d with
  | zero =>
    intro k i o hi hk ho
    obtain ⟨k, rfl⟩ : ∃ m, k = m + 1 := ⟨k - 1, by omega⟩
    simp only [impl_Graph_distances.l0]
    rw [if_neg (by omega)]; rfl
  | succ d ih =>
    intro k i o hi hk ho
    rw [Nat.add_mul, Nat.one_mul] at hk
    obtain ⟨k, rfl⟩ : ∃ m, k = (m + t.length + 1) + 1 := ⟨k - t.length - 2, by omega⟩
    have e1 : (i : Int) + 1 = ((i + 1 : Nat) : Int) := by omega
    have z := impl_inner g k i t.length 0 (k + t.length + 1) o (by omega) rfl ho
    have z' : impl_Graph_distances.l1 (k + t.length + 1) o n i t t.length 0 n t = impl_Graph_distances.l0 k (relaxAll t o) n (wrap64 ((i : Int) + 1)) n t := z
    simp only [impl_Graph_distances.l0]
    rw [if_pos (by omega), z', w64 (by omega) (by omega), e1, ih k (i + 1) (relaxAll t o) (by omega) (by omega) (ho.all g t (fun e he => he))]
    rfl
theorem impl_dist {n : Int} {t : List S76} (g : Gok n t) {x : Int} (hx : Node n x) {k : Nat} (hk : t.length * 12 + 60 < k) : impl_Graph_distances.f k n t x = some (dist n t x) := by
  have hn := g.1
  have hl : t.length ≤ 60 := g.2.1
  have hx2 := hx
  unfold Node at hx2
  have hm : n.toNat * (t.length + 2) ≤ 10 * (t.length + 2) := Nat.mul_le_mul_right _ (by omega)
  unfold impl_Graph_distances.f slices_Repeat_int_int.f
  have e1 : ([1000000] : List Int).length = 1 := rfl
  rw [if_pos e1, if_pos (by omega), if_pos (by omega)]
  have e2 : rd ([1000000] : List Int) 0 = 1000000 := rfl
  simp only [Option.bind_some, e2]
  rw [if_pos hx2.1, List.length_replicate, if_pos (by omega)]
  exact impl_outer g n.toNat k 0 _ (by omega) (by omega) (Dok.start (x := x) hn)
theorem spec_Dist' {n : Int} {t : List S76} (g : Gok n t) {x : Int} (hx : Node n x) {k : Nat} (hk : t.length * 12 + 60 < k) : spec_Distances.f k n t x = some (dist n t x) := by
  have hl : t.length ≤ 60 := g.2.1
  obtain ⟨b, h1, h2⟩ := spec_Dist (n := n) (t := t) (by omega) x hk
  rw [h2, if_pos (h1.2 ⟨g, hx⟩)]
theorem Dok.rounds {n : Int} {t : List S76} (g : Gok n t) : ∀ (d : Nat) {o : List Int}, Dok n o → Dok n (Pure.rounds t d o) := by
  intro d
  induction d with
  | zero => intro o h; exact h
  | succ d ih => intro o h; exact ih (h.all g t (fun e he => he))
theorem dist_ok {n : Int} {t : List S76} (g : Gok n t) (x : Int) : Dok n (dist n t x) := Dok.rounds g _ (Dok.start g.1)
/-- The distance between two nodes. -/
def D (n : Int) (t : List S76) (x y : Int) : Int := rd (dist n t x) y
theorem D_lim {n : Int} {t : List S76} (g : Gok n t) (x : Int) {y : Int} (hy : Node n y) : 0 ≤ D n t x y ∧ D n t x y ≤ 1000000 := by
  have h := dist_ok g x
  unfold Node at hy
  have := h.1
  exact h.2 _ (rd_mem hy.1 (by omega))
/-- All distances, row by row. -/
def allD (n : Int) (t : List S76) : List (List Int) := (List.range n.toNat).map fun (i : Nat) => dist n t i
theorem allD_len {n : Int} (h : 1 ≤ n ∧ n ≤ 10) (t : List S76) : ((allD n t).length : Int) = n := by
  simp [allD]; omega
theorem allD_rd {n : Int} (t : List S76) {x : Int} (hx : Node n x) : rd_L3 (allD n t) x = dist n t x := by
  unfold Node at hx
  unfold rd_L3 allD
  have h1 : x.toNat < n.toNat := by omega
  rw [List.getD_eq_getElem?_getD, List.getElem?_map, List.getElem?_range h1]
  simp only [Option.map_some, Option.getD_some]
  have e : ((x.toNat : Nat) : Int) = x := by omega
  rw [e]
theorem impl_all {n : Int} {t : List S76} (g : Gok n t) {k : Nat} (hk : t.length * 12 + 80 < k) : impl_Graph_all.f k n t = some (allD n t) := by
  have hn := g.1
  have key : ∀ (d k i : Nat), (i : Int) + d = n → d + (t.length * 12 + 62) < k → impl_Graph_all.l0 k ((List.range i).map fun (j : Nat) => dist n t j) n i n t = some (allD n t) := by
    intro d
    induction d with
    | zero =>
      intro k i hi hk
      obtain ⟨k, rfl⟩ : ∃ m, k = m + 1 := ⟨k - 1, by omega⟩
      simp only [impl_Graph_all.l0]
      rw [if_neg (by omega)]
      unfold allD
      have e : n.toNat = i := by omega
      rw [e]
    | succ d ih =>
      intro k i hi hk
      obtain ⟨k, rfl⟩ : ∃ m, k = m + 1 := ⟨k - 1, by omega⟩
      have e1 : (i : Int) + 1 = ((i + 1 : Nat) : Int) := by omega
      simp only [impl_Graph_all.l0]
      rw [if_pos (by omega), impl_dist g (⟨by omega, by omega⟩ : Node n i) (by omega)]
      simp only [Option.bind_some]
      rw [if_pos (by simp; omega), w64 (by omega) (by omega), e1, ← ih k (i + 1) (by omega) (by omega), List.range_succ, List.map_append]
      rfl
  have z := key n.toNat k 0 (by omega) (by omega)
  exact z
/-- A walk of edges, and what it costs. -/
inductive Walk (t : List S76) (x : Int) : Int → Int → Prop
  | nil : Walk t x x 0
  | snoc {y c : Int} (e : S76) : Walk t x y c → e ∈ t → e.f0 = y → Walk t x e.f1 (c + e.f2)
theorem Walk.nonneg {n : Int} {t : List S76} (g : Gok n t) {x y c : Int} (h : Walk t x y c) : 0 ≤ c := by
  induction h with
  | nil => exact Int.le_refl _
  | snoc e _ he _ ih => have := (g.mem he).2.2.2; omega
theorem Walk.trans {t : List S76} {x y z c d : Int} (h : Walk t x y c) (h2 : Walk t y z d) : Walk t x z (c + d) := by
  induction h2 with
  | nil => rw [Int.add_zero]; exact h
  | snoc e _ he h0 ih => rw [← Int.add_assoc]; exact .snoc e ih he h0
theorem Walk.edge {t : List S76} {e : S76} (he : e ∈ t) : Walk t e.f0 e.f1 e.f2 := by
  have := Walk.snoc (x := e.f0) e .nil he rfl
  rwa [Int.zero_add] at this
theorem Walk.least {n : Int} {t : List S76} (g : Gok n t) {x y : Int} : ∀ (N : Nat) (c : Int), c.toNat ≤ N → Walk t x y c → ∃ c0, Walk t x y c0 ∧ c0 ≤ c ∧ ∀ c', Walk t x y c' → c0 ≤ c' := by
  intro N
  induction N with
  | zero =>
    intro c hc h
    exact ⟨c, h, Int.le_refl _, fun c' h' => by have := h'.nonneg g; have := h.nonneg g; omega⟩
  | succ N ih =>
    intro c hc h
    by_cases q : ∃ c', Walk t x y c' ∧ c' < c
    · obtain ⟨c', h', hlt⟩ := q
      have := h'.nonneg g
      obtain ⟨c0, a, b, d⟩ := ih c' (by omega) h'
      exact ⟨c0, a, by omega, d⟩
    · exact ⟨c, h, Int.le_refl _, fun c' h' => Int.not_lt.1 (fun hlt => q ⟨c', h', hlt⟩)⟩
theorem filter_le' {α : Type} (p q : α → Bool) : ∀ l : List α, (∀ a ∈ l, p a = true → q a = true) → (l.filter p).length ≤ (l.filter q).length
  | [], _ => Nat.le_refl _
  | a :: l, h => by
    have ih := filter_le' p q l (fun b hb => h b (List.mem_cons_of_mem _ hb))
    have ha := h a List.mem_cons_self
    rw [List.filter_cons, List.filter_cons]
    by_cases c : p a = true
    · rw [if_pos c, if_pos (ha c)]
      simp only [List.length_cons]
      omega
    · rw [if_neg c]
      by_cases c2 : q a = true
      · rw [if_pos c2]
        simp only [List.length_cons]
        omega
      · rw [if_neg c2]
        exact ih
theorem filter_lt' {α : Type} (p q : α → Bool) : ∀ l : List α, (∀ a ∈ l, p a = true → q a = true) → (∃ a ∈ l, q a = true ∧ ¬ p a = true) → (l.filter p).length < (l.filter q).length
  | [], _, h => by obtain ⟨a, ha, _⟩ := h; cases ha
  | a :: l, h, h2 => by
    have ha := h a List.mem_cons_self
    have hl : ∀ b ∈ l, p b = true → q b = true := fun b hb => h b (List.mem_cons_of_mem _ hb)
    rw [List.filter_cons, List.filter_cons]
    by_cases c : q a = true ∧ ¬ p a = true
    · have := filter_le' p q l hl
      rw [if_neg c.2, if_pos c.1]
      simp only [List.length_cons]
      omega
    · obtain ⟨b, hb, hq⟩ := h2
      have hb2 : b ∈ l := by
        rcases List.mem_cons.1 hb with rfl | hb
        · exact absurd hq c
        · exact hb
      have ih := filter_lt' p q l hl ⟨b, hb2, hq⟩
      by_cases c2 : p a = true
      · rw [if_pos c2, if_pos (ha c2)]
        simp only [List.length_cons]
        omega
      · rw [if_neg c2, if_neg (fun h => c ⟨h, c2⟩)]
        exact ih
open Classical in
/-- How many nodes can be reached for less than c. -/
noncomputable def rk (n : Int) (t : List S76) (x c : Int) : Nat := ((List.range n.toNat).filter fun (u : Nat) => decide (∃ c', Walk t x (u : Int) c' ∧ c' < c)).length
theorem rk_le {n : Int} (t : List S76) (x c : Int) : rk n t x c ≤ n.toNat := by
  unfold rk
  exact Nat.le_trans (List.length_filter_le _ _) (by rw [List.length_range]; exact Nat.le_refl _)
open Classical in
theorem rk_lt {n : Int} {t : List S76} (x : Int) {y c d : Int} (hy : Node n y) (h : Walk t x y c) (hm : ∀ c', Walk t x y c' → c ≤ c') (hcd : c < d) : rk n t x c < rk n t x d := by
  unfold Node at hy
  unfold rk
  refine filter_lt' _ _ _ (fun u _ hu => ?_) ⟨y.toNat, List.mem_range.2 (by omega), ?_⟩
  · obtain ⟨c', h1, h2⟩ := of_decide_eq_true hu
    exact decide_eq_true ⟨c', h1, by omega⟩
  · have e : ((y.toNat : Nat) : Int) = y := by omega
    rw [e]
    refine ⟨decide_eq_true ⟨c, h, hcd⟩, fun hh => ?_⟩
    obtain ⟨c', h1, h2⟩ := of_decide_eq_true hh
    have := hm c' h1
    omega
theorem rdn_set {o : List Int} {i j : Int} (v : Int) (h0 : 0 ≤ i) (h1 : i < o.length) (hj : 0 ≤ j) : rd (o.set i.toNat v) j = if i = j then v else rd o j := by
  unfold rd
  rw [List.getD_eq_getElem?_getD, List.getD_eq_getElem?_getD, List.getElem?_set]
  by_cases c : i = j
  · subst c
    rw [if_pos rfl, if_pos (by omega), if_pos rfl]
    rfl
  · rw [if_neg (by omega), if_neg c]
theorem relax_le {n : Int} {t : List S76} (g : Gok n t) {e : S76} (he : e ∈ t) {o : List Int} (h : Dok n o) {v : Int} (hv : Node n v) : rd (Pure.relax o e) v ≤ rd o v := by
  obtain ⟨a1, a2, a3, a4, a5⟩ := g.mem he
  unfold Node at a1 a2 hv
  have := h.1
  unfold Pure.relax
  by_cases c : rd o e.f0 < 1000000
  · rw [if_pos c, rdn_set _ a2.1 (by omega) hv.1]
    by_cases q : e.f1 = v
    · rw [if_pos q, q]
      exact (mn_le _ _).1
    · rw [if_neg q]
      exact Int.le_refl _
  · rw [if_neg c]
    exact Int.le_refl _
theorem relax_at {n : Int} {t : List S76} (g : Gok n t) {e : S76} (he : e ∈ t) {o : List Int} (h : Dok n o) (c : rd o e.f0 < 1000000) : rd (Pure.relax o e) e.f1 ≤ rd o e.f0 + e.f2 := by
  obtain ⟨a1, a2, a3, a4, a5⟩ := g.mem he
  unfold Node at a1 a2
  have := h.1
  unfold Pure.relax
  rw [if_pos c, rdn_set _ a2.1 (by omega) a2.1, if_pos rfl]
  exact (mn_le _ _).2
theorem fold_le {n : Int} {t : List S76} (g : Gok n t) {v : Int} (hv : Node n v) : ∀ (s : List S76) (o : List Int), (∀ e ∈ s, e ∈ t) → Dok n o → rd (s.foldl Pure.relax o) v ≤ rd o v := by
  intro s
  induction s with
  | nil => intro o _ _; exact Int.le_refl _
  | cons e s ih =>
    intro o hs h
    have he := hs e List.mem_cons_self
    have a := ih (Pure.relax o e) (fun b hb => hs b (List.mem_cons_of_mem _ hb)) (h.relax g he)
    have b := relax_le g he h hv
    exact Int.le_trans a b
theorem fold_at {n : Int} {t : List S76} (g : Gok n t) {e : S76} : ∀ (s : List S76) (o : List Int), (∀ e ∈ s, e ∈ t) → Dok n o → e ∈ s → rd o e.f0 < 1000000 → rd (s.foldl Pure.relax o) e.f1 ≤ rd o e.f0 + e.f2 := by
  intro s
  induction s with
  | nil => intro o _ _ h; cases h
  | cons a s ih =>
    intro o hs h he c
    have ha := hs a List.mem_cons_self
    have hs' : ∀ b ∈ s, b ∈ t := fun b hb => hs b (List.mem_cons_of_mem _ hb)
    have het := hs e he
    obtain ⟨a1, a2, _⟩ := g.mem het
    rcases List.mem_cons.1 he with rfl | he
    · exact Int.le_trans (fold_le g a2 s _ hs' (h.relax g ha)) (relax_at g ha h c)
    · have q := relax_le g ha h a1
      have := ih (Pure.relax o a) hs' (h.relax g ha) he (by omega)
      show rd (s.foldl Pure.relax (Pure.relax o a)) e.f1 ≤ _
      omega
theorem rounds_succ (t : List S76) : ∀ (d : Nat) (o : List Int), Pure.rounds t (d + 1) o = relaxAll t (Pure.rounds t d o)
  | 0, _ => rfl
  | d + 1, o => rounds_succ t d (relaxAll t o)
/-- What is told of a node is the cost of a walk. -/
def Real (n : Int) (t : List S76) (x : Int) (o : List Int) : Prop := ∀ v, Node n v → rd o v < 1000000 → Walk t x v (rd o v)
theorem Real.relax {n : Int} {t : List S76} (g : Gok n t) {x : Int} {e : S76} (he : e ∈ t) {o : List Int} (h : Dok n o) (r : Real n t x o) : Real n t x (Pure.relax o e) := by
  intro v hv hl
  obtain ⟨a1, a2, a3, a4, a5⟩ := g.mem he
  have b1 := a1
  have b2 := a2
  have bv := hv
  unfold Node at b1 b2 bv
  have := h.1
  unfold Pure.relax at hl ⊢
  by_cases c : rd o e.f0 < 1000000
  · rw [if_pos c, rdn_set _ b2.1 (by omega) bv.1] at hl ⊢
    by_cases q : e.f1 = v
    · rw [if_pos q] at hl ⊢
      subst q
      unfold mn at hl ⊢
      by_cases d : rd o e.f0 + e.f2 < rd o e.f1
      · rw [if_pos d]
        exact .snoc e (r _ a1 c) he rfl
      · rw [if_neg d] at hl ⊢
        exact r _ a2 hl
    · rw [if_neg q] at hl ⊢
      exact r v hv hl
  · rw [if_neg c] at hl ⊢
    exact r v hv hl
theorem Real.fold {n : Int} {t : List S76} (g : Gok n t) {x : Int} : ∀ (s : List S76) (o : List Int), (∀ e ∈ s, e ∈ t) → Dok n o → Real n t x o → Real n t x (s.foldl Pure.relax o) := by
  intro s
  induction s with
  | nil => intro o _ _ r; exact r
  | cons e s ih =>
    intro o hs h r
    have he := hs e List.mem_cons_self
    exact ih _ (fun b hb => hs b (List.mem_cons_of_mem _ hb)) (h.relax g he) (r.relax g he h)
theorem Real.rounds {n : Int} {t : List S76} (g : Gok n t) {x : Int} : ∀ (d : Nat) (o : List Int), Dok n o → Real n t x o → Real n t x (Pure.rounds t d o) := by
  intro d
  induction d with
  | zero => intro o _ r; exact r
  | succ d ih => intro o h r; exact ih _ (h.all g t (fun e he => he)) (Real.fold g t o (fun e he => he) h r)
theorem rd_rep' {m : Nat} {v i : Int} (h0 : 0 ≤ i) (h1 : i < m) : rd (List.replicate m v) i = v := by
  unfold rd
  rw [List.getD_eq_getElem?_getD, List.getElem?_replicate, if_pos (by omega)]
  rfl
theorem start_rd {n x v : Int} (hx : Node n x) (hv : Node n v) : rd ((List.replicate n.toNat 1000000).set x.toNat 0) v = if x = v then 0 else 1000000 := by
  unfold Node at hx hv
  rw [rdn_set _ hx.1 (by rw [List.length_replicate]; omega) hv.1, rd_rep' hv.1 (by omega)]
theorem Real.start {n x : Int} (t : List S76) (hx : Node n x) : Real n t x ((List.replicate n.toNat 1000000).set x.toNat 0) := by
  intro v hv hl
  rw [start_rd hx hv] at hl ⊢
  by_cases c : x = v
  · rw [if_pos c, ← c]
    exact .nil
  · rw [if_neg c] at hl
    exact absurd hl (by omega)
theorem D_walk {n : Int} {t : List S76} (g : Gok n t) {x y : Int} (hx : Node n x) (hy : Node n y) (h : D n t x y < 1000000) : Walk t x y (D n t x y) :=
  Real.rounds g _ _ (Dok.start g.1) (Real.start t hx) y hy h
theorem conv {n : Int} {t : List S76} (g : Gok n t) {x : Int} (hx : Node n x) : ∀ (N : Nat) (v c : Int), c.toNat ≤ N → Walk t x v c → (∀ c', Walk t x v c' → c ≤ c') →
    c ≤ 1000 * (rk n t x c : Int) ∧ ∀ r, rk n t x c ≤ r → rd (Pure.rounds t r ((List.replicate n.toNat 1000000).set x.toNat 0)) v ≤ c := by
  have hn := g.1
  have s0 := Dok.start (x := x) hn
  have base : ∀ r, rd (Pure.rounds t r ((List.replicate n.toNat 1000000).set x.toNat 0)) x ≤ 0 := by
    intro r
    induction r with
    | zero =>
      show rd ((List.replicate n.toNat 1000000).set x.toNat 0) x ≤ 0
      rw [start_rd hx hx, if_pos rfl]
      exact Int.le_refl _
    | succ r ih =>
      rw [rounds_succ]
      exact Int.le_trans (fold_le g hx t _ (fun e he => he) (Dok.rounds g r s0)) ih
  intro N
  induction N with
  | zero =>
    intro v c hN h hm
    cases h with
    | nil => exact ⟨by omega, fun r _ => base r⟩
    | snoc e h1 he h0 =>
      have := h1.nonneg g
      have := (g.mem he).2.2.2
      omega
  | succ N ih =>
    intro v c hN h hm
    cases h with
    | nil => exact ⟨by omega, fun r _ => base r⟩
    | @snoc y c1 e h1 he h0 =>
      subst h0
      obtain ⟨a1, a2, a3, a4, a5⟩ := g.mem he
      have p1 := h1.nonneg g
      have m1 : ∀ c', Walk t x e.f0 c' → c1 ≤ c' := fun c' h' => by
        have := hm _ (.snoc e h' he rfl)
        omega
      obtain ⟨q1, q2⟩ := ih e.f0 c1 (by omega) h1 m1
      have hr := rk_lt (n := n) x (d := c1 + e.f2) a1 h1 m1 (by omega)
      refine ⟨by omega, fun r hrr => ?_⟩
      obtain ⟨r', rfl⟩ : ∃ r', r = r' + 1 := ⟨r - 1, by omega⟩
      have z := q2 r' (by omega)
      have hk := rk_le (n := n) t x c1
      rw [rounds_succ]
      have f := fold_at g (e := e) t _ (fun e he => he) (Dok.rounds g r' s0) he (by omega)
      show rd (t.foldl Pure.relax (Pure.rounds t r' _)) e.f1 ≤ _
      omega
theorem walk_D {n : Int} {t : List S76} (g : Gok n t) {x y c : Int} (hx : Node n x) (h : Walk t x y c) : D n t x y ≤ c := by
  obtain ⟨c0, h1, h2, h3⟩ := h.least g c.toNat c (Nat.le_refl _)
  have := (conv g hx c0.toNat y c0 (Nat.le_refl _) h1 h3).2 n.toNat (rk_le t x c0)
  exact Int.le_trans this h2
theorem D_self {n : Int} {t : List S76} (g : Gok n t) {x : Int} (hx : Node n x) : D n t x x = 0 := by
  have a := walk_D g hx (Walk.nil (t := t))
  have b := D_lim g x hx
  omega
theorem D_tri {n : Int} {t : List S76} (g : Gok n t) {x y z : Int} (hx : Node n x) (hy : Node n y) (hz : Node n z) (h1 : D n t x y < 1000000) (h2 : D n t y z < 1000000) : D n t x z ≤ D n t x y + D n t y z :=
  walk_D g hx ((D_walk g hx hy h1).trans (D_walk g hy hz h2))
theorem D_edge {n : Int} {t : List S76} (g : Gok n t) {e : S76} (he : e ∈ t) : D n t e.f0 e.f1 ≤ e.f2 := walk_D g (g.mem he).1 (Walk.edge he)
/-- Two ascending lists of the same members are one list. -/
theorem asc_eq : ∀ {a b : List Int}, a.Pairwise (· < ·) → b.Pairwise (· < ·) → (∀ z, z ∈ a ↔ z ∈ b) → a = b := by
  intro a
  induction a with
  | nil =>
    intro b _ _ h
    cases b with
    | nil => rfl
    | cons q b => exact absurd ((h q).2 List.mem_cons_self) (by simp)
  | cons p a ih =>
    intro b ha hb h
    cases b with
    | nil => exact absurd ((h p).1 List.mem_cons_self) (by simp)
    | cons q b =>
      have ha' := List.pairwise_cons.1 ha
      have hb' := List.pairwise_cons.1 hb
      have e : p = q := by
        rcases List.mem_cons.1 ((h p).1 List.mem_cons_self) with h1 | h1
        · exact h1
        · rcases List.mem_cons.1 ((h q).2 List.mem_cons_self) with h2 | h2
          · exact h2.symm
          · have := ha'.1 q h2; have := hb'.1 p h1; omega
      subst e
      congr 1
      refine ih ha'.2 hb'.2 (fun z => ⟨fun hz => ?_, fun hz => ?_⟩)
      · rcases List.mem_cons.1 ((h z).1 (List.mem_cons_of_mem _ hz)) with h1 | h1
        · have := ha'.1 z hz; omega
        · exact h1
      · rcases List.mem_cons.1 ((h z).2 (List.mem_cons_of_mem _ hz)) with h1 | h1
        · have := hb'.1 z hz; omega
        · exact h1
theorem Gok.asc {n : Int} {t : List S76} (g : Gok n t) : t.Pairwise EAhead := by
  have key : ∀ (j i : Nat), i < j → j < t.length → EAhead (rd_T76 t i) (rd_T76 t j) := by
    intro j
    induction j with
    | zero => intro i hi _; omega
    | succ j ih =>
      intro i hi hj
      have x := (g.2.2 (j + 1) hj).2.2.2.2 (by omega)
      have e : ((j + 1 : Nat) : Int) - 1 = (j : Int) := by omega
      rw [e] at x
      by_cases c : i = j
      · subst c; exact x
      · have y := ih i (by omega) (by omega)
        unfold EAhead at x y ⊢
        omega
  rw [List.pairwise_iff_getElem]
  intro i j hi hj hij
  have z := key j i hij hj
  rw [rdE_get, rdE_get, List.getD_eq_getElem?_getD, List.getD_eq_getElem?_getD, List.getElem?_eq_getElem hi, List.getElem?_eq_getElem hj] at z
  exact z
theorem ecost_of_mem : ∀ {t : List S76} {e : S76}, t.Pairwise EAhead → e ∈ t → ecost t e.f0 e.f1 = e.f2 := by
  intro t
  induction t with
  | nil => intro e _ h; cases h
  | cons a t ih =>
    intro e hp he
    have hp' := List.pairwise_cons.1 hp
    simp only [ecost]
    rcases List.mem_cons.1 he with h | h
    · subst h; rw [if_pos rfl, if_pos rfl]
    · have x := hp'.1 e h
      have y := ih hp'.2 h
      unfold EAhead at x
      by_cases c1 : a.f0 = e.f0
      · rw [if_pos c1, if_neg (by omega)]; exact y
      · rw [if_neg c1]; exact y
/-- The next nodes, out of the edges. -/
def hopE (n : Int) (t : List S76) (x y : Int) (e : S76) : Bool := decide (e.f0 = x ∧ e.f2 + D n t e.f1 y = D n t x y)
def hopsL (n : Int) (t : List S76) (x y : Int) : List Int := (t.filter (hopE n t x y)).map fun e => e.f1
/-- The next nodes, out of the nodes. -/
def hopN (n : Int) (t : List S76) (x y z : Int) : Bool := decide (z ≠ x ∧ gcost n t x z < 1000000 ∧ gcost n t x z + D n t z y = D n t x y)
def hopsR (n : Int) (t : List S76) (x y : Int) : List Int := ((List.range' 0 n.toNat).map fun (i : Nat) => (i : Int)).filter (hopN n t x y)
theorem hops_eq {n : Int} {t : List S76} (g : Gok n t) {x y : Int} (hx : Node n x) : hopsL n t x y = hopsR n t x y := by
  refine asc_eq ?_ ?_ (fun z => ?_)
  · unfold hopsL
    rw [List.pairwise_map]
    refine (g.asc.filter _).imp_of_mem ?_
    intro a b ha hb hab
    have ha2 := (List.mem_filter.1 ha).2
    have hb2 := (List.mem_filter.1 hb).2
    unfold hopE at ha2 hb2
    rw [decide_eq_true_eq] at ha2 hb2
    unfold EAhead at hab
    omega
  · unfold hopsR
    refine List.Pairwise.filter _ ?_
    rw [List.pairwise_map]
    refine (List.pairwise_lt_range' (s := 0) (n := n.toNat)).imp ?_
    intro a b hab
    omega
  · unfold hopsL hopsR
    simp only [List.mem_map, List.mem_filter, List.mem_range'_1, hopE, hopN, decide_eq_true_eq]
    constructor
    · rintro ⟨e, ⟨hm, h1, h2⟩, rfl⟩
      obtain ⟨a1, a2, a3, a4, a5⟩ := g.mem hm
      have hc : gcost n t x e.f1 = e.f2 := by
        unfold gcost
        rw [if_pos ⟨hx, a2⟩, if_neg (by omega), ← h1]
        exact ecost_of_mem g.asc hm
      unfold Node at a2
      refine ⟨⟨e.f1.toNat, by omega, by omega⟩, by omega, by omega, ?_⟩
      rw [hc]; exact h2
    · rintro ⟨⟨i, hi, rfl⟩, h1, h2, h3⟩
      have hn : Node n (i : Int) := ⟨by omega, by omega⟩
      unfold gcost at h2 h3
      rw [if_pos ⟨hx, hn⟩, if_neg (by omega)] at h2 h3
      obtain ⟨e, m, e1, e2, e3⟩ := ecost_mem (t := t) (x := x) (y := (i : Int)) (by omega)
      refine ⟨e, ⟨m, e1, ?_⟩, e2⟩
      rw [e2, ← e3]; exact h3
theorem impl_hops {n : Int} {t : List S76} (g : Gok n t) {x y : Int} (hx : Node n x) (hy : Node n y) : ∀ (d k i : Nat) (acc : List Int), i + d = t.length → d < k → acc.length ≤ i →
    impl_Graph_hopsTo.l0 k x y (allD n t) acc t t.length i = some (acc ++ ((t.drop i).filter (hopE n t x y)).map fun e => e.f1) := by
  have hn := g.1
  have hl : t.length ≤ 60 := g.2.1
  have la := allD_len hn t
  have lx := (dist_ok g x).1
  intro d
  induction d with
  | zero =>
    intro k i acc hi hk ha
    obtain ⟨k, rfl⟩ : ∃ m, k = m + 1 := ⟨k - 1, by omega⟩
    obtain rfl : i = t.length := by omega
    simp only [impl_Graph_hopsTo.l0]
    rw [if_neg (by omega), List.drop_length]
    simp
  | succ d ih =>
    intro k i acc hi hk ha
    obtain ⟨k, rfl⟩ : ∃ m, k = m + 1 := ⟨k - 1, by omega⟩
    have e1 : (i : Int) + 1 = ((i + 1 : Nat) : Int) := by omega
    have hil : i < t.length := by omega
    have hmem : rd_T76 t i ∈ t := by
      rw [rdE_get, List.getD_eq_getElem?_getD, List.getElem?_eq_getElem hil]; exact List.getElem_mem hil
    obtain ⟨a1, a2, a3, a4, a5⟩ := g.mem hmem
    have d2 := D_lim g (rd_T76 t i).f1 hy
    have lz := (dist_ok g (rd_T76 t i).f1).1
    have c := hy
    have b := hx
    have a2' := a2
    unfold Node at c b a2'
    have next : ∀ acc' : List Int, acc'.length ≤ i + 1 → impl_Graph_hopsTo.l0 k x y (allD n t) acc' t t.length ((i + 1 : Nat) : Int) = _ := fun acc' h => ih k (i + 1) acc' (by omega) (by omega) h
    simp only [impl_Graph_hopsTo.l0]
    rw [drop_getD t z76 hil, ← rdE_get, List.filter_cons, if_pos (by omega), if_pos (by omega), if_pos (by omega), wr1 (by omega)]
    by_cases h1 : (rd_T76 t i).f0 = x
    · rw [if_pos h1, if_pos a2'.1, if_pos (by omega), allD_rd t a2, allD_rd t hx, if_pos c.1, if_pos (by omega), if_pos b.1, if_pos (by omega), if_pos (by omega)]
      unfold D at d2
      rw [w64 (n := (rd_T76 t i).f2 + rd (dist n t (rd_T76 t i).f1) y) (by omega) (by omega)]
      by_cases h3 : (rd_T76 t i).f2 + D n t (rd_T76 t i).f1 y = D n t x y
      · have h3' : (rd_T76 t i).f2 + rd (dist n t (rd_T76 t i).f1) y = rd (dist n t x) y := h3
        have hf : hopE n t x y (rd_T76 t i) = true := by unfold hopE; simp [h1, h3]
        rw [if_pos h3', if_pos (by omega), hf, next _ (by simp; omega)]
        simp
      · have h3' : ¬ (rd_T76 t i).f2 + rd (dist n t (rd_T76 t i).f1) y = rd (dist n t x) y := h3
        have hf : hopE n t x y (rd_T76 t i) = false := by unfold hopE; simp [h3]
        rw [if_neg h3', hf, next acc (by omega)]
        rfl
    · have hf : hopE n t x y (rd_T76 t i) = false := by unfold hopE; simp [h1]
      rw [if_neg h1, hf, next acc (by omega)]
      rfl
theorem impl_HopsG {n : Int} {t : List S76} (g : Gok n t) {x y : Int} (hx : Node n x) (hy : Node n y) {k : Nat} (hk : t.length * 12 + 90 < k) :
    impl_Graph_hopsTo.f k n t x y (allD n t) = some (if x = y ∨ D n t x y = 1000000 then [] else hopsR n t x y) := by
  obtain ⟨k, rfl⟩ : ∃ m, k = m + 1 := ⟨k - 1, by omega⟩
  have hn := g.1
  have la := allD_len hn t
  have lx := (dist_ok g x).1
  have a := hx; have b := hy
  unfold Node at a b
  unfold impl_Graph_hopsTo.f
  simp only [Option.bind_some, impl_Graph_hopsTo.j0]
  by_cases c : x = y
  · rw [if_pos c, if_pos trivial, if_pos (.inl c)]
  · rw [if_neg c, if_pos a.1, if_pos (by omega), allD_rd t hx, if_pos b.1, if_pos (by omega)]
    by_cases c2 : D n t x y = 1000000
    · have e : (rd (dist n t x) y == 1000000) = true := by rw [beq_iff_eq]; exact c2
      rw [e, if_pos rfl, if_pos (.inr c2)]
    · have e : (rd (dist n t x) y == 1000000) = false := by rw [beq_eq_false_iff_ne]; exact c2
      have z := impl_hops g hx hy t.length k 0 [] (by omega) (by omega) (by simp)
      have z' : impl_Graph_hopsTo.l0 k x y (allD n t) [] t t.length 0 = some (hopsL n t x y) := z
      rw [e, if_neg (by decide), z', if_neg (by omega), hops_eq g hx]
/-- A sum over a list. -/
def sm {α : Type} (f : α → Int) : List α → Int
  | [] => 0
  | a :: l => f a + sm f l
theorem sm_fold {α : Type} (f : α → Int) : ∀ (l : List α) (a0 : Int), l.foldl (fun a z => a + f z) a0 = a0 + sm f l
  | [], a0 => by simp [sm]
  | a :: l, a0 => by simp only [List.foldl_cons, sm]; rw [sm_fold f l, Int.add_assoc]
theorem sm_congr {α : Type} {f h : α → Int} : ∀ (l : List α), (∀ a ∈ l, f a = h a) → sm f l = sm h l
  | [], _ => rfl
  | a :: l, e => by
    simp only [sm]
    rw [e a List.mem_cons_self, sm_congr l (fun b hb => e b (List.mem_cons_of_mem _ hb))]
theorem sm_append {α : Type} (f : α → Int) : ∀ (l m : List α), sm f (l ++ m) = sm f l + sm f m
  | [], m => by simp [sm]
  | a :: l, m => by simp only [List.cons_append, sm]; rw [sm_append f l m, Int.add_assoc]
theorem sm_le {α : Type} {f : α → Int} {c : Int} : ∀ (l : List α), (∀ a ∈ l, f a ≤ c) → sm f l ≤ c * l.length
  | [], _ => by simp [sm]
  | a :: l, e => by
    simp only [sm, List.length_cons]
    have h1 := e a List.mem_cons_self
    have h2 := sm_le l (fun b hb => e b (List.mem_cons_of_mem _ hb))
    have h3 : c * ((l.length + 1 : Nat) : Int) = c * (l.length : Int) + c := by
      rw [Int.natCast_add, Int.mul_add]; simp
    rw [h3]
    omega
theorem sm_nonneg {α : Type} {f : α → Int} : ∀ (l : List α), (∀ a ∈ l, 0 ≤ f a) → 0 ≤ sm f l
  | [], _ => Int.le_refl _
  | a :: l, e => by
    simp only [sm]
    have h1 := e a List.mem_cons_self
    have h2 := sm_nonneg l (fun b hb => e b (List.mem_cons_of_mem _ hb))
    omega
theorem sm_pos {α : Type} {f : α → Int} : ∀ (l : List α), (∀ a ∈ l, 0 ≤ f a) → (∃ a ∈ l, 0 < f a) → 0 < sm f l
  | [], _, h => by obtain ⟨a, ha, _⟩ := h; cases ha
  | a :: l, e, h => by
    simp only [sm]
    have h1 := e a List.mem_cons_self
    have hl : ∀ b ∈ l, 0 ≤ f b := fun b hb => e b (List.mem_cons_of_mem _ hb)
    have h2 := sm_nonneg l hl
    obtain ⟨b, hb, hp⟩ := h
    rcases List.mem_cons.1 hb with rfl | hb
    · omega
    · have := sm_pos l hl ⟨b, hb, hp⟩
      omega
theorem mem_hops {n : Int} {t : List S76} {x y z : Int} : z ∈ hopsL n t x y ↔ ∃ e ∈ t, e.f0 = x ∧ e.f1 = z ∧ e.f2 + D n t z y = D n t x y := by
  unfold hopsL hopE
  simp only [List.mem_map, List.mem_filter, decide_eq_true_eq]
  constructor
  · rintro ⟨e, ⟨h1, h2, h3⟩, rfl⟩
    exact ⟨e, h1, h2, rfl, h3⟩
  · rintro ⟨e, h1, h2, rfl, h3⟩
    exact ⟨e, ⟨h1, h2, h3⟩, rfl⟩
theorem hop_lt {n : Int} {t : List S76} (g : Gok n t) {x y z : Int} (h : z ∈ hopsL n t x y) : Node n z ∧ D n t z y < D n t x y ∧ z ≠ x := by
  obtain ⟨e, h1, h2, h3, h4⟩ := mem_hops.1 h
  obtain ⟨a1, a2, a3, a4, a5⟩ := g.mem h1
  rw [h3] at a2
  exact ⟨a2, by omega, by omega⟩
/-- From a node that is not the target, and from which it can be reached, there is a hop. -/
theorem hop_ex {n : Int} {t : List S76} (g : Gok n t) {x y : Int} (hx : Node n x) (hy : Node n y) (hxy : x ≠ y) (h : D n t x y < 1000000) : ∃ z, z ∈ hopsL n t x y := by
  have first : ∀ {v c : Int}, Walk t x v c → v = x ∧ c = 0 ∨ ∃ e ∈ t, e.f0 = x ∧ ∃ d, Walk t e.f1 v d ∧ c = e.f2 + d := by
    intro v c w
    induction w with
    | nil => exact .inl ⟨rfl, rfl⟩
    | snoc e w he h0 ih =>
      rcases ih with ⟨rfl, rfl⟩ | ⟨e', he', h1, d, w', rfl⟩
      · exact .inr ⟨e, he, h0, 0, .nil, by omega⟩
      · exact .inr ⟨e', he', h1, d + e.f2, .snoc e w' he h0, by omega⟩
  rcases first (D_walk g hx hy h) with ⟨h1, _⟩ | ⟨e, he, h1, d, w, hd⟩
  · exact absurd h1.symm hxy
  · obtain ⟨a1, a2, a3, a4, a5⟩ := g.mem he
    have b1 := walk_D g a2 w
    have dl : D n t e.f1 y < 1000000 := by omega
    have b2 := walk_D g hx ((h1 ▸ Walk.edge he).trans (D_walk g a2 hy dl))
    exact ⟨e.f1, mem_hops.2 ⟨e, he, h1, rfl, by omega⟩⟩
/-- How many shortest ways there are, and the least number of nodes of one; m bounds the depth. -/
def waysF (n : Int) (t : List S76) (y : Int) : Nat → Int → Int
  | 0, _ => 0
  | m + 1, x => if x = y then 1 else sm (waysF n t y m) (hopsL n t x y)
def minz (s v : Int) : Int := if s = 0 then v else if v < s then v else s
def stepsF (n : Int) (t : List S76) (y : Int) : Nat → Int → Int
  | 0, _ => 0
  | m + 1, x => if x = y then 1 else (hopsL n t x y).foldl (fun s z => minz s (stepsF n t y m z + 1)) 0
theorem fold_congr' {α β : Type} {f h : β → α → β} : ∀ (l : List α) (b : β), (∀ a ∈ l, ∀ b, f b a = h b a) → l.foldl f b = l.foldl h b
  | [], _, _ => rfl
  | a :: l, b, e => by
    simp only [List.foldl_cons]
    rw [e a List.mem_cons_self, fold_congr' l _ (fun c hc => e c (List.mem_cons_of_mem _ hc))]
theorem waysF_stable {n : Int} {t : List S76} (g : Gok n t) {y : Int} (hy : Node n y) : ∀ (m m' : Nat) (x : Int), Node n x → (D n t x y).toNat < m → (D n t x y).toNat < m' → waysF n t y m x = waysF n t y m' x ∧ stepsF n t y m x = stepsF n t y m' x := by
  intro m
  induction m with
  | zero => intro m' x _ h _; omega
  | succ m ih =>
    intro m' x hx h h'
    obtain ⟨m', rfl⟩ : ∃ q, m' = q + 1 := ⟨m' - 1, by omega⟩
    have key : ∀ z ∈ hopsL n t x y, waysF n t y m z = waysF n t y m' z ∧ stepsF n t y m z = stepsF n t y m' z := fun z hz => by
      obtain ⟨a, b, _⟩ := hop_lt g hz
      have c := D_lim g z hy
      exact ih m' z a (by omega) (by omega)
    simp only [waysF, stepsF]
    by_cases c : x = y
    · rw [if_pos c, if_pos c, if_pos c, if_pos c]
      exact ⟨rfl, rfl⟩
    · rw [if_neg c, if_neg c, if_neg c, if_neg c]
      exact ⟨sm_congr _ (fun z hz => (key z hz).1), fold_congr' _ _ (fun z hz s => by rw [(key z hz).2])⟩
def ways (n : Int) (t : List S76) (y x : Int) : Int := waysF n t y ((D n t x y).toNat + 1) x
def steps (n : Int) (t : List S76) (y x : Int) : Int := stepsF n t y ((D n t x y).toNat + 1) x
theorem ways_at (n : Int) (t : List S76) (y : Int) : ways n t y y = 1 ∧ steps n t y y = 1 := by
  unfold ways steps
  simp [waysF, stepsF]
theorem ways_eq {n : Int} {t : List S76} (g : Gok n t) {x y : Int} (hy : Node n y) (hxy : x ≠ y) : ways n t y x = sm (ways n t y) (hopsL n t x y) ∧ steps n t y x = (hopsL n t x y).foldl (fun s z => minz s (steps n t y z + 1)) 0 := by
  have key : ∀ z ∈ hopsL n t x y, waysF n t y (D n t x y).toNat z = ways n t y z ∧ stepsF n t y (D n t x y).toNat z = steps n t y z := fun z hz => by
    obtain ⟨a, b, _⟩ := hop_lt g hz
    have c := D_lim g z hy
    exact waysF_stable g hy _ _ z a (by omega) (by omega)
  constructor
  · show waysF n t y ((D n t x y).toNat + 1) x = _
    simp only [waysF]
    rw [if_neg hxy]
    exact sm_congr _ (fun z hz => (key z hz).1)
  · show stepsF n t y ((D n t x y).toNat + 1) x = _
    simp only [stepsF]
    rw [if_neg hxy]
    exact fold_congr' _ _ (fun z hz s => by rw [(key z hz).2])
theorem wr1' {n : Int} (h : n < 100 ∧ 0 ≤ n) : wrap64 (n + 1) = n + 1 := w64 (by omega) (by omega)
/-- Behind the nodes below i: what the node a has gathered. -/
theorem gather {n : Int} {t : List S76} (g : Gok n t) {y a : Int} (hy : Node n y) (ha : Node n a) (hfar : D n t a y < 1000000) {Bk S W : List Int} {Dn : List Bool} (r : Int)
    (hB : ((Bk.length : Int) = n) ∧ ∀ v, Node n v → rd Bk v = D n t v y) (lS : (S.length : Int) = n) (lW : (W.length : Int) = n) (C : Int) (hC : C ≤ 100000000000000000)
    (bW : ∀ v, Node n v → 0 ≤ rd W v ∧ rd W v ≤ C) (bS : ∀ v, Node n v → 0 ≤ rd S v ∧ rd S v ≤ 50) (W0 : rd W a = 0) :
    ∀ (d k i : Nat) (l : List Int), (i : Int) + d = n → 2 * d + (t.length + 3) < k → l = ((List.range' 0 i).map fun (i : Nat) => (i : Int)).filter (hopN n t a y) →
    ∃ k', k ≤ k' + 2 * d + 1 ∧ spec_l03Steps.l3 k y Bk (S.set a.toNat (l.foldl (fun s z => minz s (rd S z + 1)) (rd S a))) (W.set a.toNat (sm (rd W) l)) Dn r a i n t =
      spec_l03Steps.l1 k' y Bk (S.set a.toNat ((hopsR n t a y).foldl (fun s z => minz s (rd S z + 1)) (rd S a))) (W.set a.toNat (sm (rd W) (hopsR n t a y))) Dn (wrap64 (r + 1)) n t := by
  have hn := g.1
  have hl : t.length ≤ 60 := g.2.1
  have ha2 := ha
  unfold Node at ha2
  intro d
  induction d with
  | zero =>
    intro k i l hi hk hl0
    obtain ⟨k, rfl⟩ : ∃ m, k = m + 1 := ⟨k - 1, by omega⟩
    have e : n.toNat = i := by omega
    refine ⟨k, by omega, ?_⟩
    simp only [spec_l03Steps.l3]
    rw [if_neg (by omega), hl0]
    unfold hopsR
    rw [e]
  | succ d ih =>
    intro k i l hi hk hl0
    obtain ⟨k, rfl⟩ : ∃ m, k = m + 1 + 1 := ⟨k - 2, by omega⟩
    have hi' : Node n (i : Int) := ⟨by omega, by omega⟩
    have e1 : (i : Int) + 1 = ((i + 1 : Nat) : Int) := by omega
    have hr : ((List.range' 0 (i + 1)).map fun (i : Nat) => (i : Int)) = ((List.range' 0 i).map fun (i : Nat) => (i : Int)) ++ [(i : Int)] := by
      rw [List.range'_1_concat, List.map_append]
      simp
    have skip : hopN n t a y (i : Int) = false → ∃ k', k + 1 + 1 ≤ k' + 2 * (d + 1) + 1 ∧ spec_l03Steps.l3 k y Bk (S.set a.toNat (l.foldl (fun s z => minz s (rd S z + 1)) (rd S a))) (W.set a.toNat (sm (rd W) l)) Dn r a ((i + 1 : Nat) : Int) n t = spec_l03Steps.l1 k' y Bk (S.set a.toNat ((hopsR n t a y).foldl (fun s z => minz s (rd S z + 1)) (rd S a))) (W.set a.toNat (sm (rd W) (hopsR n t a y))) Dn (wrap64 (r + 1)) n t := fun hf => by
      obtain ⟨k', h1, h2⟩ := ih k (i + 1) l (by omega) (by omega) (by rw [hr, List.filter_append, ← hl0]; simp [hf])
      exact ⟨k', by omega, h2⟩
    have lhop : ∀ z ∈ l, Node n z ∧ z ≠ a := fun z hz => by
      rw [hl0] at hz
      simp only [List.mem_filter, List.mem_map, List.mem_range'_1, hopN, decide_eq_true_eq] at hz
      obtain ⟨⟨q, hq, rfl⟩, h2, _⟩ := hz
      exact ⟨⟨by omega, by omega⟩, h2⟩
    have llen : l.length ≤ i := by
      rw [hl0]
      refine Nat.le_trans (List.length_filter_le _ _) ?_
      rw [List.length_map, List.length_range']
      exact Nat.le_refl _
    simp only [spec_l03Steps.l3]
    rw [if_pos (by omega), spec_Cost hn (by omega) a i (by omega)]
    simp only [Option.bind_some]
    by_cases h1 : (i : Int) = a
    · have hf : hopN n t a y (i : Int) = false := by unfold hopN; simp [h1]
      rw [if_pos h1]
      simp only [spec_l03Steps.j4]
      rw [if_pos trivial, wr1' (by omega), e1]
      exact skip hf
    · rw [if_neg h1]
      by_cases h2 : gcost n t a (i : Int) = 1000000
      · have hf : hopN n t a y (i : Int) = false := by unfold hopN; simp [h2]
        rw [if_pos h2]
        simp only [spec_l03Steps.j4]
        rw [if_pos trivial, wr1' (by omega), e1]
        exact skip hf
      · have gl := gcost_lim g a (i : Int)
        have dl := D_lim g (i : Int) hy
        have da := D_lim g a hy
        rw [if_neg h2, if_pos (by omega), if_pos (by have := hB.1; omega), hB.2 _ hi']
        by_cases h3 : D n t i y = 1000000
        · have hf : hopN n t a y (i : Int) = false := by
            unfold hopN
            rw [decide_eq_false]
            omega
          rw [if_pos h3]
          simp only [spec_l03Steps.j4]
          rw [if_pos trivial, wr1' (by omega), e1]
          exact skip hf
        · rw [if_neg h3, if_pos ha2.1, if_pos (by have := hB.1; omega), hB.2 _ ha, w64 (by omega) (by omega)]
          simp only [spec_l03Steps.j4]
          by_cases h4 : gcost n t a (i : Int) + D n t i y = D n t a y
          · have hf : hopN n t a y (i : Int) = true := by
              unfold hopN
              rw [decide_eq_true_eq]
              omega
            have hsm : 0 ≤ sm (rd W) l ∧ sm (rd W) l ≤ C * l.length := ⟨sm_nonneg l (fun z hz => (bW z (lhop z hz).1).1), sm_le l (fun z hz => (bW z (lhop z hz).1).2)⟩
            have hc2 : C * (l.length : Int) ≤ 1000000000000000000 := by
              have hc0 : 0 ≤ C := Int.le_trans (bW a ha).1 (bW a ha).2
              have := Int.mul_le_mul hC (show (l.length : Int) ≤ 10 by omega) (by omega) (by omega)
              omega
            have bi := bW i hi'
            have si := bS i hi'
            obtain ⟨k', q1, q2⟩ := ih k (i + 1) (l ++ [(i : Int)]) (by omega) (by omega) (by rw [hr, List.filter_append, ← hl0]; simp [hf])
            refine ⟨k', by omega, ?_⟩
            rw [← q2, sm_append, List.foldl_append]
            simp only [List.foldl_cons, List.foldl_nil, sm, Int.add_zero]
            obtain ⟨s0, hs0⟩ : ∃ s0, s0 = l.foldl (fun s z => minz s (rd S z + 1)) (rd S a) := ⟨_, rfl⟩
            obtain ⟨w0, hw0⟩ : ∃ w0, w0 = sm (rd W) l := ⟨_, rfl⟩
            rw [← hs0, ← hw0]
            rw [← hw0] at hsm
            have rSa : rd (S.set a.toNat s0) a = s0 := by rw [rdn_set _ ha2.1 (by omega) ha2.1, if_pos rfl]
            have rSi : rd (S.set a.toNat s0) (i : Int) = rd S i := by rw [rdn_set _ ha2.1 (by omega) (by omega), if_neg (by omega)]
            have rWa : rd (W.set a.toNat w0) a = w0 := by rw [rdn_set _ ha2.1 (by omega) ha2.1, if_pos rfl]
            have rWi : rd (W.set a.toNat w0) (i : Int) = rd W i := by rw [rdn_set _ ha2.1 (by omega) (by omega), if_neg (by omega)]
            rw [if_neg (by simp [h4]), if_pos ha2.1, List.length_set, if_pos (by omega), if_pos (by omega), if_pos (by omega)]
            simp only [Option.bind_some]
            rw [List.length_set, if_pos (by omega), rSa, rSi, rWa, rWi, List.set_set, w64 (n := rd S (i : Int) + 1) (by omega) (by omega), w64 (n := w0 + rd W (i : Int)) (by omega) (by omega), wr1' (n := (i : Int)) (by omega), e1]
            by_cases c : s0 = 0
            · have e : minz s0 (rd S (i : Int) + 1) = rd S (i : Int) + 1 := by unfold minz; rw [if_pos c]
              rw [if_pos c, if_pos (by omega), List.set_set, e]
            · rw [if_neg c, if_pos (by omega)]
              by_cases c2 : rd S (i : Int) + 1 < s0
              · have e : minz s0 (rd S (i : Int) + 1) = rd S (i : Int) + 1 := by unfold minz; rw [if_neg c, if_pos c2]
                rw [if_pos c2, List.set_set, e]
              · have e : minz s0 (rd S (i : Int) + 1) = s0 := by unfold minz; rw [if_neg c, if_neg c2]
                rw [if_neg c2, List.set_set, e]
          · have hf : hopN n t a y (i : Int) = false := by unfold hopN; simp [h4]
            rw [if_pos (by simp [h4]), wr1' (by omega), e1]
            exact skip hf
/-- Not done yet, and the target can be reached. -/
def Cd (n : Int) (t : List S76) (y : Int) (Dn : List Bool) (u : Int) : Prop := rdOf false Dn u = false ∧ D n t u y < 1000000
def Pk (n : Int) (t : List S76) (y : Int) (Dn : List Bool) (i : Nat) (p : Int) : Prop :=
  (p = -1 ∧ ∀ u, Node n u → u < i → ¬ Cd n t y Dn u) ∨ (Node n p ∧ Cd n t y Dn p ∧ ∀ u, Node n u → u < i → Cd n t y Dn u → D n t p y ≤ D n t u y)
theorem pick {n : Int} {t : List S76} (hn : 1 ≤ n ∧ n ≤ 10) {y : Int} {Bk S W : List Int} {Dn : List Bool} (r : Int)
    (hB : ((Bk.length : Int) = n) ∧ ∀ v, Node n v → rd Bk v = D n t v y) (lD : (Dn.length : Int) = n) : ∀ (d k i : Nat) (p : Int), (i : Int) + d = n → Pk n t y Dn i p →
    ∃ q, Pk n t y Dn n.toNat q ∧ spec_l03Steps.l2 (k + d) y Bk S W Dn r p i n t = spec_l03Steps.l2 k y Bk S W Dn r q n n t := by
  intro d
  induction d with
  | zero =>
    intro k i p hi hp
    have e : n.toNat = i := by omega
    have e2 : n = (i : Int) := by omega
    refine ⟨p, by rw [e]; exact hp, ?_⟩
    rw [Nat.add_zero, ← e2]
  | succ d ih =>
    intro k i p hi hp
    have e1 : (i : Int) + 1 = ((i + 1 : Nat) : Int) := by omega
    have hi' : Node n (i : Int) := ⟨by omega, by omega⟩
    have lB := hB.1
    have split : ∀ u : Int, Node n u → u < ((i + 1 : Nat) : Int) → u < i ∨ u = i := fun u _ hu => by omega
    show ∃ q, _ ∧ spec_l03Steps.l2 ((k + d) + 1) y Bk S W Dn r p i n t = _
    simp only [spec_l03Steps.l2]
    rw [if_pos (by omega), if_pos (by omega), if_pos (by omega), wr1' (by omega), e1, hB.2 _ hi']
    by_cases h1 : rdOf false Dn (i : Int) = true
    · rw [if_pos h1]
      refine ih k (i + 1) p (by omega) ?_
      have no : ¬ Cd n t y Dn i := fun h => by have := h.1; rw [h1] at this; cases this
      rcases hp with ⟨a, b⟩ | ⟨a, b, c⟩
      · refine .inl ⟨a, fun u hu hl => ?_⟩
        rcases split u hu hl with h | h
        · exact b u hu h
        · rw [h]; exact no
      · refine .inr ⟨a, b, fun u hu hl hc => ?_⟩
        rcases split u hu hl with h | h
        · exact c u hu h hc
        · rw [h] at hc; exact absurd hc no
    · have h1' : rdOf false Dn (i : Int) = false := by simpa using h1
      rw [if_neg h1, if_pos (by omega)]
      by_cases h2 : D n t i y < 1000000
      · rw [if_pos h2]
        have yes : Cd n t y Dn i := ⟨h1', h2⟩
        rcases hp with ⟨a, b⟩ | ⟨a, b, c⟩
        · rw [if_pos (by omega)]
          refine ih k (i + 1) i (by omega) (.inr ⟨hi', yes, fun u hu hl hc => ?_⟩)
          rcases split u hu hl with h | h
          · exact absurd hc (b u hu h)
          · rw [h]; exact Int.le_refl _
        · have a2 := a
          unfold Node at a2
          rw [if_neg (by omega), if_pos a2.1, if_pos (by omega), hB.2 _ a]
          by_cases h3 : D n t i y < D n t p y
          · rw [if_pos h3]
            refine ih k (i + 1) i (by omega) (.inr ⟨hi', yes, fun u hu hl hc => ?_⟩)
            rcases split u hu hl with h | h
            · have := c u hu h hc; omega
            · rw [h]; exact Int.le_refl _
          · rw [if_neg h3]
            refine ih k (i + 1) p (by omega) (.inr ⟨a, b, fun u hu hl hc => ?_⟩)
            rcases split u hu hl with h | h
            · exact c u hu h hc
            · rw [h]; omega
      · rw [if_neg h2]
        have no : ¬ Cd n t y Dn i := fun h => h2 h.2
        refine ih k (i + 1) p (by omega) ?_
        rcases hp with ⟨a, b⟩ | ⟨a, b, c⟩
        · refine .inl ⟨a, fun u hu hl => ?_⟩
          rcases split u hu hl with h | h
          · exact b u hu h
          · rw [h]; exact no
        · refine .inr ⟨a, b, fun u hu hl hc => ?_⟩
          rcases split u hu hl with h | h
          · exact c u hu h hc
          · rw [h] at hc; exact absurd hc no
theorem rdb_set {o : List Bool} {i j : Int} (v : Bool) (h0 : 0 ≤ i) (h1 : i < o.length) (hj : 0 ≤ j) : rdOf false (o.set i.toNat v) j = if i = j then v else rdOf false o j := by
  unfold rdOf
  rw [List.getD_eq_getElem?_getD, List.getD_eq_getElem?_getD, List.getElem?_set]
  by_cases c : i = j
  · subst c
    rw [if_pos rfl, if_pos (by omega), if_pos rfl]
    rfl
  · rw [if_neg (by omega), if_neg c]
theorem minz_lim {M : Int} {f : Int → Int} : ∀ (l : List Int) (s : Int), 0 ≤ s → s ≤ M → (∀ z ∈ l, 0 ≤ f z ∧ f z ≤ M) → 0 ≤ l.foldl (fun s z => minz s (f z)) s ∧ l.foldl (fun s z => minz s (f z)) s ≤ M
  | [], s, h0, h1, _ => ⟨h0, h1⟩
  | a :: l, s, h0, h1, h => by
    have ha := h a List.mem_cons_self
    simp only [List.foldl_cons]
    refine minz_lim l _ ?_ ?_ (fun b hb => h b (List.mem_cons_of_mem _ hb))
    · unfold minz; split
      · exact ha.1
      · split <;> omega
    · unfold minz; split
      · exact ha.2
      · split <;> omega
/-- How many nodes are not done. -/
def nd (n : Int) (Dn : List Bool) : Nat := ((List.range n.toNat).filter fun (u : Nat) => !rdOf false Dn (u : Int)).length
structure Stp (n : Int) (t : List S76) (y : Int) (r : Nat) (S W : List Int) (Dn : List Bool) : Prop where
  lS : (S.length : Int) = n
  lW : (W.length : Int) = n
  lD : (Dn.length : Int) = n
  done : ∀ v, Node n v → rdOf false Dn v = true → D n t v y < 1000000 ∧ rd S v = steps n t y v ∧ rd W v = ways n t y v ∧ ∀ u, Node n u → D n t u y < D n t v y → rdOf false Dn u = true
  left : ∀ v, Node n v → rdOf false Dn v = false → rd S v = 0 ∧ rd W v = 0
  bW : ∀ v, Node n v → 0 ≤ rd W v ∧ rd W v ≤ (10 : Int) ^ r
  bS : ∀ v, Node n v → 0 ≤ rd S v ∧ rd S v ≤ (r : Int)
  cnt : nd n Dn + r ≤ n.toNat
/-- What l03Steps comes to. -/
def Fin (n : Int) (t : List S76) (y : Int) (S W : List Int) : Prop := (S.length : Int) = n ∧ (W.length : Int) = n ∧ ∀ v, Node n v → (D n t v y < 1000000 → rd S v = steps n t y v ∧ rd W v = ways n t y v) ∧ (¬ D n t v y < 1000000 → rd S v = 0 ∧ rd W v = 0) ∧ 0 ≤ rd W v ∧ rd W v ≤ 10000000000 ∧ 0 ≤ rd S v ∧ rd S v ≤ 10
theorem pow10 {r : Nat} (h : r ≤ 10) : (10 : Int) ^ r ≤ 10000000000 := by
  have e : r = 0 ∨ r = 1 ∨ r = 2 ∨ r = 3 ∨ r = 4 ∨ r = 5 ∨ r = 6 ∨ r = 7 ∨ r = 8 ∨ r = 9 ∨ r = 10 := by omega
  rcases e with rfl | rfl | rfl | rfl | rfl | rfl | rfl | rfl | rfl | rfl | rfl <;> decide
theorem Stp.fin {n : Int} {t : List S76} {y : Int} {r : Nat} {S W : List Int} {Dn : List Bool} (h : Stp n t y r S W Dn) (hr : r ≤ 10) (ha : ∀ v, Node n v → ¬ Cd n t y Dn v) : Fin n t y S W := by
  refine ⟨h.lS, h.lW, fun v hv => ?_⟩
  have p := pow10 hr
  have b1 := h.bW v hv
  have b2 := h.bS v hv
  refine ⟨fun hd => ?_, fun hd => ?_, b1.1, by omega, b2.1, by omega⟩
  · by_cases c : rdOf false Dn v = true
    · have := h.done v hv c
      exact ⟨this.2.1, this.2.2.1⟩
    · exact absurd ⟨by simpa using c, hd⟩ (ha v hv)
  · by_cases c : rdOf false Dn v = true
    · exact absurd (h.done v hv c).1 hd
    · exact h.left v hv (by simpa using c)
theorem hopsR_len {n : Int} (hn : 1 ≤ n ∧ n ≤ 10) (t : List S76) (x y : Int) : (hopsR n t x y).length ≤ 10 := by
  unfold hopsR
  refine Nat.le_trans (List.length_filter_le _ _) ?_
  rw [List.length_map, List.length_range']
  omega
theorem Stp.next {n : Int} {t : List S76} (g : Gok n t) {y a : Int} (hy : Node n y) {r : Nat} {S W : List Int} {Dn : List Bool} (h : Stp n t y r S W Dn) (ha : Node n a) (hc : Cd n t y Dn a) (hm : ∀ u, Node n u → Cd n t y Dn u → D n t a y ≤ D n t u y) :
    Stp n t y (r + 1) (S.set a.toNat (if a = y then 1 else (hopsR n t a y).foldl (fun s z => minz s (rd S z + 1)) (rd S a))) (W.set a.toNat (if a = y then 1 else sm (rd W) (hopsR n t a y))) (Dn.set a.toNat true) := by
  have hn := g.1
  have ha2 := ha
  unfold Node at ha2
  have lS := h.lS
  have lW := h.lW
  have lD := h.lD
  have below : ∀ u, Node n u → D n t u y < D n t a y → rdOf false Dn u = true := fun u hu hl => by
    by_cases c : rdOf false Dn u = true
    · exact c
    · have := hm u hu ⟨by simpa using c, by have := hc.2; omega⟩
      omega
  have rS : ∀ v s, Node n v → rd (S.set a.toNat s) v = if a = v then s else rd S v := fun v s hv => by
    unfold Node at hv; exact rdn_set _ ha2.1 (by omega) hv.1
  have rW : ∀ v s, Node n v → rd (W.set a.toNat s) v = if a = v then s else rd W v := fun v s hv => by
    unfold Node at hv; exact rdn_set _ ha2.1 (by omega) hv.1
  have rD : ∀ v, Node n v → rdOf false (Dn.set a.toNat true) v = if a = v then true else rdOf false Dn v := fun v hv => by
    unfold Node at hv; exact rdb_set _ ha2.1 (by omega) hv.1
  have z0 := h.left a ha hc.1
  have hops : ∀ z ∈ hopsR n t a y, Node n z ∧ rd S z = steps n t y z ∧ rd W z = ways n t y z := fun z hz => by
    rw [← hops_eq g ha] at hz
    obtain ⟨p1, p2, _⟩ := hop_lt g hz
    have := h.done z p1 (below z p1 p2)
    exact ⟨p1, this.2.1, this.2.2.1⟩
  obtain ⟨s1, hs1⟩ : ∃ s1, s1 = (if a = y then 1 else (hopsR n t a y).foldl (fun s z => minz s (rd S z + 1)) (rd S a)) := ⟨_, rfl⟩
  obtain ⟨w1, hw1⟩ : ∃ w1, w1 = (if a = y then 1 else sm (rd W) (hopsR n t a y)) := ⟨_, rfl⟩
  have vs : s1 = steps n t y a ∧ w1 = ways n t y a := by
    rw [hs1, hw1]
    by_cases c : a = y
    · rw [if_pos c, if_pos c, c]
      exact ⟨(ways_at n t y).2.symm, (ways_at n t y).1.symm⟩
    · have := ways_eq g hy c
      rw [if_neg c, if_neg c, this.1, this.2, hops_eq g ha, z0.1]
      exact ⟨fold_congr' _ _ (fun z hz s => by rw [(hops z hz).2.1]), sm_congr _ (fun z hz => (hops z hz).2.2)⟩
  have bs : 0 ≤ s1 ∧ s1 ≤ (r : Int) + 1 := by
    rw [hs1]
    by_cases c : a = y
    · rw [if_pos c]; omega
    · rw [if_neg c, z0.1]
      refine minz_lim (f := fun z => rd S z + 1) _ 0 (Int.le_refl _) (by omega) (fun z hz => ?_)
      have := h.bS z (hops z hz).1
      omega
  have p10 : (10 : Int) ^ (r + 1) = (10 : Int) ^ r * 10 := Int.pow_succ ..
  have p0 : 0 ≤ (10 : Int) ^ r := Int.le_trans (h.bW a ha).1 (h.bW a ha).2
  have p1 : 1 ≤ (10 : Int) ^ r := by
    have : (0 : Int) < (10 : Int) ^ r := Int.pow_pos (by decide)
    omega
  have bw : 0 ≤ w1 ∧ w1 ≤ (10 : Int) ^ (r + 1) := by
    rw [hw1, p10]
    by_cases c : a = y
    · rw [if_pos c]; omega
    · rw [if_neg c]
      refine ⟨sm_nonneg _ (fun z hz => (h.bW z (hops z hz).1).1), Int.le_trans (sm_le _ (fun z hz => (h.bW z (hops z hz).1).2)) ?_⟩
      exact Int.mul_le_mul_of_nonneg_left (by have := hopsR_len hn t a y; omega) p0
  rw [← hs1, ← hw1]
  refine ⟨by rw [List.length_set]; exact lS, by rw [List.length_set]; exact lW, by rw [List.length_set]; exact lD, fun v hv hd => ?_, fun v hv hd => ?_, fun v hv => ?_, fun v hv => ?_, ?_⟩
  · rw [rS v _ hv, rW v _ hv]
    by_cases c : a = v
    · rw [if_pos c, if_pos c, ← c]
      refine ⟨hc.2, vs.1, vs.2, fun u hu hl => ?_⟩
      rw [rD u hu]
      split
      · rfl
      · exact below u hu hl
    · rw [rD v hv, if_neg c] at hd
      rw [if_neg c, if_neg c]
      obtain ⟨q1, q2, q3, q4⟩ := h.done v hv hd
      refine ⟨q1, q2, q3, fun u hu hl => ?_⟩
      rw [rD u hu]
      split
      · rfl
      · exact q4 u hu hl
  · rw [rD v hv] at hd
    by_cases c : a = v
    · rw [if_pos c] at hd; cases hd
    · rw [if_neg c] at hd
      rw [rS v _ hv, rW v _ hv, if_neg c, if_neg c]
      exact h.left v hv hd
  · rw [rW v _ hv]
    by_cases c : a = v
    · rw [if_pos c]; exact bw
    · rw [if_neg c, p10]
      have := h.bW v hv
      omega
  · rw [rS v _ hv]
    by_cases c : a = v
    · rw [if_pos c]; omega
    · rw [if_neg c]
      have := h.bS v hv
      omega
  · have hlt : nd n (Dn.set a.toNat true) < nd n Dn := by
      unfold nd
      refine filter_lt' _ _ _ (fun u hu q => ?_) ⟨a.toNat, List.mem_range.2 (by omega), ?_⟩
      · have hu2 := List.mem_range.1 hu
        rw [rD (u : Int) ⟨by omega, by omega⟩] at q
        by_cases c : a = (u : Int)
        · rw [if_pos c] at q; cases q
        · rw [if_neg c] at q; exact q
      · have e : ((a.toNat : Nat) : Int) = a := by omega
        rw [e, rD a ha, if_pos rfl, hc.1]
        exact ⟨rfl, by decide⟩
    have := h.cnt
    omega
theorem nd_zero {n : Int} {Dn : List Bool} (h : nd n Dn = 0) {v : Int} (hv : Node n v) : rdOf false Dn v = true := by
  unfold Node at hv
  unfold nd at h
  have h0 := List.eq_nil_of_length_eq_zero h
  by_cases c : rdOf false Dn v = true
  · exact c
  · have e : ((v.toNat : Nat) : Int) = v := by omega
    have : v.toNat ∈ (List.range n.toNat).filter fun (u : Nat) => !rdOf false Dn (u : Int) := by
      rw [List.mem_filter]
      refine ⟨List.mem_range.2 (by omega), ?_⟩
      rw [e]
      simpa using c
    rw [h0] at this
    cases this
theorem steps_rounds {n : Int} {t : List S76} (g : Gok n t) {y : Int} (hy : Node n y) {Bk : List Int} (hB : ((Bk.length : Int) = n) ∧ ∀ v, Node n v → rd Bk v = D n t v y) :
    ∀ (d k r : Nat) (S W : List Int) (Dn : List Bool), r + d = n.toNat → d * 40 + (t.length + 60) < k → Stp n t y r S W Dn →
      ∃ S' W', Fin n t y S' W' ∧ spec_l03Steps.l1 k y Bk S W Dn r n t = some (S', W') := by
  have hn := g.1
  have hl : t.length ≤ 60 := g.2.1
  intro d
  induction d with
  | zero =>
    intro k r S W Dn hr hk h
    obtain ⟨k, rfl⟩ : ∃ m, k = m + 1 := ⟨k - 1, by omega⟩
    refine ⟨S, W, h.fin (by omega) (fun v hv c => ?_), ?_⟩
    · have := nd_zero (n := n) (Dn := Dn) (by have := h.cnt; omega) hv
      have q := c.1
      rw [this] at q
      cases q
    · simp only [spec_l03Steps.l1]
      rw [if_neg (by omega)]
  | succ d ih =>
    intro k r S W Dn hr hk h
    obtain ⟨k, rfl⟩ : ∃ m, k = (m + 1 + n.toNat) + 1 := ⟨k - 2 - n.toNat, by omega⟩
    obtain ⟨q, q1, q2⟩ := pick (S := S) (W := W) hn (r : Int) hB h.lD n.toNat (k + 1) 0 (-1) (by omega) (.inl ⟨rfl, fun u hu hl => by unfold Node at hu; omega⟩)
    have q2' : spec_l03Steps.l2 (k + 1 + n.toNat) y Bk S W Dn r (-1) 0 n t = spec_l03Steps.l2 (k + 1) y Bk S W Dn r q n n t := q2
    have lB := hB.1
    have lD := h.lD
    have lS := h.lS
    have lW := h.lW
    simp only [spec_l03Steps.l1]
    rw [if_pos (by omega), q2']
    simp only [spec_l03Steps.l2]
    rw [if_neg (by omega)]
    rcases q1 with ⟨a, b⟩ | ⟨a, b, c⟩
    · rw [if_pos (by omega)]
      exact ⟨S, W, h.fin (by omega) (fun v hv => b v hv (by unfold Node at hv; omega)), rfl⟩
    · have a2 := a
      unfold Node at a2
      have hm : ∀ u, Node n u → Cd n t y Dn u → D n t q y ≤ D n t u y := fun u hu hc => c u hu (by unfold Node at hu; omega) hc
      have nx := h.next g hy a b hm
      have e1 : (r : Int) + 1 = ((r + 1 : Nat) : Int) := by omega
      rw [if_neg (by omega), if_pos a2.1, if_pos (by omega)]
      simp only [Option.bind_some]
      by_cases cy : q = y
      · rw [if_pos cy, if_pos (by omega), if_pos (by omega), wr1' (by omega), e1]
        rw [if_pos cy, if_pos cy] at nx
        exact ih k (r + 1) _ _ _ (by omega) (by omega) nx
      · rw [if_neg cy]
        rw [if_neg cy, if_neg cy] at nx
        have z0 := h.left q a b.1
        have p := pow10 (r := r) (by omega)
        obtain ⟨k', g1, g2⟩ := gather (S := S) (W := W) (Bk := Bk) (Dn := Dn.set q.toNat true) g hy a b.2 (r : Int) hB lS lW ((10 : Int) ^ r) (by omega) h.bW (fun v hv => by have := h.bS v hv; omega) z0.2 n.toNat k 0 [] (by omega) (by omega) (by simp)
        have hse : S.set q.toNat (rd S q) = S := by
          have := set_self (o := S) (i := q.toNat) (by omega)
          exact this
        have hwe : W.set q.toNat 0 = W := by
          have := set_self (o := W) (i := q.toNat) (by omega)
          have e : W.getD q.toNat 0 = 0 := z0.2
          rw [e] at this
          exact this
        have g2' : spec_l03Steps.l3 k y Bk S W (Dn.set q.toNat true) r q 0 n t = spec_l03Steps.l1 k' y Bk (S.set q.toNat ((hopsR n t q y).foldl (fun s z => minz s (rd S z + 1)) (rd S q))) (W.set q.toNat (sm (rd W) (hopsR n t q y))) (Dn.set q.toNat true) (wrap64 ((r : Int) + 1)) n t := by
          have := g2
          simp only [List.foldl_nil, sm, hse, hwe] at this
          exact this
        rw [g2', wr1' (by omega), e1]
        exact ih k' (r + 1) _ _ _ (by omega) (by omega) nx
theorem Stp.start {n : Int} (hn : 1 ≤ n ∧ n ≤ 10) (t : List S76) (y : Int) : Stp n t y 0 (List.replicate n.toNat 0) (List.replicate n.toNat 0) (List.replicate n.toNat false) := by
  have rb : ∀ v, Node n v → rdOf false (List.replicate n.toNat false) v = false := fun v hv => by
    unfold Node at hv
    unfold rdOf
    rw [List.getD_eq_getElem?_getD, List.getElem?_replicate, if_pos (by omega)]
    rfl
  have ri : ∀ v, Node n v → rd (List.replicate n.toNat 0) v = 0 := fun v hv => by
    unfold Node at hv
    exact rd_rep' hv.1 (by omega)
  refine ⟨by rw [List.length_replicate]; omega, by rw [List.length_replicate]; omega, by rw [List.length_replicate]; omega, fun v hv hd => ?_, fun v hv _ => ⟨ri v hv, ri v hv⟩, fun v hv => ?_, fun v hv => ?_, ?_⟩
  · rw [rb v hv] at hd; cases hd
  · rw [ri v hv]; exact ⟨Int.le_refl _, by decide⟩
  · rw [ri v hv]; exact ⟨Int.le_refl _, Int.le_refl _⟩
  · unfold nd
    have := List.length_filter_le (fun (u : Nat) => !rdOf false (List.replicate n.toNat false) (u : Int)) (List.range n.toNat)
    rw [List.length_range] at this
    omega
theorem spec_back {n : Int} {t : List S76} (g : Gok n t) {y : Int} (hy : Node n y) : ∀ (d k i : Nat), (i : Int) + d = n → d + (t.length * 12 + 62) < k →
    spec_l03Steps.l0 k y ((List.range i).map fun (j : Nat) => D n t j y) i n t = spec_l03Steps.l1 (k - d - 1) y ((List.range n.toNat).map fun (j : Nat) => D n t j y) (List.replicate n.toNat 0) (List.replicate n.toNat 0) (List.replicate n.toNat false) 0 n t := by
  have hn := g.1
  have hl : t.length ≤ 60 := g.2.1
  have hy2 := hy
  unfold Node at hy2
  intro d
  induction d with
  | zero =>
    intro k i hi hk
    obtain ⟨k, rfl⟩ : ∃ m, k = m + 1 := ⟨k - 1, by omega⟩
    have e : n.toNat = i := by omega
    simp only [spec_l03Steps.l0]
    rw [if_neg (by omega), if_pos (by omega), if_pos (by omega), if_pos (by omega), e]
    rfl
  | succ d ih =>
    intro k i hi hk
    obtain ⟨k, rfl⟩ : ∃ m, k = m + 1 := ⟨k - 1, by omega⟩
    have e1 : (i : Int) + 1 = ((i + 1 : Nat) : Int) := by omega
    have hi' : Node n (i : Int) := ⟨by omega, by omega⟩
    have dl := (dist_ok g (i : Int)).1
    simp only [spec_l03Steps.l0]
    rw [if_pos (by omega), spec_Dist' g hi' (by omega)]
    simp only [Option.bind_some]
    rw [if_pos hy2.1, if_pos (by omega), if_pos (by rw [List.length_map, List.length_range]; omega), wr1' (by omega), e1]
    have z := ih k (i + 1) (by omega) (by omega)
    have e2 : ((List.range (i + 1)).map fun (j : Nat) => D n t j y) = ((List.range i).map fun (j : Nat) => D n t j y) ++ [rd (dist n t i) y] := by
      rw [List.range_succ, List.map_append]
      rfl
    rw [← e2, z]
    congr 1
    omega
theorem back_rd {n : Int} (t : List S76) {y v : Int} (hv : Node n v) : rd ((List.range n.toNat).map fun (j : Nat) => D n t j y) v = D n t v y := by
  unfold Node at hv
  unfold rd
  rw [List.getD_eq_getElem?_getD, List.getElem?_map, List.getElem?_range (by omega)]
  simp only [Option.map_some, Option.getD_some]
  have e : ((v.toNat : Nat) : Int) = v := by omega
  rw [e]
theorem spec_Steps {n : Int} {t : List S76} (g : Gok n t) {y : Int} (hy : Node n y) {k : Nat} (hk : t.length * 12 + 700 < k) : ∃ S W, Fin n t y S W ∧ spec_l03Steps.f k n t y = some (S, W) := by
  have hn := g.1
  have hl : t.length ≤ 60 := g.2.1
  obtain ⟨S, W, h1, h2⟩ := steps_rounds g hy (Bk := (List.range n.toNat).map fun (j : Nat) => D n t j y) ⟨by rw [List.length_map, List.length_range]; omega, fun v hv => back_rd t hv⟩ n.toNat (k - n.toNat - 1) 0 _ _ _ (by omega) (by omega) (Stp.start hn t y)
  refine ⟨S, W, h1, ?_⟩
  have z := spec_back g hy n.toNat k 0 (by omega) (by omega)
  have z' : spec_l03Steps.l0 k y [] 0 n t = _ := z
  unfold spec_l03Steps.f
  rw [z']
  exact h2
theorem minz_min {f : Int → Int} : ∀ (l : List Int) (s : Int), (∀ z ∈ l, 1 ≤ f z) → 0 ≤ s → (s = 0 → ∃ z, z ∈ l) →
    (1 ≤ l.foldl (fun s z => minz s (f z)) s) ∧ (∀ z ∈ l, l.foldl (fun s z => minz s (f z)) s ≤ f z) ∧ (s ≠ 0 → l.foldl (fun s z => minz s (f z)) s ≤ s) ∧ ((∃ z ∈ l, l.foldl (fun s z => minz s (f z)) s = f z) ∨ (s ≠ 0 ∧ l.foldl (fun s z => minz s (f z)) s = s))
  | [], s, _, h0, hs => by
    have hne : s ≠ 0 := fun e => by obtain ⟨z, hz⟩ := hs e; cases hz
    have h1 : 1 ≤ s := by omega
    exact And.intro h1 (And.intro (fun z hz => absurd hz (by simp)) (And.intro (fun _ => Int.le_refl _) (Or.inr (And.intro hne rfl))))
  | a :: l, s, h, h0, _ => by
    have ha := h a List.mem_cons_self
    have hl : ∀ z ∈ l, 1 ≤ f z := fun b hb => h b (List.mem_cons_of_mem _ hb)
    have hm : minz s (f a) ≠ 0 ∧ 0 ≤ minz s (f a) ∧ minz s (f a) ≤ f a ∧ (s ≠ 0 → minz s (f a) ≤ s) ∧ (minz s (f a) = f a ∨ s ≠ 0 ∧ minz s (f a) = s) := by
      unfold minz
      by_cases c : s = 0
      · rw [if_pos c]; exact ⟨by omega, by omega, Int.le_refl _, fun e => absurd c e, .inl rfl⟩
      · rw [if_neg c]
        by_cases c2 : f a < s
        · rw [if_pos c2]; exact ⟨by omega, by omega, Int.le_refl _, fun _ => by omega, .inl rfl⟩
        · rw [if_neg c2]; exact ⟨c, h0, by omega, fun _ => Int.le_refl _, .inr ⟨c, rfl⟩⟩
    obtain ⟨m1, m2, m3, m4, m5⟩ := hm
    obtain ⟨q1, q2, q3, q4⟩ := minz_min l (minz s (f a)) hl m2 (fun e => absurd e m1)
    simp only [List.foldl_cons]
    refine ⟨q1, fun z hz => ?_, fun e => Int.le_trans (q3 m1) (m4 e), ?_⟩
    · rcases List.mem_cons.1 hz with rfl | hz
      · exact Int.le_trans (q3 m1) m3
      · exact q2 z hz
    · rcases q4 with ⟨z, hz, e⟩ | ⟨_, e⟩
      · exact .inl ⟨z, List.mem_cons_of_mem _ hz, e⟩
      · rcases m5 with m5 | ⟨m6, m5⟩
        · exact .inl ⟨a, List.mem_cons_self, by rw [e, m5]⟩
        · exact .inr ⟨m6, by rw [e, m5]⟩
/-- Steps, where the target can be reached: one at the target, else one more than the least of the hops. -/
theorem steps_pos {n : Int} {t : List S76} (g : Gok n t) {y : Int} (hy : Node n y) : ∀ (N : Nat) (x : Int), (D n t x y).toNat ≤ N → Node n x → D n t x y < 1000000 → 1 ≤ steps n t y x ∧ 1 ≤ ways n t y x := by
  intro N
  induction N with
  | zero =>
    intro x hN hx hf
    by_cases c : x = y
    · rw [c, (ways_at n t y).1, (ways_at n t y).2]
      exact ⟨Int.le_refl _, Int.le_refl _⟩
    · obtain ⟨z, hz⟩ := hop_ex g hx hy c hf
      have := (hop_lt g hz).2.1
      have := D_lim g z hy
      omega
  | succ N ih =>
    intro x hN hx hf
    by_cases c : x = y
    · rw [c, (ways_at n t y).1, (ways_at n t y).2]
      exact ⟨Int.le_refl _, Int.le_refl _⟩
    · obtain ⟨z, hz⟩ := hop_ex g hx hy c hf
      have key : ∀ z ∈ hopsL n t x y, 1 ≤ steps n t y z ∧ 1 ≤ ways n t y z := fun z hz => by
        obtain ⟨p1, p2, _⟩ := hop_lt g hz
        have := D_lim g z hy
        exact ih z (by omega) p1 (by omega)
      obtain ⟨e1, e2⟩ := ways_eq g (x := x) hy c
      rw [e1, e2]
      refine ⟨(minz_min (f := fun z => steps n t y z + 1) _ 0 (fun z hz => by have := (key z hz).1; omega) (Int.le_refl _) (fun _ => ⟨z, hz⟩)).1, ?_⟩
      have := sm_pos (f := ways n t y) (hopsL n t x y) (fun z hz => by have := (key z hz).2; omega) ⟨z, hz, by have := (key z hz).2; omega⟩
      omega
theorem steps_min {n : Int} {t : List S76} (g : Gok n t) {x y : Int} (hx : Node n x) (hy : Node n y) (hxy : x ≠ y) (hf : D n t x y < 1000000) :
    (∀ z ∈ hopsL n t x y, steps n t y x ≤ steps n t y z + 1) ∧ ∃ z ∈ hopsL n t x y, steps n t y x = steps n t y z + 1 := by
  obtain ⟨z, hz⟩ := hop_ex g hx hy hxy hf
  have key : ∀ z ∈ hopsL n t x y, 1 ≤ steps n t y z := fun z hz => by
    obtain ⟨p1, p2, _⟩ := hop_lt g hz
    exact (steps_pos g hy _ z (Nat.le_refl _) p1 (by omega)).1
  rw [(ways_eq g (x := x) hy hxy).2]
  obtain ⟨_, q2, _, q4⟩ := minz_min (f := fun z => steps n t y z + 1) (hopsL n t x y) 0 (fun z hz => by have := key z hz; omega) (Int.le_refl _) (fun _ => ⟨z, hz⟩)
  refine ⟨q2, ?_⟩
  rcases q4 with q4 | ⟨q4, _⟩
  · exact q4
  · exact absurd rfl q4
/-- One edge of the program's steps. -/
def rlx (n : Int) (t : List S76) (y : Int) (o : List Int) (e : S76) : List Int := if D n t e.f0 y < 1000000 ∧ e.f2 + D n t e.f1 y = D n t e.f0 y then o.set e.f0.toNat (mn (rd o e.f0) (rd o e.f1 + 1)) else o
/-- Lower bound, and what is kept. -/
def Low (n : Int) (t : List S76) (y : Int) (o : List Int) : Prop := Dok n o ∧ ∀ v, Node n v → (D n t v y < 1000000 → steps n t y v - 1 ≤ rd o v) ∧ (¬ D n t v y < 1000000 → rd o v = 1000000)
theorem tight {n : Int} {t : List S76} (g : Gok n t) {y : Int} {e : S76} (he : e ∈ t) (h : D n t e.f0 y < 1000000 ∧ e.f2 + D n t e.f1 y = D n t e.f0 y) (hy : Node n y) : e.f1 ∈ hopsL n t e.f0 y ∧ e.f0 ≠ y := by
  refine ⟨mem_hops.2 ⟨e, he, rfl, rfl, h.2⟩, fun c => ?_⟩
  obtain ⟨a1, a2, a3, a4, a5⟩ := g.mem he
  have := D_lim g e.f1 hy
  rw [c, D_self g hy] at h
  omega
theorem Low.rlx {n : Int} {t : List S76} (g : Gok n t) {y : Int} (hy : Node n y) {e : S76} (he : e ∈ t) {o : List Int} (h : Low n t y o) : Low n t y (Pure.rlx n t y o e) := by
  obtain ⟨a1, a2, a3, a4, a5⟩ := g.mem he
  obtain ⟨h1, h2⟩ := h
  have b1 := a1
  have b2 := a2
  unfold Node at b1 b2
  have hl := h1.1
  unfold Pure.rlx
  by_cases c : D n t e.f0 y < 1000000 ∧ e.f2 + D n t e.f1 y = D n t e.f0 y
  · rw [if_pos c]
    obtain ⟨p1, p2⟩ := tight g he c hy
    have s := (steps_min g a1 hy p2 c.1).1 _ p1
    have c0 := h2 e.f0 a1
    have c1 := h2 e.f1 a2
    have dl := D_lim g e.f1 hy
    have r0 := h1.2 _ (rd_mem (o := o) (i := e.f0) b1.1 (by omega))
    have r1 := h1.2 _ (rd_mem (o := o) (i := e.f1) b2.1 (by omega))
    have f1 : D n t e.f1 y < 1000000 := by omega
    have ml := mn_le (rd o e.f0) (rd o e.f1 + 1)
    have mg : steps n t y e.f0 - 1 ≤ mn (rd o e.f0) (rd o e.f1 + 1) ∧ 0 ≤ mn (rd o e.f0) (rd o e.f1 + 1) := by
      have := c0.1 c.1
      have := c1.1 f1
      unfold mn
      split <;> omega
    refine ⟨⟨by rw [List.length_set]; exact hl, fun v hv => ?_⟩, fun v hv => ?_⟩
    · rcases List.mem_or_eq_of_mem_set hv with hv | rfl
      · exact h1.2 v hv
      · omega
    · have hv2 := hv
      unfold Node at hv2
      rw [rdn_set _ b1.1 (by omega) hv2.1]
      by_cases q : e.f0 = v
      · rw [if_pos q, ← q]
        exact ⟨fun _ => mg.1, fun hh => absurd c.1 hh⟩
      · rw [if_neg q]
        exact h2 v hv
  · rw [if_neg c]
    exact ⟨h1, h2⟩
theorem rlx_le {n : Int} {t : List S76} (g : Gok n t) {y : Int} {e : S76} (he : e ∈ t) {o : List Int} (h : Dok n o) {v : Int} (hv : Node n v) : rd (Pure.rlx n t y o e) v ≤ rd o v := by
  obtain ⟨a1, a2, a3, a4, a5⟩ := g.mem he
  unfold Node at a1 a2 hv
  have := h.1
  unfold Pure.rlx
  by_cases c : D n t e.f0 y < 1000000 ∧ e.f2 + D n t e.f1 y = D n t e.f0 y
  · rw [if_pos c, rdn_set _ a1.1 (by omega) hv.1]
    by_cases q : e.f0 = v
    · rw [if_pos q, ← q]
      exact (mn_le _ _).1
    · rw [if_neg q]
      exact Int.le_refl _
  · rw [if_neg c]
    exact Int.le_refl _
theorem rlx_at {n : Int} {t : List S76} (g : Gok n t) {y : Int} {e : S76} (he : e ∈ t) {o : List Int} (h : Dok n o) (c : D n t e.f0 y < 1000000 ∧ e.f2 + D n t e.f1 y = D n t e.f0 y) : rd (Pure.rlx n t y o e) e.f0 ≤ rd o e.f1 + 1 := by
  obtain ⟨a1, a2, a3, a4, a5⟩ := g.mem he
  unfold Node at a1 a2
  have := h.1
  unfold Pure.rlx
  rw [if_pos c, rdn_set _ a1.1 (by omega) a1.1, if_pos rfl]
  exact (mn_le _ _).2
theorem Low.fold {n : Int} {t : List S76} (g : Gok n t) {y : Int} (hy : Node n y) : ∀ (s : List S76) (o : List Int), (∀ e ∈ s, e ∈ t) → Low n t y o → Low n t y (s.foldl (Pure.rlx n t y) o) := by
  intro s
  induction s with
  | nil => intro o _ h; exact h
  | cons e s ih => intro o hs h; exact ih _ (fun b hb => hs b (List.mem_cons_of_mem _ hb)) (h.rlx g hy (hs e List.mem_cons_self))
theorem rfold_le {n : Int} {t : List S76} (g : Gok n t) {y v : Int} (hy : Node n y) (hv : Node n v) : ∀ (s : List S76) (o : List Int), (∀ e ∈ s, e ∈ t) → Low n t y o → rd (s.foldl (Pure.rlx n t y) o) v ≤ rd o v := by
  intro s
  induction s with
  | nil => intro o _ _; exact Int.le_refl _
  | cons e s ih =>
    intro o hs h
    have he := hs e List.mem_cons_self
    have a := ih (Pure.rlx n t y o e) (fun b hb => hs b (List.mem_cons_of_mem _ hb)) (h.rlx g hy he)
    have b := rlx_le (y := y) g he h.1 hv
    exact Int.le_trans a b
theorem rfold_at {n : Int} {t : List S76} (g : Gok n t) {y : Int} (hy : Node n y) {e : S76} (c : D n t e.f0 y < 1000000 ∧ e.f2 + D n t e.f1 y = D n t e.f0 y) : ∀ (s : List S76) (o : List Int), (∀ e ∈ s, e ∈ t) → Low n t y o → e ∈ s → rd (s.foldl (Pure.rlx n t y) o) e.f0 ≤ rd o e.f1 + 1 := by
  intro s
  induction s with
  | nil => intro o _ _ h; cases h
  | cons b s ih =>
    intro o hs h he
    have hb := hs b List.mem_cons_self
    have hs2 : ∀ e ∈ s, e ∈ t := fun a ha => hs a (List.mem_cons_of_mem _ ha)
    obtain ⟨a1, a2, _⟩ := g.mem (hs e he)
    rcases List.mem_cons.1 he with rfl | he
    · exact Int.le_trans (rfold_le g hy a1 s _ hs2 (h.rlx g hy hb)) (rlx_at g hb h.1 c)
    · have a := ih (Pure.rlx n t y o b) hs2 (h.rlx g hy hb) he
      have b := rlx_le (y := y) g hb h.1 a2
      exact Int.le_trans a (by simpa using b)
def rrounds (n : Int) (t : List S76) (y : Int) : Nat → List Int → List Int
  | 0, o => o
  | d + 1, o => rrounds n t y d (t.foldl (Pure.rlx n t y) o)
theorem rrounds_succ (n : Int) (t : List S76) (y : Int) : ∀ (d : Nat) (o : List Int), rrounds n t y (d + 1) o = t.foldl (Pure.rlx n t y) (rrounds n t y d o)
  | 0, _ => rfl
  | d + 1, o => rrounds_succ n t y d (t.foldl (Pure.rlx n t y) o)
/-- How many nodes lie nearer to y than c. -/
def rky (n : Int) (t : List S76) (y c : Int) : Nat := ((List.range n.toNat).filter fun (u : Nat) => decide (D n t (u : Int) y < c)).length
theorem rky_lt {n : Int} {t : List S76} {y z c : Int} (hz : Node n z) (h : D n t z y < c) : rky n t y (D n t z y) < rky n t y c := by
  unfold Node at hz
  unfold rky
  have e : ((z.toNat : Nat) : Int) = z := by omega
  refine filter_lt' _ _ _ (fun u _ hu => ?_) ⟨z.toNat, List.mem_range.2 (by omega), ?_⟩
  · exact decide_eq_true (by have := of_decide_eq_true hu; omega)
  · rw [e]
    exact ⟨decide_eq_true h, fun hh => by have := of_decide_eq_true hh; omega⟩
theorem rky_le {n : Int} (t : List S76) (y c : Int) : rky n t y c ≤ n.toNat := by
  unfold rky
  exact Nat.le_trans (List.length_filter_le _ _) (by rw [List.length_range]; exact Nat.le_refl _)
theorem Low.rounds {n : Int} {t : List S76} (g : Gok n t) {y : Int} (hy : Node n y) : ∀ (d : Nat) {o : List Int}, Low n t y o → Low n t y (rrounds n t y d o)
  | 0, _, h => h
  | d + 1, _, h => Low.rounds g hy d (h.fold g hy t _ (fun _ h => h))
theorem up {n : Int} {t : List S76} (g : Gok n t) {y : Int} (hy : Node n y) {o : List Int} (h : Low n t y o) (h0 : rd o y ≤ 0) : ∀ (d : Nat) (v : Int), Node n v → D n t v y < 1000000 → v = y ∨ rky n t y (D n t v y) ≤ d → rd (rrounds n t y d o) v ≤ steps n t y v - 1 := by
  intro d
  induction d with
  | zero =>
    intro v hv hf hk
    by_cases c : v = y
    · rw [c, (ways_at n t y).2]
      exact h0
    · obtain ⟨z, hz⟩ := hop_ex g hv hy c hf
      have p := hop_lt g hz
      have := rky_lt p.1 p.2.1
      rcases hk with hk | hk
      · exact absurd hk c
      · omega
  | succ d ih =>
    intro v hv hf hk
    have hl := Low.rounds g hy d h
    rw [rrounds_succ]
    by_cases c : v = y
    · have a := ih v hv hf (.inl c)
      exact Int.le_trans (rfold_le g hy hv t _ (fun _ h => h) hl) a
    · obtain ⟨z, hz, hs⟩ := (steps_min g hv hy c hf).2
      have p := hop_lt g hz
      have r := rky_lt p.1 p.2.1
      have a := ih z p.1 (by omega) (.inr (by rcases hk with hk | hk; exact absurd hk c; omega))
      obtain ⟨e, he, e0, e1, e2⟩ := mem_hops.1 hz
      subst e0
      subst e1
      have b := rfold_at g hy ⟨hf, e2⟩ t _ (fun _ h => h) hl he
      omega
theorem Low.start {n : Int} {t : List S76} (g : Gok n t) {y : Int} (hy : Node n y) (hb : ∀ v, Node n v → D n t v y < 1000000 → steps n t y v ≤ 1000001) : Low n t y ((List.replicate n.toNat 1000000).set y.toNat 0) := by
  refine ⟨Dok.start g.1, fun v hv => ?_⟩
  rw [start_rd hy hv]
  by_cases c : y = v
  · rw [if_pos c, ← c, (ways_at n t y).2]
    exact ⟨fun _ => by omega, fun hh => absurd (by rw [D_self g hy]; omega) hh⟩
  · rw [if_neg c]
    exact ⟨fun hf => by have := hb v hv hf; omega, fun _ => rfl⟩
theorem steps_le {n : Int} {t : List S76} (g : Gok n t) {y : Int} (hy : Node n y) : ∀ (N : Nat) (x : Int), (D n t x y).toNat ≤ N → Node n x → D n t x y < 1000000 → steps n t y x ≤ D n t x y + 1 := by
  intro N
  induction N with
  | zero =>
    intro x hN hx hf
    have l := D_lim g x hy
    by_cases c : x = y
    · rw [c, (ways_at n t y).2]
      rw [c] at l
      omega
    · obtain ⟨z, hz⟩ := hop_ex g hx hy c hf
      have := (hop_lt g hz).2.1
      have := D_lim g z hy
      omega
  | succ N ih =>
    intro x hN hx hf
    have l := D_lim g x hy
    by_cases c : x = y
    · rw [c, (ways_at n t y).2]
      rw [c] at l
      omega
    · obtain ⟨z, hz, e⟩ := (steps_min g hx hy c hf).2
      obtain ⟨p1, p2, _⟩ := hop_lt g hz
      have := D_lim g z hy
      have := ih z (by omega) p1 (by omega)
      omega
theorem allD_at {n : Int} {t : List S76} (g : Gok n t) {x : Int} (hx : Node n x) (y : Int) : rd (rd_L3 (allD n t) x) y = D n t x y ∧ ((rd_L3 (allD n t) x).length : Int) = n := by
  rw [allD_rd t hx]
  exact ⟨rfl, (dist_ok g x).1⟩
theorem steps_inner {n : Int} {t : List S76} (g : Gok n t) {y : Int} (hy : Node n y) (k : Nat) (r : Int) : ∀ (d i K : Nat) (o : List Int), i + d = t.length → K = k + d + 1 → Dok n o →
    (∀ s : List S76, (∀ e ∈ s, e ∈ t) → Dok n (s.foldl (Pure.rlx n t y) o)) →
    impl_Graph_steps.l1 K y (allD n t) o n r t t.length i n t = impl_Graph_steps.l0 k y (allD n t) ((t.drop i).foldl (Pure.rlx n t y) o) n (wrap64 (r + 1)) n t := by
  have hl : t.length ≤ 60 := g.2.1
  have hA := allD_len g.1 t
  have hy2 := hy
  unfold Node at hy2
  intro d
  induction d with
  | zero =>
    intro i K o hi hK ho _
    obtain rfl : i = t.length := by omega
    obtain rfl : K = k + 1 := by omega
    simp only [impl_Graph_steps.l1]
    rw [if_neg (by omega), List.drop_length]; rfl
  | succ d ih =>
    intro i K o hi hK ho hall
    obtain ⟨K, rfl⟩ : ∃ m, K = m + 1 := ⟨K - 1, by omega⟩
    have hil : i < t.length := by omega
    have e1 : (i : Int) + 1 = ((i + 1 : Nat) : Int) := by omega
    have hmem : rd_T76 t i ∈ t := by
      rw [rdE_get, List.getD_eq_getElem?_getD, List.getElem?_eq_getElem hil]; exact List.getElem_mem hil
    obtain ⟨a1, a2, a3, a4, a5⟩ := g.mem hmem
    have hd : Dok n (Pure.rlx n t y o (rd_T76 t i)) := hall [rd_T76 t i] (fun e he => by rw [List.mem_singleton.1 he]; exact hmem)
    have hall2 : ∀ s : List S76, (∀ e ∈ s, e ∈ t) → Dok n (s.foldl (Pure.rlx n t y) (Pure.rlx n t y o (rd_T76 t i))) := fun s hs => hall (rd_T76 t i :: s) (fun e he => by rcases List.mem_cons.1 he with rfl | he; exact hmem; exact hs e he)
    have hlen := ho.1
    obtain ⟨q1, q2⟩ := allD_at g a1 y
    obtain ⟨q3, q4⟩ := allD_at g a2 y
    have d1 := D_lim g (rd_T76 t i).f1 hy
    unfold Node at a1 a2
    have b1 := ho.2 _ (rd_mem (o := o) (i := (rd_T76 t i).f1) a2.1 (by omega))
    simp only [impl_Graph_steps.l1]
    rw [if_pos (by omega), if_pos (by omega), if_pos (by omega), if_pos a1.1, if_pos (by omega), if_pos hy2.1, if_pos (by omega), q1, q3, w64 (n := (i : Int) + 1) (by omega) (by omega), e1, drop_getD t z76 hil, ← rdE_get, List.foldl_cons]
    by_cases c : D n t (rd_T76 t i).f0 y < 1000000
    · rw [if_pos c, if_pos a2.1, if_pos (by omega), if_pos (by omega), w64 (n := (rd_T76 t i).f2 + D n t (rd_T76 t i).f1 y) (by omega) (by omega)]
      by_cases c2 : (rd_T76 t i).f2 + D n t (rd_T76 t i).f1 y = D n t (rd_T76 t i).f0 y
      · have er : Pure.rlx n t y o (rd_T76 t i) = o.set (rd_T76 t i).f0.toNat (mn (rd o (rd_T76 t i).f0) (rd o (rd_T76 t i).f1 + 1)) := by
          unfold Pure.rlx; rw [if_pos ⟨c, c2⟩]
        rw [if_pos c2, if_pos (by omega), if_pos (by omega), w64 (by omega) (by omega), ← er, ih (i + 1) K _ (by omega) (by omega) hd hall2]
      · have er : Pure.rlx n t y o (rd_T76 t i) = o := by unfold Pure.rlx; rw [if_neg (fun h => c2 h.2)]
        rw [er] at hall2
        rw [if_neg c2, er, ih (i + 1) K _ (by omega) (by omega) ho hall2]
    · have er : Pure.rlx n t y o (rd_T76 t i) = o := by unfold Pure.rlx; rw [if_neg (fun h => c h.1)]
      rw [er] at hall2
      rw [if_neg c, er, ih (i + 1) K _ (by omega) (by omega) ho hall2]
theorem steps_outer {n : Int} {t : List S76} (g : Gok n t) {y : Int} (hy : Node n y) : ∀ (d k i : Nat) (o : List Int), (i : Int) + d = n → d * (t.length + 2) < k → Low n t y o →
    impl_Graph_steps.l0 k y (allD n t) o n i n t = some (rrounds n t y d o) := by
  have hn := g.1
  intro d
  induction d with
  | zero =>
    intro k i o hi hk ho
    obtain ⟨k, rfl⟩ : ∃ m, k = m + 1 := ⟨k - 1, by omega⟩
    simp only [impl_Graph_steps.l0]
    rw [if_neg (by omega)]; rfl
  | succ d ih =>
    intro k i o hi hk ho
    rw [Nat.add_mul, Nat.one_mul] at hk
    obtain ⟨k, rfl⟩ : ∃ m, k = (m + t.length + 1) + 1 := ⟨k - t.length - 2, by omega⟩
    have e1 : (i : Int) + 1 = ((i + 1 : Nat) : Int) := by omega
    have z := steps_inner g hy k i t.length 0 (k + t.length + 1) o (by omega) rfl ho.1 (fun s hs => (ho.fold g hy s o hs).1)
    have z' : impl_Graph_steps.l1 (k + t.length + 1) y (allD n t) o n i t t.length 0 n t = impl_Graph_steps.l0 k y (allD n t) (t.foldl (Pure.rlx n t y) o) n (wrap64 ((i : Int) + 1)) n t := z
    simp only [impl_Graph_steps.l0]
    rw [if_pos (by omega), z', w64 (by omega) (by omega), e1, ih k (i + 1) _ (by omega) (by omega) (ho.fold g hy t o (fun e he => he))]
    rfl
/-- What the program's steps come to. -/
theorem impl_steps {n : Int} {t : List S76} (g : Gok n t) {y : Int} (hy : Node n y) {k : Nat} (hk : t.length * 12 + 60 < k) : ∃ o, impl_Graph_steps.f k n t y (allD n t) = some o ∧ (o.length : Int) = n ∧ ∀ v, Node n v → rd o v = if D n t v y < 1000000 then steps n t y v - 1 else 1000000 := by
  have hn := g.1
  have hl : t.length ≤ 60 := g.2.1
  have hy2 := hy
  unfold Node at hy2
  have hm : n.toNat * (t.length + 2) ≤ 10 * (t.length + 2) := Nat.mul_le_mul_right _ (by omega)
  have hs : Low n t y ((List.replicate n.toNat 1000000).set y.toNat 0) := Low.start g hy (fun v hv hf => by have := steps_le g hy _ v (Nat.le_refl _) hv hf; omega)
  have hs0 : rd ((List.replicate n.toNat 1000000).set y.toNat 0) y ≤ 0 := by rw [start_rd hy hy, if_pos rfl]; exact Int.le_refl _
  refine ⟨rrounds n t y n.toNat ((List.replicate n.toNat 1000000).set y.toNat 0), ?_, ?_, ?_⟩
  · unfold impl_Graph_steps.f slices_Repeat_int_int.f
    have e1 : ([1000000] : List Int).length = 1 := rfl
    rw [if_pos e1, if_pos (by omega), if_pos (by omega)]
    have e2 : rd ([1000000] : List Int) 0 = 1000000 := rfl
    simp only [Option.bind_some, e2]
    rw [if_pos hy2.1, List.length_replicate, if_pos (by omega)]
    exact steps_outer g hy n.toNat k 0 _ (by omega) (by omega) hs
  · exact (Low.rounds g hy n.toNat hs).1.1
  · intro v hv
    have h := (Low.rounds g hy n.toNat hs).2 v hv
    by_cases c : D n t v y < 1000000
    · rw [if_pos c]
      have a := up g hy hs hs0 n.toNat v hv c (.inr (rky_le t y _))
      have b := h.1 c
      omega
    · rw [if_neg c]
      exact h.2 c
/-- The next node of a cheapest way with the fewest steps. -/
def nxP (n : Int) (t : List S76) (y x z : Int) : Bool := decide (steps n t y z + 1 = steps n t y x)
theorem cs_find {n : Int} {t : List S76} (g : Gok n t) {x y z0 : Int} (hx : Node n x) (hy : Node n y) (hf : D n t x y < 1000000) {S W acc : List Int} (F : Fin n t y S W) (ha : acc.length < 1000) {R : List Int × Bool} {k0 : Nat}
    (hR : ∀ k', k0 ≤ k' → spec_CheapestWay.l0 k' y S W (acc ++ [z0]) z0 n t = some R) : ∀ (d i K : Nat), (i : Int) + d = n → (((List.range' i d).map fun (j : Nat) => (j : Int)).filter (hopN n t x y)).find? (nxP n t y x) = some z0 → k0 + d + (t.length * 12 + 100) < K →
    spec_CheapestWay.l1 K y S W acc x (D n t x y) i n t = some R := by
  have hn := g.1
  have hl : t.length ≤ 60 := g.2.1
  obtain ⟨s1, s2, s3⟩ := F
  have hx2 := hx
  have hy2 := hy
  unfold Node at hx2 hy2
  intro d
  induction d with
  | zero => intro i K _ h _; simp at h
  | succ d ih =>
    intro i K hi h hK
    obtain ⟨K, rfl⟩ : ∃ m, K = m + 1 := ⟨K - 1, by omega⟩
    have e1 : (i : Int) + 1 = ((i + 1 : Nat) : Int) := by omega
    have hv : Node n (i : Int) := by unfold Node; omega
    have dl := D_lim g (i : Int) hy
    have gl := gcost_lim g x (i : Int)
    have fi := s3 i hv
    have fx := s3 x hx
    have nxt := fun (q : (((List.range' (i + 1) d).map fun (j : Nat) => (j : Int)).filter (hopN n t x y)).find? (nxP n t y x) = some z0) => ih (i + 1) K (by omega) q (by omega)
    rw [List.range'_succ, List.map_cons, List.filter_cons] at h
    simp only [spec_CheapestWay.l1]
    rw [if_pos (by omega), spec_Cost hn (by omega) x (i : Int) (by omega), w64 (n := (i : Int) + 1) (by omega) (by omega), e1]
    simp only [Option.bind_some]
    by_cases c1 : (i : Int) = x
    · rw [if_pos c1]
      have q : ¬ hopN n t x y (i : Int) = true := fun q => (of_decide_eq_true q).1 c1
      rw [if_neg q] at h
      exact nxt h
    rw [if_neg c1]
    by_cases c2 : gcost n t x i < 1000000
    · rw [if_pos c2, if_pos (by omega), if_pos (by omega)]
      by_cases c3 : rd W i > 0
      · have fd : D n t i y < 1000000 := Classical.byContradiction fun q => by have := (fi.2.1 q).2; omega
        have ei := fi.1 fd
        have ex := fx.1 hf
        rw [if_pos c3, if_pos (by omega), if_pos hx2.1, if_pos (by omega), w64 (n := rd S i + 1) (by omega) (by omega)]
        by_cases c4 : rd S i + 1 = rd S x
        · have l1 := (dist_ok g (i : Int)).1
          rw [if_pos c4, spec_Dist' g hv (by omega)]
          simp only [Option.bind_some]
          rw [if_pos hy2.1, if_pos (by omega)]
          have ed : rd (dist n t i) y = D n t i y := rfl
          have pz : nxP n t y x i = true := decide_eq_true (by omega)
          rw [ed, w64 (n := gcost n t x i + D n t i y) (by omega) (by omega)]
          by_cases c5 : gcost n t x i + D n t i y = D n t x y
          · have q : hopN n t x y (i : Int) = true := decide_eq_true ⟨c1, c2, c5⟩
            rw [if_pos q, List.find?_cons, pz] at h
            have e := Option.some.inj h
            rw [if_pos c5, if_pos (by omega)]
            rw [e]
            exact hR K (by omega)
          · have q : ¬ hopN n t x y (i : Int) = true := fun q => c5 (of_decide_eq_true q).2.2
            rw [if_neg q] at h
            rw [if_neg c5]
            exact nxt h
        · rw [if_neg c4]
          have pz : nxP n t y x i = false := decide_eq_false (by omega)
          by_cases q : hopN n t x y (i : Int) = true
          · rw [if_pos q, List.find?_cons, pz] at h
            exact nxt h
          · rw [if_neg q] at h
            exact nxt h
      · rw [if_neg c3]
        have q : ¬ hopN n t x y (i : Int) = true := fun q => by
          have q2 := (of_decide_eq_true q).2.2
          have fd : D n t i y < 1000000 := by omega
          have := (fi.1 fd).2
          have := (steps_pos g hy _ i (Nat.le_refl _) hv fd).2
          omega
        rw [if_neg q] at h
        exact nxt h
    · rw [if_neg c2]
      have q : ¬ hopN n t x y (i : Int) = true := fun q => c2 (of_decide_eq_true q).2.1
      rw [if_neg q] at h
      exact nxt h
/-- A way by next hops to y, behind its first node x. -/
def Ch (n : Int) (t : List S76) (y : Int) : Int → List Int → Prop
 | x, [] => x = y
 | x, z :: q => (z ∈ hopsL n t x y ∧ D n t x y < 1000000) ∧ Ch n t y z q
theorem rd_cons' (x : Int) (l : List Int) (m : Nat) : rd (x :: l) ((m : Int) + 1) = rd l (m : Int) := by
  have e : (m : Int) + 1 = ((m + 1 : Nat) : Int) := by omega
  rw [e, rd_getI, rd_getI]
  rfl
theorem ci_find {n : Int} {t : List S76} (g : Gok n t) {x y z0 : Int} (hx : Node n x) (hy : Node n y) (hf : D n t x y < 1000000) {o acc : List Int} (ho : (o.length : Int) = n) (hq : ∀ v, Node n v → rd o v = if D n t v y < 1000000 then steps n t y v - 1 else 1000000) (ha : acc.length < 1000) {R : List Int × Bool} {k0 : Nat}
    (hR : ∀ k', k0 ≤ k' → impl_Graph_cheapest.l0 k' y (allD n t) o (acc ++ [z0]) z0 n t = some R) : ∀ (d i K : Nat), i + d = t.length → (((t.drop i).filter (hopE n t x y)).map fun e => e.f1).find? (nxP n t y x) = some z0 → k0 + d < K →
    impl_Graph_cheapest.l1 K y (allD n t) o acc x t t.length i n t = some R := by
  have hn := g.1
  have hl : t.length ≤ 60 := g.2.1
  have hA := allD_len g.1 t
  have hx2 := hx
  have hy2 := hy
  unfold Node at hx2 hy2
  have ox := hq x hx
  rw [if_pos hf] at ox
  have sx := (steps_pos g hy _ x (Nat.le_refl _) hx hf).1
  have sx2 := steps_le g hy _ x (Nat.le_refl _) hx hf
  obtain ⟨q1, q2⟩ := allD_at g hx y
  intro d
  induction d with
  | zero => 
    intro i K hi h _
    obtain rfl : i = t.length := by omega
    rw [List.drop_length] at h
    simp at h
  | succ d ih =>
    intro i K hi h hK
    obtain ⟨K, rfl⟩ : ∃ m, K = m + 1 := ⟨K - 1, by omega⟩
    have hil : i < t.length := by omega
    have e1 : (i : Int) + 1 = ((i + 1 : Nat) : Int) := by omega
    have hmem : rd_T76 t i ∈ t := by
      rw [rdE_get, List.getD_eq_getElem?_getD, List.getElem?_eq_getElem hil]; exact List.getElem_mem hil
    obtain ⟨a1, a2, a3, a4, a5⟩ := g.mem hmem
    obtain ⟨q3, q4⟩ := allD_at g a2 y
    have d1 := D_lim g (rd_T76 t i).f1 hy
    have oz := hq _ a2
    have b2 := a2
    unfold Node at a1 a2
    have nxt := fun (q : (((t.drop (i + 1)).filter (hopE n t x y)).map fun e => e.f1).find? (nxP n t y x) = some z0) => ih (i + 1) K (by omega) q (by omega)
    rw [drop_getD t z76 hil, ← rdE_get, List.filter_cons] at h
    simp only [impl_Graph_cheapest.l1]
    rw [if_pos (by omega), if_pos (by omega), if_pos (by omega), w64 (n := (i : Int) + 1) (by omega) (by omega), e1]
    by_cases c1 : (rd_T76 t i).f0 = x
    · rw [if_pos c1, if_pos a2.1, if_pos (by omega), if_pos hy2.1, if_pos (by omega), if_pos hx2.1, if_pos (by omega), if_pos (by omega), q1, q3, w64 (n := (rd_T76 t i).f2 + D n t (rd_T76 t i).f1 y) (by omega) (by omega)]
      by_cases c2 : (rd_T76 t i).f2 + D n t (rd_T76 t i).f1 y = D n t x y
      · have q : hopE n t x y (rd_T76 t i) = true := decide_eq_true ⟨c1, c2⟩
        rw [if_pos q, List.map_cons, List.find?_cons] at h
        have fz : D n t (rd_T76 t i).f1 y < 1000000 := by omega
        rw [if_pos fz] at oz
        rw [if_pos c2, if_pos (by omega), if_pos (by omega), w64 (n := rd o x - 1) (by omega) (by omega)]
        by_cases c3 : rd o (rd_T76 t i).f1 = rd o x - 1
        · have pz : nxP n t y x (rd_T76 t i).f1 = true := decide_eq_true (by omega)
          rw [pz] at h
          have e := Option.some.inj h
          rw [if_pos c3, if_pos (by omega), e]
          exact hR K (by omega)
        · have pz : nxP n t y x (rd_T76 t i).f1 = false := decide_eq_false (by omega)
          rw [pz] at h
          rw [if_neg c3]
          exact nxt h
      · have q : ¬ hopE n t x y (rd_T76 t i) = true := fun q => c2 (of_decide_eq_true q).2
        rw [if_neg q] at h
        rw [if_neg c2]
        exact nxt h
    · have q : ¬ hopE n t x y (rd_T76 t i) = true := fun q => c1 (of_decide_eq_true q).1
      rw [if_neg q] at h
      rw [if_neg c1]
      exact nxt h
/-- The next node is there. -/
theorem nx_ex {n : Int} {t : List S76} (g : Gok n t) {x y : Int} (hx : Node n x) (hy : Node n y) (hxy : x ≠ y) (hf : D n t x y < 1000000) : ∃ z, (hopsL n t x y).find? (nxP n t y x) = some z ∧ Node n z ∧ D n t z y < 1000000 ∧ steps n t y z + 1 = steps n t y x := by
  obtain ⟨z, hz, e⟩ := (steps_min g hx hy hxy hf).2
  cases c : (hopsL n t x y).find? (nxP n t y x) with
  | none =>
    have := List.find?_eq_none.1 c z hz
    exact absurd (decide_eq_true e.symm) this
  | some w =>
    have m := List.mem_of_find?_eq_some c
    have p := List.find?_some c
    obtain ⟨p1, p2, _⟩ := hop_lt g m
    exact ⟨w, rfl, p1, by omega, of_decide_eq_true p⟩
/-- Both ways are the same list. -/
theorem both_way {n : Int} {t : List S76} (g : Gok n t) {y : Int} (hy : Node n y) {S W o : List Int} (F : Fin n t y S W) (ho : (o.length : Int) = n) (hq : ∀ v, Node n v → rd o v = if D n t v y < 1000000 then steps n t y v - 1 else 1000000) : ∀ (C : Nat), C = t.length * 13 + 130 → ∀ (m : Nat) (x : Int) (acc : List Int), steps n t y x = (m : Int) + 1 → Node n x → D n t x y < 1000000 → acc.length + m < 1000 →
    ∃ R : List Int, R.length ≤ acc.length + m ∧ (∃ Q, R = acc ++ Q ∧ Ch n t y x Q) ∧ (∀ k, (m + 1) * C < k → spec_CheapestWay.l0 k y S W acc x n t = some (R, true)) ∧ (∀ k, (m + 1) * C < k → impl_Graph_cheapest.l0 k y (allD n t) o acc x n t = some (R, true)) := by
  intro C hC
  have hn := g.1
  have hl : t.length ≤ 60 := g.2.1
  have hy2 := hy
  unfold Node at hy2
  have e0 : ((0 : Nat) : Int) = 0 := rfl
  have zy : ∀ (x : Int) (acc : List Int) (m : Nat), x = y → acc.length + m < 1000 → ∃ R : List Int, R.length ≤ acc.length + m ∧ (∃ Q, R = acc ++ Q ∧ Ch n t y x Q) ∧ (∀ k, (m + 1) * C < k → spec_CheapestWay.l0 k y S W acc x n t = some (R, true)) ∧ (∀ k, (m + 1) * C < k → impl_Graph_cheapest.l0 k y (allD n t) o acc x n t = some (R, true)) := by
    intro x acc m c _
    refine ⟨acc, by omega, ⟨[], by rw [List.append_nil], c⟩, fun k hk => ?_, fun k hk => ?_⟩
    · obtain ⟨k, rfl⟩ : ∃ m, k = m + 1 := ⟨k - 1, by omega⟩
      simp only [spec_CheapestWay.l0]
      rw [if_pos c]
    · obtain ⟨k, rfl⟩ : ∃ m, k = m + 1 := ⟨k - 1, by omega⟩
      simp only [impl_Graph_cheapest.l0]
      rw [if_pos c]
  intro m
  induction m with
  | zero =>
    intro x acc hs hx hf hm
    by_cases c : x = y
    · exact zy x acc 0 c hm
    · obtain ⟨z, _, z2, z3, z4⟩ := nx_ex g hx hy c hf
      have := (steps_pos g hy _ z (Nat.le_refl _) z2 z3).1
      omega
  | succ m ih =>
    intro x acc hs hx hf hm
    by_cases c : x = y
    · exact zy x acc (m + 1) c hm
    · obtain ⟨z, z1, z2, z3, z4⟩ := nx_ex g hx hy c hf
      obtain ⟨R, r0, ⟨Q, rq, rc⟩, r1, r2⟩ := ih z (acc ++ [z]) (by omega) z2 z3 (by rw [List.length_append, List.length_singleton]; omega)
      rw [List.length_append, List.length_singleton] at r0
      have ed : rd (dist n t x) y = D n t x y := rfl
      have l1 := (dist_ok g x).1
      generalize hB : (m + 1) * C = B at r1 r2
      have hB2 : (m + 1 + 1) * C = B + C := by
        have q := Nat.succ_mul (m + 1) C
        rw [hB] at q
        exact q
      refine ⟨R, by omega, ⟨z :: Q, by rw [rq, List.append_assoc]; rfl, ⟨⟨List.mem_of_find?_eq_some z1, hf⟩, rc⟩⟩, fun k hk => ?_, fun k hk => ?_⟩
      · rw [hB2] at hk
        obtain ⟨k, rfl⟩ : ∃ m, k = m + 1 := ⟨k - 1, by omega⟩
        simp only [spec_CheapestWay.l0]
        rw [if_neg c, spec_Dist' g hx (by omega)]
        simp only [Option.bind_some]
        rw [if_pos hy2.1, if_pos (by omega), ed]
        rw [hops_eq g hx] at z1
        have zz := cs_find g hx hy hf F (acc := acc) (by omega) (z0 := z) (R := (R, true)) (k0 := B + 1) (fun k' hk' => r1 k' (by omega)) n.toNat 0 k (by omega) z1 (by omega)
        rw [e0] at zz
        exact zz
      · rw [hB2] at hk
        obtain ⟨k, rfl⟩ : ∃ m, k = m + 1 := ⟨k - 1, by omega⟩
        simp only [impl_Graph_cheapest.l0]
        rw [if_neg c]
        have z1' : (((t.drop 0).filter (hopE n t x y)).map fun e => e.f1).find? (nxP n t y x) = some z := by rw [List.drop_zero]; exact z1
        have zz := ci_find g hx hy hf ho hq (acc := acc) (by omega) (z0 := z) (R := (R, true)) (k0 := B + 1) (fun k' hk' => r2 k' (by omega)) t.length 0 k (by omega) z1' (by omega)
        rw [e0] at zz
        exact zz
theorem both_CheapC (n : Int) {t : List S76} (h : t.length ≤ 1048576) (x y : Int) : ∃ (r : List Int) (ok : Bool), r.length ≤ 300 ∧ (ok = true → (Gok n t ∧ Node n x ∧ Node n y) ∧ D n t x y < 1000000 ∧ ∃ Q, r = x :: Q ∧ Ch n t y x Q) ∧ (ok = false → ¬ ((Gok n t ∧ Node n x ∧ Node n y) ∧ D n t x y < 1000000)) ∧ ∀ k, t.length * 140 + 2500 < k → spec_CheapestWay.f k n t x y = some (r, ok) ∧ impl_CheapestWay.f k n t x y = some (r, ok) := by
  by_cases c : Gok n t ∧ Node n x ∧ Node n y
  · obtain ⟨g, hx, hy⟩ := c
    have hn := g.1
    have hl : t.length ≤ 60 := g.2.1
    have hx2 := hx
    have hy2 := hy
    unfold Node at hx2 hy2
    have hA := allD_len g.1 t
    obtain ⟨q1, q2⟩ := allD_at g hx y
    have dl := D_lim g x hy
    have pre : ∀ (R : List Int × Bool), (∀ S W k, Fin n t y S W → t.length * 130 + 1500 < k → (if rd W x = 0 then some (([] : List Int), false) else spec_CheapestWay.l0 k y S W [x] x n t) = some R) → (∀ o k, (o.length : Int) = n → (∀ v, Node n v → rd o v = if D n t v y < 1000000 then steps n t y v - 1 else 1000000) → t.length * 130 + 1500 < k → (if D n t x y = 1000000 then some (([] : List Int), false) else impl_Graph_cheapest.l0 k y (allD n t) o [x] x n t) = some R) → ∀ k, t.length * 140 + 2500 < k → spec_CheapestWay.f k n t x y = some R ∧ impl_CheapestWay.f k n t x y = some R := by
      intro R hS hI k hk
      obtain ⟨k, rfl⟩ : ∃ m, k = m + 1 := ⟨k - 1, by omega⟩
      obtain ⟨b0, h1, h2, h3⟩ := both_Gok n (t := t) h (k := k + 1) (by omega)
      refine ⟨?_, ?_⟩
      · obtain ⟨S, W, F, e⟩ := spec_Steps g hy (k := k) (by omega)
        unfold spec_CheapestWay.f
        rw [h1]
        simp only [Option.bind_some, spec_CheapestWay.j0]
        rw [if_pos (h3.2 g), spec_Node hn, spec_Node hn, decide_eq_true hx, decide_eq_true hy]
        simp only [Option.bind_some, if_true, Bool.not_true, Bool.false_eq_true, if_false]
        have l2 := F.2.1
        rw [e]
        simp only [Option.bind_some]
        rw [if_pos hx2.1, if_pos (by omega)]
        exact hS S W k F (by omega)
      · obtain ⟨o, e, o1, o2⟩ := impl_steps g hy (k := k + 1) (by omega)
        unfold impl_CheapestWay.f impl_Graph_cheapest.f
        rw [h2]
        simp only [Option.bind_some]
        rw [if_pos (h3.2 g), impl_Node hn, impl_Node hn, decide_eq_true hx, decide_eq_true hy]
        simp only [Option.bind_some, if_true]
        rw [impl_all g (by omega)]
        simp only [Option.bind_some]
        rw [if_pos hx2.1, if_pos (by omega), if_pos hy2.1, if_pos (by omega), q1, e]
        simp only [Option.bind_some]
        rw [hI o (k + 1) o1 o2 (by omega)]
        rfl
    by_cases c2 : D n t x y < 1000000
    · obtain ⟨S0, W0, F0, _⟩ := spec_Steps g hy (k := t.length * 12 + 701) (by omega)
      obtain ⟨o0, _, p1, p2⟩ := impl_steps g hy (k := t.length * 12 + 61) (by omega)
      have f0 := F0.2.2 x hx
      have s1 := (steps_pos g hy _ x (Nat.le_refl _) hx c2)
      have f1 := f0.1 c2
      obtain ⟨C, hC⟩ : ∃ C, C = t.length * 13 + 130 := ⟨_, rfl⟩
      obtain ⟨m, hm⟩ : ∃ m : Nat, steps n t y x = (m : Int) + 1 := ⟨(steps n t y x - 1).toNat, by omega⟩
      have hmC : (m + 1) * C ≤ 10 * C := Nat.mul_le_mul_right _ (by omega)
      obtain ⟨R, r0, ⟨Q, rq, rc⟩, r1, r2⟩ := both_way g hy F0 p1 p2 C hC m x [x] hm hx c2 (by rw [List.length_singleton]; omega)
      rw [List.length_singleton] at r0
      refine ⟨R, true, by omega, (fun _ => ⟨⟨g, hx, hy⟩, c2, Q, rq, rc⟩), (fun q => by cases q), pre _ (fun S W k F hk => ?_) (fun o k o1 o2 hk => ?_)⟩
      · obtain ⟨R', _, _, r1', r2'⟩ := both_way g hy F p1 p2 C hC m x [x] hm hx c2 (by rw [List.length_singleton]; omega)
        have e1 := r2 k (by omega)
        have e2 := r2' k (by omega)
        have e3 := r1' k (by omega)
        rw [e1] at e2
        have w := ((F.2.2 x hx).1 c2).2
        rw [if_neg (by omega), e3, e2]
      · obtain ⟨R', _, _, r1', r2'⟩ := both_way g hy F0 o1 o2 C hC m x [x] hm hx c2 (by rw [List.length_singleton]; omega)
        have e1 := r1 k (by omega)
        have e2 := r1' k (by omega)
        have e3 := r2' k (by omega)
        rw [e1] at e2
        rw [if_neg (by omega), e3, e2]
    · refine ⟨[], false, Nat.zero_le _, (fun q => by cases q), (fun _ z => c2 z.2), pre _ (fun S W k F hk => ?_) (fun o k o1 o2 hk => ?_)⟩
      · rw [if_pos ((F.2.2 x hx).2.1 c2).2]
      · rw [if_pos (by omega)]
  · refine ⟨[], false, Nat.zero_le _, (fun q => by cases q), (fun _ z => c z.1), fun k hk => ?_⟩
    obtain ⟨k, rfl⟩ : ∃ m, k = m + 1 := ⟨k - 1, by omega⟩
    obtain ⟨b0, h1, h2, h3⟩ := both_Gok n (t := t) h (k := k + 1) (by omega)
    unfold spec_CheapestWay.f impl_CheapestWay.f
    rw [h1, h2]
    simp only [Option.bind_some, spec_CheapestWay.j0]
    by_cases d : b0 = true
    · have g := h3.1 d
      have hn := g.1
      rw [if_pos d, if_pos d, spec_Node hn, spec_Node hn, impl_Node hn, impl_Node hn]
      simp only [Option.bind_some]
      by_cases d1 : Node n x
      · have d2 : ¬ Node n y := fun d2 => c ⟨g, d1, d2⟩
        simp [d1, d2]
      · simp [d1]
    · rw [if_neg d, if_neg d]
      simp
theorem sm_add {α : Type} (f h : α → Int) : ∀ l : List α, sm (fun a => f a + h a) l = sm f l + sm h l
  | [] => rfl
  | a :: l => by
    have := sm_add f h l
    simp only [sm]
    omega
theorem sm_zero {α : Type} : ∀ l : List α, sm (fun _ => 0) l = 0
  | [] => rfl
  | a :: l => by
    have := sm_zero l
    simp only [sm]
    omega
theorem sm_swap {α β : Type} (f : α → β → Int) (m : List β) : ∀ l : List α, sm (fun a => sm (fun b => f a b) m) l = sm (fun b => sm (fun a => f a b) l) m
  | [] => by simp only [sm]; rw [sm_zero]
  | a :: l => by
    have := sm_swap f m l
    simp only [sm]
    rw [sm_add, this]
theorem sm_if {α : Type} (p : Prop) [Decidable p] (f : α → Int) (l : List α) : sm (fun a => if p then f a else 0) l = if p then sm f l else 0 := by
  by_cases c : p
  · simp only [if_pos c]
  · simp only [if_neg c]
    exact sm_zero l
/-- How many walks of m edges lead from u to v for the cost c. -/
def Q (t : List S76) : Nat → Int → Int → Int → Int
  | 0, u, v, c => if u = v ∧ c = 0 then 1 else 0
  | m + 1, u, v, c => sm (fun e : S76 => if e.f0 = u then Q t m e.f1 v (c - e.f2) else 0) t
/-- The same, told by the last edge. -/
theorem Q_last (t : List S76) : ∀ (m : Nat) (u v c : Int), Q t (m + 1) u v c = sm (fun e : S76 => if e.f1 = v then Q t m u e.f0 (c - e.f2) else 0) t := by
  intro m
  induction m with
  | zero =>
    intro u v c
    show sm _ t = sm _ t
    refine sm_congr t (fun e _ => ?_)
    simp only [Q]
    grind
  | succ m ih =>
    intro u v c
    have h1 : Q t (m + 1 + 1) u v c = sm (fun e : S76 => sm (fun b : S76 => if b.f1 = v then (if e.f0 = u then Q t m e.f1 b.f0 (c - e.f2 - b.f2) else 0) else 0) t) t := by
      show sm _ t = sm _ t
      refine sm_congr t (fun e _ => ?_)
      show (if e.f0 = u then Q t (m + 1) e.f1 v (c - e.f2) else 0) = _
      by_cases q : e.f0 = u
      · simp only [if_pos q]
        exact ih e.f1 v (c - e.f2)
      · simp only [if_neg q, ite_self]
        exact (sm_zero t).symm
    rw [h1, sm_swap]
    refine sm_congr t (fun b _ => ?_)
    rw [sm_if]
    by_cases q : b.f1 = v
    · rw [if_pos q, if_pos q]
      show _ = sm _ t
      refine sm_congr t (fun e _ => ?_)
      have e1 : c - e.f2 - b.f2 = c - b.f2 - e.f2 := by omega
      rw [e1]
    · rw [if_neg q, if_neg q]
/-- A walk that is counted is there. -/
theorem Q_walk {n : Int} {t : List S76} (g : Gok n t) : ∀ (m : Nat) (u v c : Int), Node n u → Node n v → Q t m u v c ≠ 0 → D n t u v ≤ c ∧ (m : Int) ≤ c := by
  intro m
  induction m with
  | zero =>
    intro u v c hu hv h
    simp only [Q] at h
    by_cases q : u = v ∧ c = 0
    · obtain ⟨rfl, rfl⟩ := q
      rw [D_self g hu]
      omega
    · rw [if_neg q] at h
      exact absurd rfl h
  | succ m ih =>
    intro u v c hu hv h
    have hx : ∃ e ∈ t, (if e.f0 = u then Q t m e.f1 v (c - e.f2) else 0) ≠ 0 := Classical.byContradiction fun q => h (by
      show sm _ t = 0
      rw [sm_congr (h := fun _ => 0) t (fun e he => Classical.byContradiction fun q2 => q ⟨e, he, q2⟩)]
      exact sm_zero t)
    obtain ⟨e, he, hq⟩ := hx
    obtain ⟨a1, a2, a3, a4, a5⟩ := g.mem he
    by_cases q : e.f0 = u
    · rw [if_pos q] at hq
      obtain ⟨b1, b2⟩ := ih e.f1 v (c - e.f2) a2 hv hq
      refine ⟨?_, by omega⟩
      have de := D_edge g he
      rw [q] at de
      by_cases f : D n t e.f1 v < 1000000
      · have := D_tri g hu a2 hv (by omega) f
        omega
      · have := D_lim g u hv
        omega
    · rw [if_neg q] at hq
      exact absurd rfl hq
/-- All walks of fewer than N edges. -/
def QN (t : List S76) : Nat → Int → Int → Int → Int
  | 0, _, _, _ => 0
  | N + 1, u, v, c => QN t N u v c + Q t N u v c
theorem QN_first (t : List S76) : ∀ (N : Nat) (u v c : Int), QN t (N + 1) u v c = (if u = v ∧ c = 0 then 1 else 0) + sm (fun e : S76 => if e.f0 = u then QN t N e.f1 v (c - e.f2) else 0) t := by
  intro N
  induction N with
  | zero =>
    intro u v c
    simp only [QN, Q, ite_self, sm_zero]
    omega
  | succ N ih =>
    intro u v c
    have h := ih u v c
    show QN t (N + 1) u v c + sm _ t = _
    rw [h, Int.add_assoc, ← sm_add]
    congr 1
    refine sm_congr t (fun e _ => ?_)
    by_cases q : e.f0 = u
    · simp only [if_pos q]
      rfl
    · simp only [if_neg q]
      rfl
theorem QN_last (t : List S76) : ∀ (N : Nat) (u v c : Int), QN t (N + 1) u v c = (if u = v ∧ c = 0 then 1 else 0) + sm (fun e : S76 => if e.f1 = v then QN t N u e.f0 (c - e.f2) else 0) t := by
  intro N
  induction N with
  | zero =>
    intro u v c
    simp only [QN, Q, ite_self, sm_zero]
    omega
  | succ N ih =>
    intro u v c
    have h := ih u v c
    show QN t (N + 1) u v c + Q t (N + 1) u v c = _
    rw [h, Q_last, Int.add_assoc, ← sm_add]
    congr 1
    refine sm_congr t (fun e _ => ?_)
    by_cases q : e.f1 = v
    · simp only [if_pos q]
      rfl
    · simp only [if_neg q]
      rfl
theorem QN_none {n : Int} {t : List S76} (g : Gok n t) {u v c : Int} (hu : Node n u) (hv : Node n v) (h : c < D n t u v) : ∀ N, QN t N u v c = 0
  | 0 => rfl
  | N + 1 => by
    have a := QN_none g hu hv h N
    have b : Q t N u v c = 0 := Classical.byContradiction fun q => by have := (Q_walk g N u v c hu hv q).1; omega
    simp only [QN]
    omega
theorem QN_more {n : Int} {t : List S76} (g : Gok n t) {u v c : Int} (hu : Node n u) (hv : Node n v) {N : Nat} (h : c < N) : QN t (N + 1) u v c = QN t N u v c := by
  have b : Q t N u v c = 0 := Classical.byContradiction fun q => by have := (Q_walk g N u v c hu hv q).2; omega
  simp only [QN]
  omega
theorem sm_fm {α : Type} (p : α → Bool) (h : α → Int) (f : Int → Int) : ∀ l : List α, sm f ((l.filter p).map h) = sm (fun e => if p e = true then f (h e) else 0) l
  | [] => rfl
  | a :: l => by
    have ih := sm_fm p h f l
    rw [List.filter_cons]
    by_cases c : p a = true
    · rw [if_pos c, List.map_cons]
      simp only [sm, if_pos c]
      omega
    · rw [if_neg c]
      simp only [sm, if_neg c]
      omega
/-- The reference's ways are the number of walks for the distance. -/
theorem ways_QN {n : Int} {t : List S76} (g : Gok n t) {y : Int} (hy : Node n y) : ∀ (N : Nat) (x : Int), Node n x → D n t x y < 1000000 → D n t x y < N → ways n t y x = QN t N x y (D n t x y) := by
  intro N
  induction N with
  | zero => intro x hx hf h; have := D_lim g x hy; omega
  | succ N ih =>
    intro x hx hf h
    rw [QN_first]
    by_cases c : x = y
    · subst c
      have d0 := D_self g hx
      rw [(ways_at n t x).1, if_pos ⟨rfl, d0⟩, sm_congr (h := fun _ => 0) t (fun e he => ?_), sm_zero]
      · rfl
      · obtain ⟨a1, a2, a3, a4, a5⟩ := g.mem he
        have dl := D_lim g e.f1 hx
        by_cases q : e.f0 = x
        · rw [if_pos q]
          exact QN_none g a2 hx (by omega) N
        · rw [if_neg q]
    · rw [(ways_eq g (x := x) hy c).1, if_neg (fun q => c q.1), Int.zero_add]
      unfold hopsL
      rw [sm_fm]
      refine sm_congr t (fun e he => ?_)
      obtain ⟨a1, a2, a3, a4, a5⟩ := g.mem he
      have dl := D_lim g e.f1 hy
      by_cases q : e.f0 = x
      · rw [if_pos q]
        by_cases q2 : e.f2 + D n t e.f1 y = D n t x y
        · have hh : hopE n t x y e = true := decide_eq_true ⟨q, q2⟩
          have e1 : D n t x y - e.f2 = D n t e.f1 y := by omega
          rw [if_pos hh, e1]
          exact ih e.f1 a2 (by omega) (by omega)
        · have hh : ¬ hopE n t x y e = true := fun hh => q2 (of_decide_eq_true hh).2
          rw [if_neg hh]
          refine (QN_none g a2 hy ?_ N).symm
          by_cases f : D n t e.f1 y < 1000000
          · have de := D_edge g he
            rw [q] at de
            have := D_tri g hx a2 hy (by omega) f
            have w := walk_D g hx (Walk.trans (by have := Walk.edge he; rw [q] at this; exact this) (D_walk g a2 hy f))
            omega
          · omega
      · have hh : ¬ hopE n t x y e = true := fun hh => q (of_decide_eq_true hh).1
        rw [if_neg hh, if_neg q]
/-- The ways from x to v, counted forward. -/
def fw (n : Int) (t : List S76) (x v : Int) : Int := QN t 1000001 x v (D n t x v)
theorem fw_ways {n : Int} {t : List S76} (g : Gok n t) {x y : Int} (hx : Node n x) (hy : Node n y) (hf : D n t x y < 1000000) : fw n t x y = ways n t y x := by
  unfold fw
  exact (ways_QN g hy 1000001 x hx hf (by omega)).symm
/-- By the last edge. -/
theorem fw_eq {n : Int} {t : List S76} (g : Gok n t) {x v : Int} (hx : Node n x) (hv : Node n v) (hf : D n t x v < 1000000) :
    fw n t x v = (if x = v then 1 else 0) + sm (fun e : S76 => if e.f1 = v ∧ D n t x e.f0 + e.f2 = D n t x v then fw n t x e.f0 else 0) t := by
  obtain ⟨M, hM⟩ : ∃ M : Nat, M = 1000000 := ⟨_, rfl⟩
  have hM1 : 1000001 = M + 1 := by omega
  unfold fw
  rw [hM1, QN_last]
  have e0 : (if x = v ∧ D n t x v = 0 then (1 : Int) else 0) = if x = v then 1 else 0 := by
    by_cases c : x = v
    · rw [if_pos c, if_pos ⟨c, by rw [c]; exact D_self g hv⟩]
    · rw [if_neg c, if_neg (fun q => c q.1)]
  rw [e0]
  congr 1
  refine sm_congr t (fun e he => ?_)
  obtain ⟨a1, a2, a3, a4, a5⟩ := g.mem he
  have dl := D_lim g x a1
  by_cases q : e.f1 = v
  · rw [if_pos q]
    by_cases q2 : D n t x e.f0 + e.f2 = D n t x v
    · have e1 : D n t x v - e.f2 = D n t x e.f0 := by omega
      rw [if_pos ⟨q, q2⟩, e1]
      exact (QN_more g hx a1 (by omega)).symm
    · rw [if_neg (fun h => q2 h.2)]
      refine QN_none g hx a1 ?_ M
      by_cases f : D n t x e.f0 < 1000000
      · have w := walk_D g hx (Walk.trans (D_walk g hx a1 f) (Walk.edge he))
        rw [q] at w
        omega
      · omega
  · rw [if_neg q, if_neg (fun h => q h.1)]
/-- One edge of the program's count, from the node u. -/
def addE (n : Int) (t : List S76) (x u : Int) (o : List Int) (e : S76) : List Int := if e.f0 = u ∧ D n t x u + e.f2 = D n t x e.f1 then o.set e.f1.toNat (rd o e.f1 + rd o u) else o
theorem addE_len (n : Int) (t : List S76) (x u : Int) (o : List Int) (e : S76) : (addE n t x u o e).length = o.length := by
  unfold addE
  split
  · rw [List.length_set]
  · rfl
theorem addE_rd {n : Int} {t : List S76} (g : Gok n t) {x u : Int} {e : S76} (he : e ∈ t) {o : List Int} (ho : (o.length : Int) = n) {v : Int} (hv : Node n v) : rd (addE n t x u o e) v = rd o v + (if e.f0 = u ∧ e.f1 = v ∧ D n t x u + e.f2 = D n t x v then rd o u else 0) := by
  obtain ⟨a1, a2, a3, a4, a5⟩ := g.mem he
  unfold Node at a2 hv
  unfold addE
  by_cases c : e.f0 = u ∧ D n t x u + e.f2 = D n t x e.f1
  · rw [if_pos c, rdn_set _ a2.1 (by omega) hv.1]
    by_cases q : e.f1 = v
    · rw [if_pos q, if_pos ⟨c.1, q, by rw [← q]; exact c.2⟩, q]
    · rw [if_neg q, if_neg (fun h => q h.2.1), Int.add_zero]
  · rw [if_neg c, if_neg (fun h => c ⟨h.1, by rw [h.2.1]; exact h.2.2⟩), Int.add_zero]
theorem addE_fold {n : Int} {t : List S76} (g : Gok n t) {x u : Int} (hu : Node n u) : ∀ (s : List S76) (o : List Int), (∀ e ∈ s, e ∈ t) → (o.length : Int) = n → ((s.foldl (addE n t x u) o).length : Int) = n ∧ ∀ v, Node n v → rd (s.foldl (addE n t x u) o) v = rd o v + sm (fun e : S76 => if e.f0 = u ∧ e.f1 = v ∧ D n t x u + e.f2 = D n t x v then rd o u else 0) s := by
  intro s
  induction s with
  | nil =>
    intro o _ ho
    refine ⟨ho, fun v _ => ?_⟩
    simp only [List.foldl_nil, sm, Int.add_zero]
  | cons e s ih =>
    intro o hs ho
    have he := hs e List.mem_cons_self
    have hl : ((addE n t x u o e).length : Int) = n := by rw [addE_len]; exact ho
    obtain ⟨i1, i2⟩ := ih (addE n t x u o e) (fun b hb => hs b (List.mem_cons_of_mem _ hb)) hl
    refine ⟨i1, fun v hv => ?_⟩
    have hne := (g.mem he).2.2.1
    have hru : rd (addE n t x u o e) u = rd o u := by
      rw [addE_rd g he ho hu, if_neg (fun h => hne (by rw [h.1, h.2.1])), Int.add_zero]
    have h2 := i2 v hv
    rw [hru, addE_rd g he ho hv] at h2
    simp only [List.foldl_cons, sm]
    omega
/-- What is counted at v once the nodes of P have had their turn. -/
def pw (n : Int) (t : List S76) (x : Int) (P : List Int) (v : Int) : Int := (if x = v then 1 else 0) + sm (fun e : S76 => if (e.f1 = v ∧ D n t x e.f0 + e.f2 = D n t x v) ∧ e.f0 ∈ P then fw n t x e.f0 else 0) t
theorem pw_fw {n : Int} {t : List S76} (g : Gok n t) {x u : Int} (hx : Node n x) (hu : Node n u) (hf : D n t x u < 1000000) {P : List Int} (hP : ∀ w, Node n w → D n t x w < D n t x u → w ∈ P) : pw n t x P u = fw n t x u := by
  rw [fw_eq g hx hu hf]
  unfold pw
  congr 1
  refine sm_congr t (fun e he => ?_)
  obtain ⟨a1, a2, a3, a4, a5⟩ := g.mem he
  by_cases q : e.f1 = u ∧ D n t x e.f0 + e.f2 = D n t x u
  · rw [if_pos q, if_pos ⟨q, hP _ a1 (by omega)⟩]
  · rw [if_neg q, if_neg (fun h => q h.1)]
theorem pw_step {n : Int} {t : List S76} (g : Gok n t) {x u : Int} (hx : Node n x) (hu : Node n u) (hf : D n t x u < 1000000) {P : List Int} (hP : ∀ w, Node n w → D n t x w < D n t x u → w ∈ P) (hn : u ∉ P) {o : List Int} (ho : (o.length : Int) = n) (hq : ∀ v, Node n v → rd o v = pw n t x P v) :
    ((t.foldl (addE n t x u) o).length : Int) = n ∧ ∀ v, Node n v → rd (t.foldl (addE n t x u) o) v = pw n t x (P ++ [u]) v := by
  obtain ⟨i1, i2⟩ := addE_fold g (x := x) hu t o (fun e he => he) ho
  refine ⟨i1, fun v hv => ?_⟩
  rw [i2 v hv, hq v hv, hq u hu, pw_fw g hx hu hf hP]
  unfold pw
  rw [Int.add_assoc, ← sm_add]
  congr 1
  refine sm_congr t (fun e he => ?_)
  by_cases q : e.f1 = v ∧ D n t x e.f0 + e.f2 = D n t x v
  · by_cases q2 : e.f0 = u
    · rw [if_neg (fun h => hn (by rw [← q2]; exact h.2)), if_pos ⟨q2, q.1, by rw [← q2]; exact q.2⟩, if_pos ⟨q, by rw [q2]; simp⟩, q2, Int.zero_add]
    · rw [if_neg (c := e.f0 = u ∧ _) (fun h => q2 h.1), Int.add_zero]
      by_cases q3 : e.f0 ∈ P
      · rw [if_pos ⟨q, q3⟩, if_pos ⟨q, by simp [q3]⟩]
      · rw [if_neg (fun h => q3 h.2), if_neg (fun h => by have := h.2; simp [q2, q3] at this)]
  · rw [if_neg (fun h => q h.1), if_neg (fun h => q ⟨h.2.1, by rw [h.1]; exact h.2.2⟩), if_neg (fun h => q h.1), Int.add_zero]
theorem fw_lim {n : Int} {t : List S76} (g : Gok n t) {x v : Int} (hx : Node n x) (hv : Node n v) (hf : D n t x v < 1000000) : 0 ≤ fw n t x v ∧ fw n t x v ≤ 10000000000 := by
  obtain ⟨S, W, F, _⟩ := spec_Steps g hv (k := t.length * 12 + 701) (by omega)
  have f := F.2.2 x hx
  have e := (f.1 hf).2
  rw [fw_ways g hx hv hf]
  omega
theorem sm_lim {α : Type} {f : α → Int} {c : Int} (l : List α) (h : ∀ a ∈ l, 0 ≤ f a ∧ f a ≤ c) : 0 ≤ sm f l ∧ sm f l ≤ c * l.length := ⟨sm_nonneg l (fun a ha => (h a ha).1), sm_le l (fun a ha => (h a ha).2)⟩
theorem pw_lim {n : Int} {t : List S76} (g : Gok n t) {x : Int} (hx : Node n x) {P : List Int} (hP : ∀ w ∈ P, D n t x w < 1000000) (v : Int) : 0 ≤ pw n t x P v ∧ pw n t x P v ≤ 600000000001 := by
  have hl : t.length ≤ 60 := g.2.1
  unfold pw
  have h := sm_lim (f := fun e : S76 => if (e.f1 = v ∧ D n t x e.f0 + e.f2 = D n t x v) ∧ e.f0 ∈ P then fw n t x e.f0 else 0) (c := 10000000000) t (fun e he => by
    obtain ⟨a1, a2, a3, a4, a5⟩ := g.mem he
    by_cases q : (e.f1 = v ∧ D n t x e.f0 + e.f2 = D n t x v) ∧ e.f0 ∈ P
    · rw [if_pos q]
      exact fw_lim g hx a1 (hP _ q.2)
    · rw [if_neg q]
      omega)
  split <;> omega
theorem pw_nil (n : Int) (t : List S76) (x v : Int) : pw n t x [] v = if x = v then 1 else 0 := by
  unfold pw
  rw [sm_congr (h := fun _ => 0) t (fun e _ => if_neg (fun h => by simp at h)), sm_zero, Int.add_zero]
/-- The pass over the edges, from the node u. -/
theorem cw_inner {n : Int} {t : List S76} (g : Gok n t) {x u y : Int} (hu : Node n u) (k : Nat) (Ls : List Int) (L r : Int) : ∀ (d i K : Nat) (o : List Int), i + d = t.length → K = k + d + 1 → (o.length : Int) = n → (∀ v, Node n v → 0 ≤ rd o v ∧ rd o v ≤ 700000000001 + 20000000000 * i) → 0 ≤ rd o u ∧ rd o u ≤ 10000000000 →
    impl_CountWays.l2 K y o u Ls L r t t.length i n t (dist n t x) = impl_CountWays.l1 k y ((t.drop i).foldl (addE n t x u) o) Ls L (wrap64 (r + 1)) n t (dist n t x) := by
  have hl : t.length ≤ 60 := g.2.1
  have lx := (dist_ok g x).1
  have hu2 := hu
  unfold Node at hu2
  intro d
  induction d with
  | zero =>
    intro i K o hi hK ho _ _
    obtain rfl : i = t.length := by omega
    obtain rfl : K = k + 1 := by omega
    simp only [impl_CountWays.l2]
    rw [if_neg (by omega), List.drop_length]; rfl
  | succ d ih =>
    intro i K o hi hK ho hb hc
    obtain ⟨K, rfl⟩ : ∃ m, K = m + 1 := ⟨K - 1, by omega⟩
    have hil : i < t.length := by omega
    have e1 : (i : Int) + 1 = ((i + 1 : Nat) : Int) := by omega
    have hmem : rd_T76 t i ∈ t := by
      rw [rdE_get, List.getD_eq_getElem?_getD, List.getElem?_eq_getElem hil]; exact List.getElem_mem hil
    obtain ⟨a1, a2, a3, a4, a5⟩ := g.mem hmem
    have b2 := hb _ a2
    have dl := D_lim g x hu
    have hl2 : ((addE n t x u o (rd_T76 t i)).length : Int) = n := by rw [addE_len]; exact ho
    have hb2 : ∀ v, Node n v → 0 ≤ rd (addE n t x u o (rd_T76 t i)) v ∧ rd (addE n t x u o (rd_T76 t i)) v ≤ 700000000001 + 20000000000 * ((i + 1 : Nat) : Int) := fun v hv => by
      have := hb v hv
      rw [addE_rd g hmem ho hv]
      split <;> omega
    have hc2 : rd (addE n t x u o (rd_T76 t i)) u = rd o u := by
      rw [addE_rd g hmem ho hu, if_neg (fun h => a3 (by rw [h.1, h.2.1])), Int.add_zero]
    have nx := ih (i + 1) K (addE n t x u o (rd_T76 t i)) (by omega) (by omega) hl2 hb2 (by rw [hc2]; exact hc)
    unfold Node at a1 a2
    rw [drop_getD t z76 hil, ← rdE_get, List.foldl_cons, ← nx]
    simp only [impl_CountWays.l2]
    rw [if_pos (by omega), if_pos (by omega), if_pos (by omega), w64 (n := (i : Int) + 1) (by omega) (by omega), e1]
    have ed : ∀ v, rd (dist n t x) v = D n t x v := fun _ => rfl
    by_cases c : (rd_T76 t i).f0 = u
    · rw [if_pos c, if_pos hu2.1, if_pos (by omega), if_pos a2.1, if_pos (by omega), ed, ed, w64 (n := D n t x u + (rd_T76 t i).f2) (by omega) (by omega)]
      by_cases c2 : D n t x u + (rd_T76 t i).f2 = D n t x (rd_T76 t i).f1
      · rw [if_pos c2, if_pos (by omega), if_pos (by omega), w64 (n := rd o (rd_T76 t i).f1 + rd o u) (by omega) (by omega)]
        have er : addE n t x u o (rd_T76 t i) = o.set (rd_T76 t i).f1.toNat (rd o (rd_T76 t i).f1 + rd o u) := by unfold addE; rw [if_pos ⟨c, c2⟩]
        rw [er]
      · have er : addE n t x u o (rd_T76 t i) = o := by unfold addE; rw [if_neg (fun h => c2 h.2)]
        rw [if_neg c2, er]
    · have er : addE n t x u o (rd_T76 t i) = o := by unfold addE; rw [if_neg (fun h => c h.1)]
      rw [if_neg c, er]
theorem cw_outer {n : Int} {t : List S76} (g : Gok n t) {x y : Int} (hx : Node n x) (hy : Node n y) (Ls : List Int) (h60 : Ls.length ≤ 60) (h1 : ∀ w ∈ Ls, Node n w ∧ D n t x w < 1000000) (h2 : ∀ i, i < Ls.length → (∀ w, Node n w → D n t x w < D n t x (rd Ls i) → w ∈ Ls.take i) ∧ rd Ls i ∉ Ls.take i) : ∀ (d k i : Nat) (o : List Int), i + d = Ls.length → d * (t.length + 2) < k → (o.length : Int) = n → (∀ v, Node n v → rd o v = pw n t x (Ls.take i) v) →
    impl_CountWays.l1 k y o Ls Ls.length i n t (dist n t x) = some (pw n t x Ls y) := by
  have hl : t.length ≤ 60 := g.2.1
  have hy2 := hy
  unfold Node at hy2
  intro d
  induction d with
  | zero =>
    intro k i o hi hk ho hq
    obtain ⟨k, rfl⟩ : ∃ m, k = m + 1 := ⟨k - 1, by omega⟩
    obtain rfl : i = Ls.length := by omega
    simp only [impl_CountWays.l1]
    rw [if_neg (by omega), if_pos hy2.1, if_pos (by omega), hq y hy, List.take_length]
  | succ d ih =>
    intro k i o hi hk ho hq
    rw [Nat.add_mul, Nat.one_mul] at hk
    obtain ⟨k, rfl⟩ : ∃ m, k = (m + t.length + 1) + 1 := ⟨k - t.length - 2, by omega⟩
    have e1 : (i : Int) + 1 = ((i + 1 : Nat) : Int) := by omega
    have hm : rd Ls i ∈ Ls := rd_mem (by omega) (by omega)
    obtain ⟨u1, u2⟩ := h1 _ hm
    obtain ⟨p1, p2⟩ := h2 i (by omega)
    have hT : ∀ w ∈ Ls.take i, D n t x w < 1000000 := fun w hw => (h1 w (List.mem_of_mem_take hw)).2
    have hb : ∀ v, Node n v → 0 ≤ rd o v ∧ rd o v ≤ 700000000001 + 20000000000 * ((0 : Nat) : Int) := fun v hv => by
      have := pw_lim g hx hT v
      rw [hq v hv]
      omega
    have hc : 0 ≤ rd o (rd Ls i) ∧ rd o (rd Ls i) ≤ 10000000000 := by
      rw [hq _ u1, pw_fw g hx u1 u2 p1]
      exact fw_lim g hx u1 u2
    have z := cw_inner g (x := x) (y := y) u1 k Ls Ls.length i t.length 0 (k + t.length + 1) o (by omega) rfl ho hb hc
    have z' : impl_CountWays.l2 (k + t.length + 1) y o (rd Ls i) Ls Ls.length i t t.length 0 n t (dist n t x) = impl_CountWays.l1 k y (t.foldl (addE n t x (rd Ls i)) o) Ls Ls.length (wrap64 ((i : Int) + 1)) n t (dist n t x) := z
    obtain ⟨q1, q2⟩ := pw_step g hx u1 u2 p1 p2 ho hq
    have et : Ls.take i ++ [rd Ls i] = Ls.take (i + 1) := by
      rw [List.take_add_one, List.getElem?_eq_getElem (by omega)]
      simp [rd, List.getD_eq_getElem?_getD, List.getElem?_eq_getElem (show i < Ls.length by omega)]
    rw [et] at q2
    simp only [impl_CountWays.l1]
    rw [if_pos (by omega), if_pos (by omega), if_pos (by omega), z', w64 (by omega) (by omega), e1]
    exact ih k (i + 1) _ (by omega) (by omega) q1 q2
def swI (x : List Int) (i j : Nat) : List Int := (x.set i (rd x j)).set j (rd x i)
theorem rd_nat {x : List Int} {i : Nat} (h : i < x.length) : rd x i = x[i] := by
  simp [rd, List.getD_eq_getElem?_getD, List.getElem?_eq_getElem h]
theorem swI_perm {x : List Int} {i j : Nat} (hi : i < x.length) (hj : j < x.length) : (swI x i j).Perm x := by
  unfold swI
  rw [rd_nat hi, rd_nat hj]
  exact List.set_set_perm hi hj
theorem rd_swI {x : List Int} {i j : Nat} (hi : i < x.length) (hj : j < x.length) (t : Nat) : rd (swI x i j) t = if j = t then rd x i else if i = t then rd x j else rd x t := by
  unfold swI
  have a := rdn_set (o := x.set i (rd x j)) (i := (j : Int)) (j := (t : Int)) (rd x i) (by omega) (by rw [List.length_set]; omega) (by omega)
  have b := rdn_set (o := x) (i := (i : Int)) (j := (t : Int)) (rd x j) (by omega) (by omega) (by omega)
  rw [Int.toNat_natCast] at a b
  rw [a, b]
  by_cases c : j = t
  · rw [if_pos c, if_pos (by omega)]
  · rw [if_neg c, if_neg (by omega)]
    by_cases c2 : i = t
    · rw [if_pos c2, if_pos (by omega)]
    · rw [if_neg c2, if_neg (by omega)]
/-- Ascending in the distances f, from 0 to b. -/
def SrtI (f : Int → Int) (x : List Int) (b : Nat) : Prop := ∀ p q : Nat, p < q → q < b → f (rd x p) ≤ f (rd x q)
def InvI (f : Int → Int) (x : List Int) (i j : Nat) : Prop := ∀ p q : Nat, p < q → q ≤ i → q ≠ j → f (rd x p) ≤ f (rd x q)
theorem insI_inner {n : Int} (o : List Int) (hn : n ≤ 10) (ho : Dok n o) (i : Nat) : ∀ (j k : Nat) (x : List Int), j ≤ i → i < x.length → x.length ≤ 60 → (∀ w ∈ x, Node n w) → j < k → InvI (rd o) x i j →
    ∃ y k', k ≤ k' + j + 1 ∧ y.Perm x ∧ SrtI (rd o) y (i + 1) ∧ slices_insertionSortCmpFunc_int.l1 k x 0 x.length i j [o] = slices_insertionSortCmpFunc_int.l0 k' y 0 x.length ((i + 1 : Nat) : Int) [o] := by
  have h0 : rd_L3 [o] 0 = o := rfl
  intro j
  induction j with
  | zero =>
    intro k x hji hi hl hx hk hI
    obtain ⟨k, rfl⟩ : ∃ m, k = m + 1 := ⟨k - 1, by omega⟩
    refine ⟨x, k, by omega, List.Perm.refl _, fun p q h1 h2 => hI p q h1 (by omega) (by omega), ?_⟩
    simp only [slices_insertionSortCmpFunc_int.l1]
    rw [if_neg (by omega), w64 (by omega) (by omega)]
    rfl
  | succ j ih =>
    intro k x hji hi hl hx hk hI
    obtain ⟨k, rfl⟩ : ∃ m, k = m + 1 := ⟨k - 1, by omega⟩
    have e1 := Aside0.mk (show wrap64 (((j + 1 : Nat) : Int) - 1) = (j : Int) from by rw [w64 (by omega) (by omega)]; omega)
    have n1 := hx _ (rd_mem (o := x) (i := (j : Int)) (by omega) (by omega))
    have n2 := hx _ (rd_mem (o := x) (i := ((j + 1 : Nat) : Int)) (by omega) (by omega))
    unfold Node at n1 n2
    have lo := ho.1
    have k1 := ho.2 _ (rd_mem (o := o) (i := rd x (j : Int)) n1.1 (by omega))
    have k2 := ho.2 _ (rd_mem (o := o) (i := rd x ((j + 1 : Nat) : Int)) n2.1 (by omega))
    have ec : impl_CountWays_1.f (rd x ((j + 1 : Nat) : Int)) (rd x (j : Int)) [o] = some (rd o (rd x ((j + 1 : Nat) : Int)) - rd o (rd x (j : Int))) := by
      unfold impl_CountWays_1.f
      rw [h0, if_pos (by simp), if_pos n2.1, if_pos (by omega), if_pos n1.1, if_pos (by omega), w64 (by omega) (by omega)]
    simp only [slices_insertionSortCmpFunc_int.l1]
    rw [e1.out, if_pos (by omega), if_pos (by omega), if_pos (by omega), if_pos (by omega), if_pos (by omega), ec]
    simp only [Option.bind_some, Int.toNat_natCast]
    by_cases c : rd o (rd x ((j + 1 : Nat) : Int)) < rd o (rd x (j : Int))
    · rw [if_pos (by omega)]
      have hm := swI_perm (x := x) (i := j + 1) (j := j) (by omega) (by omega)
      have r := rd_swI (x := x) (i := j + 1) (j := j) (by omega) (by omega)
      obtain ⟨y, k', q1, q2, q3, q4⟩ := ih k (swI x (j + 1) j) (by omega) (by rw [hm.length_eq]; exact hi) (by rw [hm.length_eq]; exact hl) (fun w hw => hx w (hm.mem_iff.1 hw)) (by omega) (fun p q h2 h3 h4 => by
        rw [r p, r q, if_neg (by omega : ¬ j = q)]
        by_cases cq : j + 1 = q
        · rw [if_pos cq]
          by_cases cp : j = p
          · rw [if_pos cp]; omega
          · rw [if_neg cp, if_neg (by omega)]
            exact hI p j (by omega) (by omega) (by omega)
        · rw [if_neg cq]
          by_cases cp : j = p
          · rw [if_pos cp]
            exact hI (j + 1) q (by omega) h3 (by omega)
          · rw [if_neg cp]
            by_cases cp2 : j + 1 = p
            · rw [if_pos cp2]
              exact hI j q (by omega) h3 (by omega)
            · rw [if_neg cp2]
              exact hI p q h2 h3 (by omega))
      rw [hm.length_eq] at q4
      exact ⟨y, k', by omega, q2.trans hm, q3, q4⟩
    · rw [if_neg (by omega)]
      refine ⟨x, k, by omega, List.Perm.refl _, fun p q h2 h3 => ?_, by rw [w64 (by omega) (by omega)]; rfl⟩
      by_cases cq : q = j + 1
      · subst cq
        by_cases cp : p = j
        · subst cp; omega
        · have := hI p j (by omega) (by omega) (by omega)
          omega
      · exact hI p q h2 (by omega) cq
theorem insI_outer {n : Int} (o : List Int) (hn : n ≤ 10) (ho : Dok n o) : ∀ (d k i : Nat) (x : List Int), i + d = x.length → x.length ≤ 60 → (∀ w ∈ x, Node n w) → d * (x.length + 3) + 1 < k → SrtI (rd o) x i →
    ∃ y, y.Perm x ∧ SrtI (rd o) y x.length ∧ slices_insertionSortCmpFunc_int.l0 k x 0 x.length i [o] = some y := by
  intro d
  induction d with
  | zero =>
    intro k i x hi hl hx hk hS
    obtain ⟨k, rfl⟩ : ∃ m, k = m + 1 := ⟨k - 1, by omega⟩
    obtain rfl : i = x.length := by omega
    simp only [slices_insertionSortCmpFunc_int.l0]
    rw [if_neg (by omega)]
    exact ⟨x, List.Perm.refl _, hS, rfl⟩
  | succ d ih =>
    intro k i x hi hl hx hk hS
    obtain ⟨k, rfl⟩ : ∃ m, k = m + 1 := ⟨k - 1, by omega⟩
    have hk2 : d * (x.length + 3) + (x.length + 3) + 1 < k + 1 := by rw [Nat.succ_mul] at hk; exact hk
    simp only [slices_insertionSortCmpFunc_int.l0]
    rw [if_pos (by omega)]
    obtain ⟨y, k', q1, q2, q3, q4⟩ := insI_inner o hn ho i i k x (Nat.le_refl _) (by omega) hl hx (by omega) (fun p q h1 h2 h3 => hS p q h1 (by omega))
    have le := q2.length_eq
    obtain ⟨z, z1, z2, z3⟩ := ih k' (i + 1) y (by omega) (by omega) (fun w hw => hx w (q2.mem_iff.1 hw)) (by rw [le]; omega) q3
    rw [le] at z2 z3
    exact ⟨z, z1.trans q2, z2, by rw [q4, z3]⟩
theorem u64k {n : Int} (h0 : 0 ≤ n) (h1 : n < 18446744073709551616) : IntKind.u64.wrap n = n := by
  have e : IntKind.u64.wrap n = n % 18446744073709551616 := rfl
  rw [e]; omega
theorem bits_Len_ok (a : Int) (h0 : 0 ≤ a) (h : a ≤ 60) (k : Nat) (hk : 3 < k) : ∃ b, bits_Len.f k a = some b := by
  obtain ⟨k, rfl⟩ : ∃ m, k = m + 4 := ⟨k - 4, by omega⟩
  unfold bits_Len.f bits_Len64.f
  rw [if_neg (by omega)]
  exact ⟨_, congrArg (fun o => Option.bind o fun t255 => some t255) ((if_neg (show ¬ a ≥ 65536 by omega)).trans ((if_neg (show ¬ a ≥ 256 by omega)).trans ((if_pos (show 0 ≤ a % 256 by omega)).trans (if_pos (show a % 256 < 256 by omega)))))⟩
theorem pdqI {x : List Int} {o : List Int} {b : Int} (hl : x.length ≤ 10) (k : Nat) : slices_pdqsortCmpFunc_int.f (k + 2) x 0 x.length b [o] = slices_insertionSortCmpFunc_int.l0 k x 0 x.length ((1 : Nat) : Int) [o] := by
  have e1 : wrap64 (0 + 1) = ((1 : Nat) : Int) := by rw [w64 (by omega) (by omega)]; rfl
  have c : wrap64 ((x.length : Int) - 0) ≤ 12 := by rw [w64 (by omega) (by omega)]; omega
  simp only [slices_pdqsortCmpFunc_int.f, slices_pdqsortCmpFunc_int.l0]
  rw [if_pos c]
  unfold slices_insertionSortCmpFunc_int.f
  rw [e1]
  cases slices_insertionSortCmpFunc_int.l0 k x 0 x.length ((1 : Nat) : Int) [o] <;> rfl
theorem sfI {x : List Int} {o : List Int} {k : Nat} {b : Int} {r : Option (List Int)} (h1 : bits_Len.f k (IntKind.u64.wrap (x.length : Int)) = some b) (h2 : slices_pdqsortCmpFunc_int.f k x 0 x.length b [o] = r) : slices_SortFunc_int_int.f k x [o] = r := by
  unfold slices_SortFunc_int_int.f
  rw [h1, Option.bind_some, h2]
  cases r <;> rfl
theorem sortI {n : Int} (o : List Int) (hn : n ≤ 10) (ho : Dok n o) {x : List Int} (hl : x.length ≤ 10) (hx : ∀ w ∈ x, Node n w) {k : Nat} (hk : 200 < k) : ∃ y, y.Perm x ∧ SrtI (rd o) y x.length ∧ slices_SortFunc_int_int.f k x [o] = some y := by
  obtain ⟨k, rfl⟩ : ∃ m, k = m + 2 := ⟨k - 2, by omega⟩
  have e : IntKind.u64.wrap (x.length : Int) = x.length := u64k (by omega) (by omega)
  obtain ⟨b, hb⟩ := bits_Len_ok (x.length : Int) (by omega) (by omega) (k + 2) (by omega)
  rw [← e] at hb
  have key : ∃ y, y.Perm x ∧ SrtI (rd o) y x.length ∧ slices_insertionSortCmpFunc_int.l0 k x 0 x.length ((1 : Nat) : Int) [o] = some y := by
    by_cases c : x.length = 0
    · obtain ⟨k, rfl⟩ : ∃ m, k = m + 1 := ⟨k - 1, by omega⟩
      refine ⟨x, List.Perm.refl _, fun p q h1 h2 => by omega, ?_⟩
      simp only [slices_insertionSortCmpFunc_int.l0]
      rw [if_neg (by omega)]
    · have hm : (x.length - 1) * (x.length + 3) ≤ 9 * 13 := Nat.mul_le_mul (by omega) (by omega)
      exact insI_outer o hn ho (x.length - 1) k 1 x (by omega) (by omega) hx (by omega) (fun p q h1 h2 => by omega)
  obtain ⟨y, y1, y2, y3⟩ := key
  exact ⟨y, y1, y2, sfI hb ((pdqI hl k).trans y3)⟩
/-- A finite distance is small. -/
theorem D_small {n : Int} {t : List S76} (g : Gok n t) {y : Int} (hy : Node n y) : ∀ (N : Nat) (x : Int), (D n t x y).toNat ≤ N → Node n x → D n t x y < 1000000 → D n t x y ≤ 1000 * (((List.range n.toNat).filter fun (j : Nat) => decide (D n t j y < D n t x y)).length : Int) := by
  intro N
  induction N with
  | zero =>
    intro x hN hx hf
    omega
  | succ N ih =>
    intro x hN hx hf
    by_cases c : x = y
    · subst c
      have := D_self g hx
      omega
    · obtain ⟨z, hz⟩ := hop_ex g hx hy c hf
      obtain ⟨z1, z2, z3⟩ := hop_lt g hz
      obtain ⟨e, he, e1, e2, e3⟩ := mem_hops.1 hz
      obtain ⟨_, _, _, a4, a5⟩ := g.mem he
      have d0 := (D_lim g z hy).1
      have q := ih z (by omega) z1 (by omega)
      have l := filter_lt' (fun (j : Nat) => decide (D n t j y < D n t z y)) (fun (j : Nat) => decide (D n t j y < D n t x y)) (List.range n.toNat) (fun a _ h => decide_eq_true (by have := of_decide_eq_true h; omega)) ⟨z.toNat, List.mem_range.2 (by unfold Node at z1; omega), by
        have ez : ((z.toNat : Nat) : Int) = z := by unfold Node at z1; omega
        refine ⟨decide_eq_true (by rw [ez]; exact z2), fun h => ?_⟩
        have := of_decide_eq_true h
        rw [ez] at this
        omega⟩
      generalize ((List.range n.toNat).filter fun (j : Nat) => decide (D n t j y < D n t z y)).length = A at q l
      generalize ((List.range n.toNat).filter fun (j : Nat) => decide (D n t j y < D n t x y)).length = B at l ⊢
      omega
theorem D_10 {n : Int} {t : List S76} (g : Gok n t) {x y : Int} (hx : Node n x) (hy : Node n y) (h : D n t x y < 1000000) : D n t x y ≤ 10000 := by
  have q := D_small g hy _ x (Nat.le_refl _) hx h
  have l : ((List.range n.toNat).filter fun (j : Nat) => decide (D n t j y < D n t x y)).length ≤ (List.range n.toNat).length := List.length_filter_le ..
  rw [List.length_range] at l
  have hn := g.1
  omega
/-- Nothing is counted where nothing arrives. -/
theorem pw_far {n : Int} {t : List S76} (g : Gok n t) {x y : Int} (hx : Node n x) {P : List Int} (hP : ∀ w ∈ P, D n t x w < 1000000) (h : ¬ D n t x y < 1000000) : pw n t x P y = 0 := by
  have c : ¬ x = y := fun c => by
    rw [← c, D_self g hx] at h
    omega
  have z := sm_congr (f := fun e : S76 => if (e.f1 = y ∧ D n t x e.f0 + e.f2 = D n t x y) ∧ e.f0 ∈ P then fw n t x e.f0 else 0) (h := fun _ => 0) t (fun e he => by
    refine if_neg (fun q => ?_)
    obtain ⟨a1, _, _, a4, a5⟩ := g.mem he
    have d := D_10 g hx a1 (hP _ q.2)
    have := q.1.2
    omega)
  unfold pw
  rw [z, sm_zero, if_neg c]
  rfl
def reach (n : Int) (t : List S76) (x : Int) (i d : Nat) : List Int := ((List.range' i d).map fun (j : Nat) => (j : Int)).filter fun v => decide (D n t x v < 1000000)
theorem reach_cons (n : Int) (t : List S76) (x : Int) (i d : Nat) : reach n t x i (d + 1) = if D n t x i < 1000000 then (i : Int) :: reach n t x (i + 1) d else reach n t x (i + 1) d := by
  unfold reach
  rw [List.range'_succ, List.map_cons, List.filter_cons]
  by_cases c : D n t x i < 1000000
  · rw [if_pos (decide_eq_true c), if_pos c]
  · rw [if_neg (fun h => c (of_decide_eq_true h)), if_neg c]
theorem reach_len (n : Int) (t : List S76) (x : Int) (i d : Nat) : (reach n t x i d).length ≤ d := by
  have l : (reach n t x i d).length ≤ _ := List.length_filter_le ..
  rw [List.length_map, List.length_range'] at l
  exact l
theorem mem_reach {n : Int} {t : List S76} {x w : Int} {d : Nat} : w ∈ reach n t x 0 d ↔ (0 ≤ w ∧ w < d) ∧ D n t x w < 1000000 := by
  unfold reach
  rw [List.mem_filter, List.mem_map]
  constructor
  · rintro ⟨⟨j, hj, rfl⟩, h⟩
    have := List.mem_range'.1 hj
    obtain ⟨i, hi, rfl⟩ := this
    exact ⟨⟨by omega, by omega⟩, of_decide_eq_true h⟩
  · rintro ⟨⟨h1, h2⟩, h⟩
    exact ⟨⟨w.toNat, List.mem_range'.2 ⟨w.toNat, by omega, by omega⟩, by omega⟩, decide_eq_true h⟩
theorem reach_nodup (n : Int) (t : List S76) (x : Int) (i d : Nat) : (reach n t x i d).Nodup := by
  unfold reach
  refine List.Pairwise.filter _ (List.pairwise_map.2 ?_)
  exact List.Pairwise.imp (fun h e => by omega) (List.pairwise_lt_range' (s := i) (n := d))
theorem cw_l0 {n : Int} {t : List S76} (g : Gok n t) {x y : Int} (k : Nat) : ∀ (d i K : Nat) (acc : List Int), (i : Int) + d = n → K = k + d → acc.length ≤ i → impl_CountWays.l0 K x y acc n i n t (dist n t x) = impl_CountWays.l0 k x y (acc ++ reach n t x i d) n n n t (dist n t x) := by
  have hn := g.1
  have hd := (dist_ok g x).1
  intro d
  induction d with
  | zero =>
    intro i K acc hi hK ha
    subst hK
    have e : (i : Int) = n := by omega
    have e2 : reach n t x i 0 = [] := rfl
    rw [e, e2, List.append_nil]
  | succ d ih =>
    intro i K acc hi hK ha
    obtain ⟨K, rfl⟩ : ∃ m, K = m + 1 := ⟨K - 1, by omega⟩
    have e1 : (i : Int) + 1 = ((i + 1 : Nat) : Int) := by omega
    have er : rd (dist n t x) i = D n t x i := rfl
    simp only [impl_CountWays.l0]
    rw [if_pos (by omega), if_pos (by omega), if_pos (by omega), w64 (n := (i : Int) + 1) (by omega) (by omega), e1, er, reach_cons]
    by_cases c : D n t x i < 1000000
    · rw [if_pos c, if_pos c, if_pos (by omega), ih (i + 1) K (acc ++ [(i : Int)]) (by omega) (by omega) (by rw [List.length_append, List.length_singleton]; omega), List.append_assoc]
      rfl
    · rw [if_neg c, if_neg c, ih (i + 1) K acc (by omega) (by omega) (by omega)]
theorem nodup_take {l : List Int} (h : l.Nodup) {i : Nat} (hi : i < l.length) : l[i] ∉ l.take i := by
  intro m
  obtain ⟨j, hj, e⟩ := List.mem_take_iff_getElem.1 m
  exact List.pairwise_iff_getElem.1 h j i (by omega) hi (by omega) e
theorem mem_take' {l : List Int} {p i : Nat} (hp : p < l.length) (h : p < i) : l[p] ∈ l.take i := List.mem_take_iff_getElem.2 ⟨p, by omega, rfl⟩
/-- The order of the nodes is one that cw_outer asks for. -/
theorem order_ok {n : Int} {t : List S76} {x : Int} {ys : List Int} (hp : ys.Perm (reach n t x 0 n.toNat)) (hs : SrtI (rd (dist n t x)) ys ys.length) : (∀ w ∈ ys, Node n w ∧ D n t x w < 1000000) ∧ (∀ w, Node n w → D n t x w < 1000000 → w ∈ ys) ∧ ∀ i, i < ys.length → (∀ w, Node n w → D n t x w < D n t x (rd ys i) → w ∈ ys.take i) ∧ rd ys i ∉ ys.take i := by
  have m1 : ∀ w ∈ ys, Node n w ∧ D n t x w < 1000000 := fun w hw => by
    obtain ⟨⟨a, b⟩, c⟩ := mem_reach.1 (hp.mem_iff.1 hw)
    refine ⟨?_, c⟩
    unfold Node
    omega
  have m2 : ∀ w, Node n w → D n t x w < 1000000 → w ∈ ys := fun w hw h => hp.mem_iff.2 (mem_reach.2 ⟨by unfold Node at hw; omega, h⟩)
  refine ⟨m1, m2, fun i hi => ?_⟩
  have ei : rd ys i = ys[i] := rd_nat hi
  refine ⟨fun w hw h => ?_, by rw [ei]; exact nodup_take (hp.nodup_iff.2 (reach_nodup ..)) hi⟩
  have d := (m1 _ (rd_mem (o := ys) (i := (i : Int)) (by omega) (by omega))).2
  have mw := m2 w hw (by omega)
  obtain ⟨p, hpl, e⟩ := List.mem_iff_getElem.1 mw
  by_cases c : p < i
  · rw [← e]
    exact mem_take' hpl c
  · have ep : rd ys p = w := by rw [rd_nat hpl]; exact e
    by_cases c2 : p = i
    · rw [← ep, c2] at h
      omega
    · have q := hs i p (by omega) hpl
      rw [ep] at q
      have q' : D n t x (rd ys i) ≤ D n t x w := q
      omega
theorem impl_CW {n : Int} {t : List S76} (g : Gok n t) {x y : Int} (hx : Node n x) (hy : Node n y) {k : Nat} (hk : t.length * 12 + 1000 < k) : impl_CountWays.l0 k x y [] n 0 n t (dist n t x) = some (if D n t x y < 1000000 then ways n t y x else 0) := by
  have hn := g.1
  have hl : t.length ≤ 60 := g.2.1
  have hx2 := hx
  unfold Node at hx2
  have e0 : ((0 : Nat) : Int) = 0 := rfl
  obtain ⟨k, rfl⟩ : ∃ m, k = (m + 1) + n.toNat := ⟨k - n.toNat - 1, by omega⟩
  have z := cw_l0 g (x := x) (y := y) (k + 1) n.toNat 0 (k + 1 + n.toNat) [] (by omega) rfl (Nat.le_refl _)
  rw [e0, List.nil_append] at z
  rw [z]
  have rl := reach_len n t x 0 n.toNat
  obtain ⟨ys, y1, y2, y3⟩ := sortI (dist n t x) hn.2 (dist_ok g x) (x := reach n t x 0 n.toNat) (by omega) (fun w hw => by
    obtain ⟨⟨a, b⟩, c⟩ := mem_reach.1 hw
    unfold Node
    omega) (k := k) (by omega)
  have le := y1.length_eq
  rw [← le] at y2
  obtain ⟨m1, m2, m3⟩ := order_ok y1 y2
  simp only [impl_CountWays.l0]
  rw [if_neg (by omega), y3]
  simp only [Option.bind_some]
  rw [if_pos (by omega), if_pos (by omega), if_pos hx2.1, List.length_replicate, if_pos (by omega), ← le]
  have hmul : ys.length * (t.length + 2) ≤ 10 * (t.length + 2) := Nat.mul_le_mul_right _ (by omega)
  have st : ∀ v, Node n v → rd ((List.replicate n.toNat 0).set x.toNat 1) v = pw n t x (ys.take 0) v := fun v hv => by
    have hv2 := hv
    unfold Node at hv2
    rw [List.take_zero, pw_nil, rdn_set 1 hx2.1 (by rw [List.length_replicate]; omega) hv2.1]
    by_cases c : x = v
    · rw [if_pos c, if_pos c]
    · rw [if_neg c, if_neg c, rd_rep' hv2.1 (by omega)]
  have o := cw_outer g hx hy ys (by omega) m1 m3 ys.length k 0 ((List.replicate n.toNat 0).set x.toNat 1) (by omega) (by omega) (by rw [List.length_set, List.length_replicate]; omega) st
  rw [e0] at o
  rw [o]
  by_cases c : D n t x y < 1000000
  · rw [if_pos c, pw_fw g hx hy c (fun w hw h => m2 w hw (by omega)), fw_ways g hx hy c]
  · rw [if_neg c, pw_far g hx (fun w hw => (m1 w hw).2) c]
theorem both_CountC (n : Int) {t : List S76} (h : t.length ≤ 1048576) (x y : Int) : ∃ r : Int, (Gok n t ∧ Node n x ∧ Node n y → r = if D n t x y < 1000000 then ways n t y x else 0) ∧ (¬ (Gok n t ∧ Node n x ∧ Node n y) → r = -1) ∧ ∀ k, t.length * 20 + 2500 < k → spec_CountWays.f k n t x y = some r ∧ impl_CountWays.f k n t x y = some r := by
  by_cases c : Gok n t ∧ Node n x ∧ Node n y
  · obtain ⟨g, hx, hy⟩ := c
    have hn := g.1
    have hx2 := hx
    unfold Node at hx2
    refine ⟨if D n t x y < 1000000 then ways n t y x else 0, (fun _ => rfl), (fun z => absurd ⟨g, hx, hy⟩ z), fun k hk => ?_⟩
    obtain ⟨k, rfl⟩ : ∃ m, k = m + 1 := ⟨k - 1, by omega⟩
    obtain ⟨b0, h1, h2, h3⟩ := both_Gok n (t := t) h (k := k + 1) (by omega)
    refine ⟨?_, ?_⟩
    · obtain ⟨S, W, F, e⟩ := spec_Steps g hy (k := k + 1) (by omega)
      have l2 := F.2.1
      have f := F.2.2 x hx
      unfold spec_CountWays.f
      rw [h1]
      simp only [Option.bind_some]
      rw [if_pos (h3.2 g), spec_Node hn, spec_Node hn, decide_eq_true hx, decide_eq_true hy]
      simp only [Option.bind_some, if_true]
      rw [e]
      simp only [Option.bind_some]
      rw [if_pos hx2.1, if_pos (by omega)]
      by_cases d : D n t x y < 1000000
      · rw [if_pos d, (f.1 d).2]
      · rw [if_neg d, (f.2.1 d).2]
    · unfold impl_CountWays.f
      rw [h2]
      simp only [Option.bind_some]
      rw [if_pos (h3.2 g), impl_Node hn, impl_Node hn, decide_eq_true hx, decide_eq_true hy]
      simp only [Option.bind_some, if_true, Bool.not_true, impl_CountWays.j0]
      rw [if_neg (by decide), impl_dist g hx (by omega)]
      simp only [Option.bind_some]
      exact impl_CW g hx hy (by omega)
  · refine ⟨-1, (fun z => absurd z c), (fun _ => rfl), fun k hk => ?_⟩
    obtain ⟨k, rfl⟩ : ∃ m, k = m + 1 := ⟨k - 1, by omega⟩
    obtain ⟨b0, h1, h2, h3⟩ := both_Gok n (t := t) h (k := k + 1) (by omega)
    unfold spec_CountWays.f impl_CountWays.f
    rw [h1, h2]
    simp only [Option.bind_some]
    by_cases d : b0 = true
    · have g := h3.1 d
      have hn := g.1
      rw [if_pos d, if_pos d, spec_Node hn, spec_Node hn, impl_Node hn, impl_Node hn]
      simp only [Option.bind_some]
      by_cases d1 : Node n x
      · have d2 : ¬ Node n y := fun d2 => c ⟨g, d1, d2⟩
        simp [d1, d2, impl_CountWays.j0]
      · simp [d1, impl_CountWays.j0]
    · rw [if_neg d, if_neg d]
      simp [impl_CountWays.j0]
/-- The cost of a way from a node on, -1 where it does not exist. -/
def wgo (n : Int) (t : List S76) : Int → Int → List Int → Int
  | _, s, [] => s
  | p, s, x :: r => if x = p then -1 else if gcost n t p x = 1000000 then -1 else wgo n t x (s + gcost n t p x) r
theorem impl_wayw {n : Int} {t : List S76} (g : Gok n t) (w : List Int) (hw : w.length ≤ 300) : ∀ (d k i : Nat) (s : Int), 0 < i → i + d = w.length → d + t.length + 2 < k → 0 ≤ s → s ≤ 1000 * i →
    impl_WayCost.l0 k w s i n t = some (wgo n t (rd w ((i : Int) - 1)) s (w.drop i)) := by
  have hl : t.length ≤ 60 := g.2.1
  intro d
  induction d with
  | zero =>
    intro k i s h0 hi hk hs hs2
    obtain ⟨k, rfl⟩ : ∃ m, k = m + 1 := ⟨k - 1, by omega⟩
    obtain rfl : i = w.length := by omega
    simp only [impl_WayCost.l0]
    rw [if_neg (by omega), List.drop_length]; rfl
  | succ d ih =>
    intro k i s h0 hi hk hs hs2
    obtain ⟨k, rfl⟩ : ∃ m, k = m + 1 := ⟨k - 1, by omega⟩
    have hil : i < w.length := by omega
    simp only [impl_WayCost.l0]
    rw [w64 (n := (i : Int) - 1) (by omega) (by omega), if_pos (by omega), if_pos (by omega), if_pos (by omega), if_pos (by omega), impl_Cost g _ _ (by omega), drop_getD w 0 hil, ← rd_getI]
    simp only [Option.bind_some, wgo]
    by_cases c2 : rd w (i : Int) = rd w ((i : Int) - 1)
    · rw [if_pos c2, if_pos c2]
      split <;> rfl
    · rw [if_neg c2, if_neg c2]
      by_cases c3 : gcost n t (rd w ((i : Int) - 1)) (rd w (i : Int)) = 1000000
      · rw [if_pos c3, if_pos c3]
      · have lim := gcost_lim g (rd w ((i : Int) - 1)) (rd w (i : Int))
        have e1 : (i : Int) + 1 = ((i + 1 : Nat) : Int) := by omega
        have e2 : ((i + 1 : Nat) : Int) - 1 = (i : Int) := by omega
        rw [if_neg c3, if_neg c3, w64 (by omega) (by omega), w64 (by omega) (by omega), e1, ih k (i + 1) _ (by omega) (by omega) (by omega) (by omega) (by omega), e2]
/-- A node lies on a shortest path. -/
def OnW (n : Int) (t : List S76) (x y z : Int) : Prop := D n t x y < 1000000 ∧ D n t x z + D n t z y = D n t x y
instance (n : Int) (t : List S76) (x y z : Int) : Decidable (OnW n t x y z) := by unfold OnW; infer_instance
theorem impl_onw {n : Int} {t : List S76} (g : Gok n t) {x y z : Int} (hx : Node n x) (hy : Node n y) (hz : Node n z) : impl_onWay.f (allD n t) x y z = some (decide (OnW n t x y z)) := by
  have hn := g.1
  have la := allD_len hn t
  have lx := (dist_ok g x).1
  have lz := (dist_ok g z).1
  have d1 := D_lim g x hz
  have d2 := D_lim g z hy
  have a := hx; have b := hy; have c := hz
  unfold Node at a b c
  unfold impl_onWay.f
  rw [allD_rd t hx, allD_rd t hz, if_pos a.1, if_pos (by omega), if_pos b.1, if_pos (by omega)]
  by_cases e : D n t x y < 1000000
  · have e' : rd (dist n t x) y < 1000000 := e
    rw [if_pos e', if_pos c.1, if_pos (by omega), if_pos (by omega), if_pos (by omega)]
    have w : wrap64 (rd (dist n t x) z + rd (dist n t z) y) = D n t x z + D n t z y := w64 (by unfold D at d1 d2; omega) (by unfold D at d1 d2; omega)
    rw [w]
    congr 1
    rw [Bool.eq_iff_iff, beq_iff_eq, decide_eq_true_eq]
    exact ⟨fun h => ⟨e, h⟩, fun h => h.2⟩
  · have e' : ¬ rd (dist n t x) y < 1000000 := e
    rw [if_neg e', decide_eq_false (fun h => e h.1)]
theorem and255 (x : Int) : 0 ≤ Go.bits .and .i64 x 255 ∧ Go.bits .and .i64 x 255 ≤ 255 := by
  have e : Go.bits .and .i64 x 255 = IntKind.i64.wrap (((BitVec.ofInt 64 x).toNat &&& (BitVec.ofInt 64 255).toNat : Nat) : Int) := by
    simp only [Go.bits]
    rw [← BitVec.toNat_and]
    rfl
  have h : (BitVec.ofInt 64 x).toNat &&& (BitVec.ofInt 64 255).toNat ≤ 255 := Nat.and_le_right
  generalize (BitVec.ofInt 64 x).toNat &&& (BitVec.ofInt 64 255).toNat = m at e h
  rw [e, IntKind.wrap_i64]
  omega
theorem byte_ok (b : List Int) {i : Int} (h : Int) (hi : 0 ≤ i) (hb : b.length ≤ 1048576) : ∃ r i' h', spec_l01Byte.f b i h = some (r, i', h') ∧ (0 ≤ r ∧ r ≤ 255) ∧ 0 ≤ i' := by
  unfold spec_l01Byte.f
  by_cases c : i < (b.length : Int)
  · rw [if_pos c, if_pos hi]
    exact ⟨_, _, _, rfl, and255 _, by rw [w64 (by omega) (by omega)]; omega⟩
  · rw [if_neg c]
    exact ⟨_, _, _, rfl, and255 _, hi⟩
theorem tmod_ok {a n : Int} (h0 : 0 ≤ a) (h1 : 0 < n) : 0 ≤ Int.tmod a n ∧ Int.tmod a n < n := by
  rw [Int.tmod_eq_emod_of_nonneg h0]
  exact ⟨Int.emod_nonneg _ (by omega), Int.emod_lt_of_pos _ h1⟩
theorem below_ok (b : List Int) {i : Int} (h : Int) (hi : 0 ≤ i) (hb : b.length ≤ 1048576) (n : Int) : ∃ r i' h', spec_l01Below.f b i h n = some (r, i', h') ∧ 0 ≤ i' ∧ 0 ≤ r ∧ (0 < n → r < n) ∧ (n ≤ 0 → r = 0) := by
  unfold spec_l01Below.f
  by_cases c : n ≤ 0
  · rw [if_pos c]
    exact ⟨_, _, _, rfl, hi, Int.le_refl _, fun h => by omega, fun _ => rfl⟩
  · rw [if_neg c]
    obtain ⟨r1, i1, h1, e1, p1, q1⟩ := byte_ok b h hi hb
    rw [e1]
    simp only [Option.bind_some]
    by_cases c2 : n ≤ 256
    · rw [if_pos c2, if_neg (by omega)]
      have z := tmod_ok p1.1 (show 0 < n by omega)
      exact ⟨_, _, _, rfl, q1, z.1, fun _ => z.2, fun h => by omega⟩
    · rw [if_neg c2]
      obtain ⟨r2, i2, h2, e2, p2, q2⟩ := byte_ok b h1 q1 hb
      rw [e2]
      simp only [Option.bind_some]
      obtain ⟨r3, i3, h3, e3, p3, q3⟩ := byte_ok b h2 q2 hb
      rw [e3]
      simp only [Option.bind_some]
      have z := tmod_ok (a := r1 * 65536 + r2 * 256 + r3) (by omega) (show 0 < n by omega)
      rw [if_neg (by omega), w64 (n := r1 * 65536) (by omega) (by omega), w64 (n := r2 * 256) (by omega) (by omega), w64 (n := r1 * 65536 + r2 * 256) (by omega) (by omega), w64 (n := r1 * 65536 + r2 * 256 + r3) (by omega) (by omega)]
      exact ⟨_, _, _, rfl, q3, z.1, fun _ => z.2, fun h => by omega⟩
theorem pick_ok (b : List Int) {i : Int} (h : Int) (hi : 0 ≤ i) (hb : b.length ≤ 1048576) {l : List Int} (hl : 0 < l.length) : ∃ r i' h', spec_l01PickInt.f b i h l = some (r, i', h') ∧ 0 ≤ i' ∧ r ∈ l := by
  unfold spec_l01PickInt.f
  obtain ⟨r, i', h', e, p, q0, q, -⟩ := below_ok b h hi hb (l.length : Int)
  rw [e]
  simp only [Option.bind_some]
  have q1 := q (by omega)
  rw [if_pos q0, if_pos q1]
  exact ⟨_, _, _, rfl, p, rd_mem q0 q1⟩
theorem once_ok (b : List Int) {i : Int} (h : Int) (hi : 0 ≤ i) (hb : b.length ≤ 1048576) (n : Int) : ∃ r i' h', spec_l01Once.f b i h n = some (r, i', h') ∧ 0 ≤ i' := by
  unfold spec_l01Once.f
  obtain ⟨r, i', h', e, p, -⟩ := below_ok b h hi hb n
  rw [e]
  simp only [Option.bind_some]
  exact ⟨_, _, _, rfl, p⟩
theorem new_ok {l : List Int} (hl : l.length ≤ 1048576) {k : Nat} (hk : 4001 < k) : ∃ h, spec_l01New.f k l = some (l, 0, h) := by
  have key : ∀ (d i k : Nat) (x : Int), i + d = 4000 → d < k → ∃ h, spec_l01New.l0 k l x i = some (l, 0, h) := by
    intro d
    induction d with
    | zero =>
      intro i k x hi hk
      obtain ⟨k, rfl⟩ : ∃ m, k = m + 1 := ⟨k - 1, by omega⟩
      simp only [spec_l01New.l0]
      rw [if_neg (c := (i : Int) < 4000) (by omega)]
      by_cases c : (i : Int) < (l.length : Int)
      · rw [if_pos c]; exact ⟨_, rfl⟩
      · rw [if_neg c]; exact ⟨_, rfl⟩
    | succ d ih =>
      intro i k x hi hk
      obtain ⟨k, rfl⟩ : ∃ m, k = m + 1 := ⟨k - 1, by omega⟩
      simp only [spec_l01New.l0]
      rw [if_pos (c := (i : Int) < 4000) (by omega)]
      by_cases c : (i : Int) < (l.length : Int)
      · rw [if_pos c, if_pos (by omega), wr1 (by omega)]
        exact ih (i + 1) k _ (by omega) (by omega)
      · rw [if_neg c]; exact ⟨_, rfl⟩
  exact key 4000 0 k _ (by omega) (by omega)
theorem size_ok {l : List Int} (hl : l.length ≤ 1048576) : ∃ s, spec_l01Size.f l 9 = some s ∧ 0 < s ∧ s ≤ 9 := by
  unfold spec_l01Size.f
  rw [w64 (n := (l.length : Int) / 16) (by omega) (by omega), w64 (n := 2 + (l.length : Int) / 16) (by omega) (by omega)]
  by_cases c : 2 + (l.length : Int) / 16 > 9
  · rw [if_pos c]; exact ⟨_, rfl, by omega, by omega⟩
  · rw [if_neg c]; exact ⟨_, rfl, by omega, by omega⟩
theorem put_ok {t : List S76} (ht : t.length ≤ 1000) (a b c : Int) {k : Nat} (hk : t.length * 2 + 1 < k) : ∃ out, spec_l03Put.f k t a b c = some out ∧ out.length ≤ t.length + 1 := by
  have key : ∀ (d i k : Nat) (acc : List S76) (p : Bool), i + d = t.length → acc.length ≤ 3 * i → d * 2 < k → ∃ out, spec_l03Put.l0 k t acc p i a b c = some out ∧ out.length ≤ acc.length + d + (if p = true then 0 else 1) := by
    intro d
    induction d with
    | zero =>
      intro i k acc p hi ha hk
      obtain ⟨k, rfl⟩ : ∃ m, k = m + 1 := ⟨k - 1, by omega⟩
      simp only [spec_l03Put.l0]
      rw [if_neg (by omega)]
      by_cases cp : p = true
      · rw [if_pos cp, if_pos cp]; exact ⟨_, rfl, by omega⟩
      · rw [if_neg cp, if_neg cp, if_pos (by omega)]
        exact ⟨_, rfl, by rw [List.length_append, List.length_singleton]; omega⟩
    | succ d ih =>
      intro i k acc p hi ha hk
      obtain ⟨k, rfl⟩ : ∃ m, k = m + 2 := ⟨k - 2, by omega⟩
      have one : ∀ (q : Bool) (e0 e1 e2 : Int), (q = true → p = false) → ∃ out, spec_l03Put.j1 (k + 1) t acc p i q a b c e0 e1 e2 = some out ∧ out.length ≤ acc.length + (d + 1) + (if p = true then 0 else 1) := by
        intro q e0 e1 e2 hq
        simp only [spec_l03Put.j1]
        rw [wr1 (by omega)]
        have last : ∀ (A : List S76) (p' : Bool), A.length ≤ acc.length + (if p' = true then (if p = true then 0 else 1) else 0) → (p = true → p' = true) → ∃ out, (if e0 = a then if e1 = b then spec_l03Put.l0 k t A p' ((i + 1 : Nat) : Int) a b c else if A.length < 5864062014805 then spec_l03Put.l0 k t (A ++ [(⟨e0, e1, e2⟩ : S76)]) p' ((i + 1 : Nat) : Int) a b c else none else if A.length < 5864062014805 then spec_l03Put.l0 k t (A ++ [(⟨e0, e1, e2⟩ : S76)]) p' ((i + 1 : Nat) : Int) a b c else none) = some out ∧ out.length ≤ acc.length + (d + 1) + (if p = true then 0 else 1) := by
          intro A p' hA hp'
          have hA2 : A.length ≤ acc.length + 1 := by
            revert hA
            cases p' <;> cases p <;> simp <;> omega
          have fin : ∀ (B : List S76), B.length ≤ A.length + 1 → ∃ out, spec_l03Put.l0 k t B p' ((i + 1 : Nat) : Int) a b c = some out ∧ out.length ≤ acc.length + (d + 1) + (if p = true then 0 else 1) := by
            intro B hB
            obtain ⟨out, o1, o2⟩ := ih (i + 1) k B p' (by omega) (by omega) (by omega)
            refine ⟨out, o1, ?_⟩
            revert o2 hA hp'
            cases p' <;> cases p <;> simp <;> omega
          have snoc := fin (A ++ [(⟨e0, e1, e2⟩ : S76)]) (by rw [List.length_append, List.length_singleton]; omega)
          rw [if_pos (c := A.length < 5864062014805) (by omega)]
          by_cases c1 : e0 = a
          · rw [if_pos c1]
            by_cases c2 : e1 = b
            · rw [if_pos c2]; exact fin A (by omega)
            · rw [if_neg c2]; exact snoc
          · rw [if_neg c1]; exact snoc
        cases q with
        | true =>
          have hp := hq rfl
          rw [if_pos rfl, if_pos (by omega)]
          simp only [Option.bind_some]
          exact last _ true (by rw [hp, List.length_append, List.length_singleton]; simp) (fun _ => rfl)
        | false =>
          rw [if_neg (by decide)]
          exact last acc p (by cases p <;> simp) (fun h => h)
      simp only [spec_l03Put.l0]
      rw [if_pos (by omega), if_pos (by omega)]
      cases p with
      | true => rw [if_pos rfl]; exact one false _ _ _ (fun h => by cases h)
      | false =>
        rw [if_neg (by decide)]
        split
        · exact one true _ _ _ (fun _ => rfl)
        · split
          · exact one _ _ _ _ (fun _ => rfl)
          · exact one false _ _ _ (fun _ => rfl)
  obtain ⟨out, o1, o2⟩ := key t.length 0 k [] false (by omega) (by simp) (by omega)
  exact ⟨out, o1, by simpa using o2⟩
theorem graph_ok {b : List Int} (hb : b.length ≤ 1048576) {x1 : Int} (hx : x1 ≤ 10) {n : Int} (hn : n ≤ 60) (m : Int) : ∀ (d i k : Nat) (s1 s2 : Int) (t : List S76), n ≤ (i : Int) + d → i ≤ 60 → 0 ≤ s1 → t.length ≤ 60 → d * 4 + 200 < k →
    ∃ out s1' s2', spec_l03DrawGraph.l0 k x1 n i b s1 s2 m t = some (m, out, s1', s2') ∧ out.length ≤ 60 ∧ 0 ≤ s1' := by
  intro d
  induction d with
  | zero =>
    intro i k s1 s2 t hi h60 hs ht hk
    obtain ⟨k, rfl⟩ : ∃ m, k = m + 2 := ⟨k - 2, by omega⟩
    simp only [spec_l03DrawGraph.l0]
    rw [if_neg (by omega)]
    simp only [spec_l03DrawGraph.j1]
    rw [if_neg (by decide)]
    exact ⟨_, _, _, rfl, ht, hs⟩
  | succ d ih =>
    intro i k s1 s2 t hi h60 hs ht hk
    obtain ⟨k, rfl⟩ : ∃ m, k = m + 4 := ⟨k - 4, by omega⟩
    simp only [spec_l03DrawGraph.l0]
    have stop : ∃ out s1' s2', spec_l03DrawGraph.j1 (k + 3) x1 n i false b s1 s2 m t = some (m, out, s1', s2') ∧ out.length ≤ 60 ∧ 0 ≤ s1' := by
      simp only [spec_l03DrawGraph.j1]
      rw [if_neg (by decide)]
      exact ⟨_, _, _, rfl, ht, hs⟩
    by_cases c : (i : Int) < n
    · rw [if_pos c]
      by_cases c1 : x1 > 1
      · rw [decide_eq_true c1]
        have go3 : ∀ (s1 s2 e0 e1 e2 : Int), 0 ≤ s1 → ∃ out s1' s2', spec_l03DrawGraph.j3 (k + 1) x1 n i b s1 s2 m t e0 e1 e2 = some (m, out, s1', s2') ∧ out.length ≤ 60 ∧ 0 ≤ s1' := by
          intro s1 s2 e0 e1 e2 hs
          have nx : ∀ (s1 s2 : Int) (u : List S76), 0 ≤ s1 → u.length ≤ 60 → ∃ out s1' s2', spec_l03DrawGraph.l0 k x1 n (wrap64 ((i : Int) + 1)) b s1 s2 m u = some (m, out, s1', s2') ∧ out.length ≤ 60 ∧ 0 ≤ s1' := fun s1 s2 u hs hu => by
            rw [wr1 (by omega)]; exact ih (i + 1) k s1 s2 u (by omega) (by omega) hs hu (by omega)
          simp only [spec_l03DrawGraph.j3]
          by_cases c2 : e0 = e1
          · rw [if_pos c2]; exact nx _ _ _ hs ht
          · rw [if_neg c2]
            by_cases c3 : (t.length : Int) < 59
            · rw [if_pos c3]
              obtain ⟨t1, p1, p2⟩ := put_ok (t := t) (by omega) e0 e1 e2 (k := k) (by omega)
              rw [p1]
              simp only [Option.bind_some]
              obtain ⟨r2, i2, h2, q2, w2, -⟩ := below_ok b s2 hs hb 4
              rw [q2]
              simp only [Option.bind_some]
              by_cases c4 : r2 > 0
              · rw [if_pos c4]
                obtain ⟨r3, i3, h3, q3, w3⟩ := once_ok b h2 w2 hb 4
                rw [q3]
                simp only [Option.bind_some]
                by_cases c5 : r3 = true
                · rw [if_pos c5]
                  obtain ⟨r4, i4, h4, q4, w4, -⟩ := below_ok b h3 w3 hb 6
                  rw [q4]
                  simp only [Option.bind_some]
                  obtain ⟨t2, p3, p4⟩ := put_ok (t := t1) (by omega) e1 e0 (wrap64 (1 + r4)) (k := k) (by omega)
                  rw [p3]
                  simp only [Option.bind_some]
                  exact nx _ _ _ w4 (by omega)
                · rw [if_neg c5]
                  obtain ⟨t2, p3, p4⟩ := put_ok (t := t1) (by omega) e1 e0 e2 (k := k) (by omega)
                  rw [p3]
                  simp only [Option.bind_some]
                  exact nx _ _ _ w3 (by omega)
              · rw [if_neg c4]
                exact nx _ _ _ w2 (by omega)
            · rw [if_neg c3]
              exact nx _ _ _ hs ht
        have go2 : ∀ (s1 s2 e0 e1 e2 : Int) (q : Bool), 0 ≤ s1 → ∃ out s1' s2', spec_l03DrawGraph.j2 (k + 2) x1 n i q b s1 s2 m t e0 e1 e2 = some (m, out, s1', s2') ∧ out.length ≤ 60 ∧ 0 ≤ s1' := by
          intro s1 s2 e0 e1 e2 q hs
          simp only [spec_l03DrawGraph.j2]
          by_cases cq : q = true
          · rw [if_pos cq]; exact go3 _ _ _ _ _ hs
          · rw [if_neg cq]; exact go3 _ _ _ _ _ hs
        simp only [spec_l03DrawGraph.j1]
        rw [if_pos trivial]
        obtain ⟨r1, i1, h1, q1, w1, -⟩ := below_ok b s2 hs hb x1
        rw [q1]
        simp only [Option.bind_some]
        obtain ⟨r2, i2, h2, q2, w2, -⟩ := below_ok b h1 w1 hb x1
        rw [q2]
        simp only [Option.bind_some]
        obtain ⟨r3, i3, h3, q3, w3, -⟩ := below_ok b h2 w2 hb 9
        rw [q3]
        simp only [Option.bind_some]
        obtain ⟨r4, i4, h4, q4, w4, -⟩ := pick_ok b h3 w3 hb (l := [1, 1, 2, 2, 3, 5, wrap64 (1 + r3), 1000]) (by simp)
        rw [q4]
        simp only [Option.bind_some]
        by_cases c2 : (i : Int) < wrap64 (x1 - 1)
        · rw [if_pos c2]
          obtain ⟨r5, i5, h5, q5, w5, -⟩ := below_ok b h4 w4 hb 3
          rw [q5]
          simp only [Option.bind_some]
          exact go2 _ _ _ _ _ _ w5
        · rw [if_neg c2]
          exact go2 _ _ _ _ _ _ w4
      · rw [decide_eq_false c1]
        exact stop
    · rw [if_neg c]
      exact stop
theorem bend_ok {b : List Int} (hb : b.length ≤ 1048576) {s1 : Int} (hs : 0 ≤ s1) (s2 m : Int) {t : List S76} (ht : t.length ≤ 60) : ∃ m' out s1' s2', spec_l03Bend.f b s1 s2 m t = some (m', out, s1', s2') ∧ out.length ≤ 61 ∧ 0 ≤ s1' := by
  unfold spec_l03Bend.f
  obtain ⟨r1, i1, h1, q1, w1, -⟩ := below_ok b s2 hs hb 4
  rw [q1]
  simp only [Option.bind_some]
  have same : ∃ m' out s1' s2', some (m, t, i1, h1) = some (m', out, s1', s2') ∧ out.length ≤ 61 ∧ 0 ≤ s1' := ⟨_, _, _, _, rfl, by omega, w1⟩
  by_cases c1 : r1 = 0
  · rw [if_pos c1]
    obtain ⟨r4, i4, h4, q4, w4, -⟩ := pick_ok b h1 w1 hb (l := [0, 1, 11, wrap64 (m - 1)]) (by simp)
    rw [q4]
    simp only [Option.bind_some]
    exact ⟨_, _, _, _, rfl, by omega, w4⟩
  · rw [if_neg c1]
    by_cases c2 : r1 = 1
    · rw [if_pos c2]
      by_cases c3 : (t.length : Int) > 0
      · rw [if_pos c3]
        obtain ⟨r3, i3, h3, q3, w3, u3, v3, -⟩ := below_ok b h1 w1 hb (t.length : Int)
        rw [q3]
        simp only [Option.bind_some]
        obtain ⟨r4, i4, h4, q4, w4, -⟩ := pick_ok b h3 w3 hb (l := [0, 1000, 1001]) (by simp)
        rw [q4]
        simp only [Option.bind_some]
        rw [if_pos u3, if_pos (v3 (by omega))]
        exact ⟨_, _, _, _, rfl, by rw [List.length_set]; omega, w4⟩
      · rw [if_neg c3]; exact same
    · rw [if_neg c2]
      by_cases c3 : r1 = 2
      · rw [if_pos c3]
        by_cases c4 : (t.length : Int) > 0
        · rw [if_pos c4, if_pos (by omega), if_pos (by omega)]
          exact ⟨_, _, _, _, rfl, by rw [List.length_append, List.length_singleton]; omega, w1⟩
        · rw [if_neg c4]; exact same
      · rw [if_neg c3]
        by_cases c4 : r1 = 3
        · rw [if_pos c4]
          by_cases c5 : (t.length : Int) > 0
          · rw [if_pos c5]
            obtain ⟨r3, i3, h3, q3, w3, u3, v3, -⟩ := below_ok b h1 w1 hb (t.length : Int)
            rw [q3]
            simp only [Option.bind_some]
            rw [if_pos u3, if_pos (v3 (by omega))]
            exact ⟨_, _, _, _, rfl, by rw [List.length_set]; omega, w3⟩
          · rw [if_neg c5]; exact same
        · rw [if_neg c4]; exact same
theorem j0_ok {l : List Int} (hl : l.length ≤ 1048576) {k : Nat} (hk : 0 < k) (s1 s2 m : Int) (t : List S76) (hs : 0 ≤ s1) (ht : t.length ≤ 60) : ∃ n t' i h, spec_l03Draw.j0 k l s1 s2 m t = some (n, t', l, i, h) ∧ t'.length ≤ 61 ∧ 0 ≤ i := by
  obtain ⟨k, rfl⟩ : ∃ m, k = m + 1 := ⟨k - 1, by omega⟩
  simp only [spec_l03Draw.j0]
  obtain ⟨r, i, h, q, w⟩ := once_ok l s2 hs hl 20
  rw [q]
  simp only [Option.bind_some]
  by_cases c : r = true
  · rw [if_pos c]
    obtain ⟨m', out, i', h', e, p1, p2⟩ := bend_ok hl w h m ht
    rw [e]
    simp only [Option.bind_some]
    exact ⟨_, _, _, _, rfl, p1, p2⟩
  · rw [if_neg c]
    exact ⟨_, _, _, _, rfl, by omega, w⟩
theorem ex_bind {α β : Type} {o : Option α} {f : α → Option β} {Q : β → Prop} (a : α) (h : o = some a) (h2 : ∃ b, f a = some b ∧ Q b) : ∃ b, o.bind f = some b ∧ Q b := by
  obtain ⟨b, h3, h4⟩ := h2
  exact ⟨b, by rw [h]; exact h3, h4⟩
theorem ex_pos {β : Type} {p : Prop} [Decidable p] {x y : Option β} {Q : β → Prop} (h : p) (h2 : ∃ b, x = some b ∧ Q b) : ∃ b, (if p then x else y) = some b ∧ Q b := by
  rw [if_pos h]; exact h2
theorem ex_neg {β : Type} {p : Prop} [Decidable p] {x y : Option β} {Q : β → Prop} (h : ¬ p) (h2 : ∃ b, y = some b ∧ Q b) : ∃ b, (if p then x else y) = some b ∧ Q b := by
  rw [if_neg h]; exact h2
/-- A drawn graph has few edges. -/
theorem draw_ok {l : List Int} (hl : l.length ≤ 1048576) {k : Nat} (hk : 5000 < k) : ∃ b : Int × List S76 × List Int × Int × Int, spec_l03Draw.f k l = some b ∧ b.2.1.length ≤ 61 ∧ b.2.2.1 = l ∧ 0 ≤ b.2.2.2.1 := by
  obtain ⟨h0, e0⟩ := new_ok hl (k := k) (by omega)
  obtain ⟨s, e1, s1, s2⟩ := size_ok hl
  obtain ⟨r1, i1, h1, q1, w1, u1, v1, -⟩ := below_ok l h0 (Int.le_refl 0) hl s
  have v1' := v1 s1
  obtain ⟨N, hN⟩ : ∃ N, N = wrap64 ((wrap64 (3 * (wrap64 (1 + r1)))) + 1) := ⟨_, rfl⟩
  have eN : N = 3 * (1 + r1) + 1 := by
    rw [hN, w64 (n := 1 + r1) (by omega) (by omega), w64 (n := 3 * (1 + r1)) (by omega) (by omega), w64 (n := 3 * (1 + r1) + 1) (by omega) (by omega)]
  obtain ⟨M, hM⟩ : ∃ M, M = wrap64 (1 + r1) := ⟨_, rfl⟩
  have eM : M = 1 + r1 := by rw [hM, w64 (n := 1 + r1) (by omega) (by omega)]
  obtain ⟨r2, i2, h2, q2, w2, u2, v2, -⟩ := below_ok l h1 w1 hl N
  rw [hN] at q2
  replace hN := Aside0.mk hN
  replace hM := Aside0.mk hM
  have v2' := v2 (by omega)
  have gr : ∀ (x1 n s1 s2 : Int), x1 ≤ 10 → n ≤ 60 → 0 ≤ s1 → ∃ out s1' s2', spec_l03DrawGraph.f k l s1 s2 x1 n = some (x1, out, s1', s2') ∧ out.length ≤ 60 ∧ 0 ≤ s1' := fun x1 n s1 s2 hx hn hs => by
    unfold spec_l03DrawGraph.f
    exact graph_ok hl hx hn x1 60 0 k s1 s2 [] (by omega) (by omega) hs (Nat.zero_le _) (by omega)
  have fin : ∀ (s1 s2 m : Int) (t : List S76), 0 ≤ s1 → t.length ≤ 60 → ∃ b : Int × List S76 × List Int × Int × Int, spec_l03Draw.j0 k l s1 s2 m t = some b ∧ b.2.1.length ≤ 61 ∧ b.2.2.1 = l ∧ 0 ≤ b.2.2.2.1 := fun s1 s2 m t hs ht => by
    obtain ⟨n, t', i, h, p1, p2, p3⟩ := j0_ok hl (k := k) (by omega) s1 s2 m t hs ht
    exact ⟨_, p1, p2, rfl, p3⟩
  obtain ⟨t1, i3, h3, q3, p3, w3⟩ := gr M r2 i2 h2 (by omega) (by omega) w2
  rw [hM.out] at q3
  obtain ⟨r4, i4, h4, q4, w4⟩ := once_ok l h3 w3 hl 25
  unfold spec_l03Draw.f
  refine ex_bind (l, 0, h0) e0 ?_
  refine ex_bind s e1 ?_
  refine ex_bind (r1, i1, h1) q1 ?_
  refine ex_bind (r2, i2, h2) q2 ?_
  refine ex_bind (wrap64 (1 + r1), t1, i3, h3) q3 ?_
  refine ex_bind (r4, i4, h4) q4 ?_
  by_cases c : r4 = true
  · refine ex_pos c ?_
    obtain ⟨t2, i5, h5, q5, p5, w5⟩ := gr 10 50 i4 h4 (by omega) (by omega) w4
    refine ex_bind (10, t2, i5, h5) q5 ?_
    exact fin _ _ _ _ w5 p5
  · refine ex_neg c ?_
    exact fin _ _ _ _ w4 p3
theorem node_ok {b : List Int} (hb : b.length ≤ 1048576) {s1 : Int} (hs : 0 ≤ s1) (s2 m : Int) (t : List S76) {k : Nat} (hk : 0 < k) : ∃ r s1' s2', spec_l03DrawNode.f k b s1 s2 m t = some (r, s1', s2') ∧ 0 ≤ s1' := by
  obtain ⟨k, rfl⟩ : ∃ j, k = j + 1 := ⟨k - 1, by omega⟩
  have key : ∀ (q : Bool) (s1 s2 : Int), 0 ≤ s1 → ∃ r s1' s2', spec_l03DrawNode.j0 (k + 1) q b s1 s2 m t = some (r, s1', s2') ∧ 0 ≤ s1' := by
    intro q s1 s2 hs
    simp only [spec_l03DrawNode.j0]
    by_cases c : q = true
    · rw [if_pos c]
      obtain ⟨r, i, h, e, p, -⟩ := below_ok b s2 hs hb m
      rw [e]
      simp only [Option.bind_some]
      exact ⟨_, _, _, rfl, p⟩
    · rw [if_neg c]
      obtain ⟨r, i, h, e, p, -⟩ := pick_ok b s2 hs hb (l := [(-1), m, 0]) (by simp)
      rw [e]
      simp only [Option.bind_some]
      exact ⟨_, _, _, rfl, p⟩
  unfold spec_l03DrawNode.f
  by_cases c : m > 0
  · rw [if_pos c]
    obtain ⟨r, i, h, e, p⟩ := once_ok b s2 hs hb 15
    rw [e]
    simp only [Option.bind_some]
    exact key _ _ _ p
  · rw [if_neg c]
    exact key _ _ _ hs
theorem same_ok {l : List Int} (hl : l.length ≤ 1048576) {k : Nat} (hk : l.length < k) : laws_same.f k l l = some true := by
  have key : ∀ (d i k : Nat), i + d = l.length → d < k → laws_same.l0 k l l i = some true := by
    intro d
    induction d with
    | zero =>
      intro i k hi hk
      obtain ⟨k, rfl⟩ : ∃ m, k = m + 1 := ⟨k - 1, by omega⟩
      simp only [laws_same.l0]
      rw [if_neg (by omega)]
    | succ d ih =>
      intro i k hi hk
      obtain ⟨k, rfl⟩ : ∃ m, k = m + 1 := ⟨k - 1, by omega⟩
      simp only [laws_same.l0]
      rw [if_pos (by omega), if_pos (by omega), if_pos (by omega), if_pos trivial, wr1 (by omega)]
      exact ih (i + 1) k (by omega) (by omega)
  unfold laws_same.f
  rw [if_pos rfl]
  exact key l.length 0 k (by omega) (by omega)
theorem within_ok {l : List Int} (hl : l.length ≤ 1048576) {v : Int} (hv : v ∈ l) {k : Nat} (hk : l.length < k) : laws_within.f k l v = some true := by
  obtain ⟨j, hj, e⟩ := List.getElem_of_mem hv
  have er : rd l (j : Int) = v := by
    rw [rd_getI, List.getD_eq_getElem?_getD, List.getElem?_eq_getElem hj]
    exact e
  have key : ∀ (d i k : Nat), i + d = j → d < k → laws_within.l0 k l v i = some true := by
    intro d
    induction d with
    | zero =>
      intro i k hi hk
      obtain rfl : i = j := by omega
      obtain ⟨k, rfl⟩ : ∃ m, k = m + 1 := ⟨k - 1, by omega⟩
      simp only [laws_within.l0]
      rw [if_pos (by omega), if_pos (by omega), if_pos er]
    | succ d ih =>
      intro i k hi hk
      obtain ⟨k, rfl⟩ : ∃ m, k = m + 1 := ⟨k - 1, by omega⟩
      simp only [laws_within.l0]
      rw [if_pos (by omega), if_pos (by omega)]
      by_cases c : rd l (i : Int) = v
      · rw [if_pos c]
      · rw [if_neg c, wr1 (by omega)]
        exact ih (i + 1) k (by omega) (by omega)
  exact key j 0 k (by omega) (by omega)
theorem impl_OnWay' {n : Int} {t : List S76} (g : Gok n t) {x y z : Int} (hx : Node n x) (hy : Node n y) (hz : Node n z) (h : OnW n t x y z) {k : Nat} (hk : t.length * 12 + 100 < k) : impl_OnWay.f k n t x y z = some true := by
  have hn := g.1
  obtain ⟨b0, h1, h2, h3⟩ := both_Gok n (t := t) (by have := g.2.1; omega) (k := k) (by omega)
  unfold impl_OnWay.f
  rw [h2]
  simp only [Option.bind_some]
  rw [if_pos (h3.2 g), impl_Node hn, impl_Node hn, impl_Node hn, decide_eq_true hx, decide_eq_true hy, decide_eq_true hz]
  simp only [Option.bind_some, if_true]
  rw [impl_all g (by omega)]
  simp only [Option.bind_some]
  rw [impl_onw g hx hy hz, decide_eq_true h]
  rfl
/-- The next hops of a node to another. -/
def HH (n : Int) (t : List S76) (x y : Int) : List Int := if x = y ∨ D n t x y = 1000000 then [] else hopsR n t x y
theorem HH_len (n : Int) (h : n ≤ 10) (t : List S76) (x y : Int) : (HH n t x y).length ≤ 10 := by
  unfold HH
  split
  · simp
  · unfold hopsR
    have := List.length_filter_le (hopN n t x y) ((List.range' 0 n.toNat).map fun (i : Nat) => (i : Int))
    rw [List.length_map, List.length_range'] at this
    omega
theorem impl_HopsTo' {n : Int} {t : List S76} (g : Gok n t) {x y : Int} (hx : Node n x) (hy : Node n y) {k : Nat} (hk : t.length * 12 + 95 < k) : impl_HopsTo.f k n t x y = some (HH n t x y) := by
  have hn := g.1
  obtain ⟨k, rfl⟩ : ∃ m, k = m + 1 := ⟨k - 1, by omega⟩
  obtain ⟨b0, _, h2, h3⟩ := both_Gok n (t := t) (by have := g.2.1; omega) (k := k + 1) (by omega)
  unfold impl_HopsTo.f
  rw [h2]
  simp only [Option.bind_some, impl_HopsTo.j0]
  rw [if_pos (h3.2 g), impl_Node hn, impl_Node hn, decide_eq_true hx, decide_eq_true hy]
  simp only [Option.bind_some, if_true]
  rw [if_neg (by decide), impl_all g (by omega)]
  simp only [Option.bind_some]
  rw [impl_HopsG g hx hy (by omega)]
  rfl
theorem hops_HH {n : Int} {t : List S76} (g : Gok n t) {x y z : Int} (hx : Node n x) (hy : Node n y) (h : z ∈ hopsL n t x y) (hf : D n t x y < 1000000) : z ∈ HH n t x y := by
  have a := hop_lt g h
  have l1 := D_lim g z hy
  unfold HH
  rw [if_neg, ← hops_eq g hx]
  · exact h
  · intro c
    rcases c with c | c
    · rw [c] at a
      have := D_self g hy
      omega
    · omega
theorem hop_far {n : Int} {t : List S76} (g : Gok n t) {x y z : Int} (hx : Node n x) (h : z ∈ hopsL n t x y) : Node n z ∧ z ≠ x ∧ gcost n t x z < 1000000 ∧ gcost n t x z + D n t z y = D n t x y := by
  rw [hops_eq g hx] at h
  unfold hopsR at h
  obtain ⟨h1, h2⟩ := List.mem_filter.1 h
  obtain ⟨i, hi, rfl⟩ := List.mem_map.1 h1
  have h3 := of_decide_eq_true h2
  rw [List.mem_range'_1] at hi
  exact ⟨⟨by omega, by omega⟩, h3⟩
theorem Ch_cost {n : Int} {t : List S76} (g : Gok n t) {y : Int} (hy : Node n y) : ∀ (Q : List Int) (x s : Int), Node n x → Ch n t y x Q → wgo n t x s Q = s + D n t x y := by
  intro Q
  induction Q with
  | nil =>
    intro x s hx h
    have e : x = y := h
    rw [e, D_self g hy]
    simp only [wgo]
    omega
  | cons z Q ih =>
    intro x s hx h
    obtain ⟨h1, h2⟩ := h
    obtain ⟨q1, q2, q3, q4⟩ := hop_far g hx h1.1
    have q := ih z (s + gcost n t x z) q1 h2
    simp only [wgo]
    rw [if_neg q2, if_neg (by omega), q]
    omega
theorem impl_WayC {n : Int} {t : List S76} (g : Gok n t) {x y : Int} (hx : Node n x) (hy : Node n y) {Q : List Int} (hQ : Ch n t y x Q) (hl : (x :: Q).length ≤ 300) {k : Nat} (hk : t.length * 2 + 310 < k) : impl_WayCost.f k n t (x :: Q) = some (D n t x y) := by
  obtain ⟨k, rfl⟩ : ∃ m, k = m + 1 := ⟨k - 1, by omega⟩
  have ht : t.length ≤ 60 := g.2.1
  obtain ⟨b, h1, h2, h3⟩ := both_Gok n (t := t) (by omega) (k := k + 1) (by omega)
  have hlen : (x :: Q).length = Q.length + 1 := rfl
  have c1 : 1 ≤ ((x :: Q).length : Int) ∧ ((x :: Q).length : Int) ≤ 300 := by omega
  have e0 : rd (x :: Q) 0 = x := rfl
  unfold impl_WayCost.f
  rw [h2, impl_In]
  simp only [Option.bind_some, decide_eq_true_eq]
  rw [if_pos (h3.2 g), if_pos c1, if_pos (by omega), impl_Node g.1, e0]
  simp only [Option.bind_some, impl_WayCost.j0]
  rw [decide_eq_true hx, if_neg (by decide)]
  have z := impl_wayw g (x :: Q) hl Q.length k 1 0 (by omega) (by omega) (by omega) (by omega) (by omega)
  have z2 := Ch_cost g hy Q x 0 hx hQ
  have ed : (x :: Q).drop 1 = Q := rfl
  have er : rd (x :: Q) (((1 : Nat) : Int) - 1) = x := rfl
  rw [ed, er, z2] at z
  refine z.trans ?_
  congr 1
  omega
theorem Ch_at {n : Int} {t : List S76} (g : Gok n t) {f y : Int} (hf : Node n f) (hy : Node n y) (hd : D n t f y < 1000000) : ∀ (Q : List Int) (x : Int), Node n x → Ch n t y x Q → D n t f x + D n t x y = D n t f y → ∀ i : Nat, i ≤ Q.length →
    Node n (rd (x :: Q) (i : Int)) ∧ D n t f (rd (x :: Q) (i : Int)) + D n t (rd (x :: Q) (i : Int)) y = D n t f y ∧ (i < Q.length → rd (x :: Q) ((i : Int) + 1) ∈ hopsL n t (rd (x :: Q) (i : Int)) y ∧ D n t (rd (x :: Q) (i : Int)) y < 1000000) ∧ (i = Q.length → rd (x :: Q) (i : Int) = y) := by
  intro Q
  induction Q with
  | nil =>
    intro x hx h he i hi
    rw [List.length_nil] at hi
    obtain rfl : i = 0 := by omega
    have e : x = y := h
    have e0 : rd [x] ((0 : Nat) : Int) = x := rfl
    rw [e0]
    exact ⟨hx, he, fun q => by rw [List.length_nil] at q; omega, fun _ => e⟩
  | cons z Q ih =>
    intro x hx h he i hi
    obtain ⟨h1, h2⟩ := h
    have lt := hop_lt g h1.1
    have en : D n t f z + D n t z y = D n t f y := by
      obtain ⟨e, hm, e1, e2, e3⟩ := mem_hops.1 h1.1
      obtain ⟨a1, a2, a3, a4, a5⟩ := g.mem hm
      have d1 := D_lim g f hx
      have d2 := D_lim g x hy
      have d3 := D_lim g z hy
      have d4 := D_lim g f lt.1
      have d5 := D_edge g hm
      rw [e1, e2] at d5
      have t1 := D_tri g hf hx lt.1 (by omega) (by omega)
      have t2 := D_tri g hf lt.1 hy (by omega) (by omega)
      omega
    rcases i with _ | i
    · have e0 : rd (x :: z :: Q) ((0 : Nat) : Int) = x := rfl
      have e1 : rd (x :: z :: Q) (((0 : Nat) : Int) + 1) = z := rfl
      rw [e0, e1]
      exact ⟨hx, he, fun _ => h1, fun q => by rw [List.length_cons] at q; omega⟩
    · have z1 := ih z lt.1 h2 en i (by rw [List.length_cons] at hi; omega)
      have e : ((i + 1 : Nat) : Int) = (i : Int) + 1 := by omega
      have e2 : (i : Int) + 1 + 1 = ((i + 1 : Nat) : Int) + 1 := by omega
      rw [e, rd_cons', e2, rd_cons', e]
      refine ⟨z1.1, z1.2.1, fun q => z1.2.2.1 ?_, fun q => z1.2.2.2 ?_⟩
      · rw [List.length_cons] at q; omega
      · rw [List.length_cons] at q; omega
theorem cost_draw {l : List Int} (hl : l.length ≤ 1048576) {k : Nat} (hk : 5000 < k) : ∃ (n : Int) (t : List S76) (x y : Int), spec_DrawCheapestWay.f k l = some (n, t, x, y) ∧ t.length ≤ 61 := by
  obtain ⟨⟨n, t, b, i, h⟩, e, p1, p2, p3⟩ := draw_ok hl hk
  have p1' : t.length ≤ 61 := p1
  have p2' : b = l := p2
  have p3' : 0 ≤ i := p3
  have hb : b.length ≤ 1048576 := by rw [p2']; exact hl
  have j0 : ∀ (q : Bool) (s1 s2 : Int), 0 ≤ s1 → (q = true → 0 < t.length) → ∃ x y : Int, spec_DrawCostOf.j0 k q b s1 s2 n t = some (n, t, x, y) := by
    intro q s1 s2 hs hq
    obtain ⟨k, rfl⟩ : ∃ m, k = m + 1 := ⟨k - 1, by omega⟩
    simp only [spec_DrawCostOf.j0]
    by_cases c : q = true
    · have h0 := hq c
      rw [if_pos c]
      obtain ⟨r1, i1, h1, e1, q1, u1, v1, -⟩ := below_ok b s2 hs hb (t.length : Int)
      have v1 := v1 (by omega)
      rw [e1]
      simp only [Option.bind_some]
      rw [if_pos u1, if_pos v1]
      exact ⟨_, _, rfl⟩
    · rw [if_neg c]
      obtain ⟨x, i2, s2', e2, w2⟩ := node_ok hb hs s2 n t (k := k) (by omega)
      rw [e2]
      simp only [Option.bind_some]
      obtain ⟨y, i3, s3, e3, w3⟩ := node_ok hb w2 s2' n t (k := k) (by omega)
      rw [e3]
      exact ⟨_, _, rfl⟩
  have dc : ∃ x y : Int, spec_DrawCostOf.f k l = some (n, t, x, y) := by
    unfold spec_DrawCostOf.f
    rw [e]
    simp only [Option.bind_some]
    by_cases c : (t.length : Int) > 0
    · rw [if_pos c]
      obtain ⟨r1, i1, h1, e1, q1⟩ := once_ok b h p3' hb 2
      rw [e1]
      simp only [Option.bind_some]
      exact j0 _ _ _ q1 (fun _ => by omega)
    · rw [if_neg c]
      exact j0 _ _ _ p3' (fun q => by cases q)
  obtain ⟨x, y, e2⟩ := dc
  refine ⟨n, t, x, y, ?_, p1'⟩
  unfold spec_DrawCheapestWay.f
  rw [e2]
  rfl
theorem ch_l0 {n : Int} {t : List S76} (g : Gok n t) {x y : Int} (hx : Node n x) (hy : Node n y) (hd : D n t x y < 1000000) {Q : List Int} (hQ : Ch n t y x Q) (hl : (x :: Q).length ≤ 300) : ∀ (d i K : Nat), i + d = Q.length + 1 → d + t.length * 12 + 500 < K → laws_FnCheapest.l0 K x y (x :: Q) i n t = some true := by
  have hn := g.1
  have hlen : (x :: Q).length = Q.length + 1 := rfl
  intro d
  induction d with
  | zero =>
    intro i K hi hK
    obtain ⟨K, rfl⟩ : ∃ m, K = m + 1 := ⟨K - 1, by omega⟩
    simp only [laws_FnCheapest.l0]
    rw [if_neg (by omega)]
  | succ d ih =>
    intro i K hi hK
    obtain ⟨K, rfl⟩ : ∃ m, K = m + 1 := ⟨K - 1, by omega⟩
    obtain ⟨a1, a2, a3, _⟩ := Ch_at g hx hy hd Q x hx hQ (by rw [D_self g hx]; omega) i (by omega)
    have nx := ih (i + 1) K (by omega) (by omega)
    have e2 : ((i + 1 : Nat) : Int) = (i : Int) + 1 := by omega
    simp only [laws_FnCheapest.l0]
    rw [if_pos (by omega), if_pos (by omega), impl_OnWay' g hx hy a1 ⟨hd, a2⟩ (by omega), Option.bind_some, if_pos rfl, wr1 (show i ≤ 1048576 by omega)]
    by_cases c : ((i + 1 : Nat) : Int) < ((x :: Q).length : Int)
    · obtain ⟨b1, b2⟩ := a3 (by omega)
      have hh := hops_HH g a1 hy b1 b2
      have hL := HH_len n hn.2 t (rd (x :: Q) (i : Int)) y
      rw [← e2] at hh
      rw [if_pos c, impl_HopsTo' g a1 hy (by omega), Option.bind_some, if_pos (by omega), within_ok (by omega) hh (by omega), Option.bind_some, if_pos rfl]
      exact nx
    · rw [if_neg c]
      exact nx
theorem FnCheapest : FnCheapest.Pure := by
  intro l _
  obtain ⟨C, hC⟩ : ∃ C, C = l.length + 30000 := ⟨_, rfl⟩
  refine ⟨C + 4, ?_⟩
  have key : ∃ b, laws_FnCheapest.f (C + 4) l = some b ∧ b = true := by
    unfold laws_FnCheapest.f
    by_cases hb : l.length ≤ 1048576
    · refine ex_bind false (by unfold laws_big.f; rw [decide_eq_false (by omega)]) ?_
      refine ex_neg (by decide) ?_
      obtain ⟨n, t, x, y, e, p1⟩ := cost_draw hb (k := C + 4) (by omega)
      refine ex_bind (n, t, x, y) e ?_
      obtain ⟨r, ok, r1, r2, r3, r4⟩ := both_CheapC n (t := t) (by omega) x y
      obtain ⟨s1, s2⟩ := r4 (C + 4) (by omega)
      obtain ⟨m, m1, m2, m3⟩ := both_CountC n (t := t) (by omega) x y
      obtain ⟨s3, s4⟩ := m3 (C + 3) (by omega)
      refine ex_bind (r, ok) s1 ?_
      refine ex_bind (r, ok) s2 ?_
      have e0 : (ok != ok) = false := by cases ok <;> rfl
      refine ex_neg (by show ¬ (ok != ok) = true; rw [e0]; decide) ?_
      refine ex_bind true (same_ok (l := r) (by omega) (by omega)) ?_
      have ep : (decide (m > 0) != ok) = false := by
        rw [bne_eq_false_iff_eq]
        by_cases c : ok = true
        · obtain ⟨⟨g, hx, hy⟩, hd, _⟩ := r2 c
          have w := (steps_pos g hy _ x (Nat.le_refl _) hx hd).2
          have e1 := m1 ⟨g, hx, hy⟩
          rw [if_pos hd] at e1
          rw [c, decide_eq_true (by omega)]
        · have c' : ok = false := by cases ok with | true => exact absurd rfl c | false => rfl
          have nn := r3 c'
          rw [c']
          refine decide_eq_false ?_
          by_cases cg : Gok n t ∧ Node n x ∧ Node n y
          · have e1 := m1 cg
            rw [if_neg (fun z => nn ⟨cg, z⟩)] at e1
            omega
          · have e1 := m2 cg
            omega
      have j1 : ∃ b, laws_FnCheapest.j1 (C + 3) x y ok r (decide (m > 0) != ok) n t = some b ∧ b = true := by
        rw [ep]
        simp only [laws_FnCheapest.j1]
        refine ex_neg (by decide) ?_
        by_cases c : ok = true
        · refine ex_pos c ?_
          obtain ⟨⟨g, hx, hy⟩, hd, Q, rq, hQ⟩ := r2 c
          subst rq
          have hn := g.1
          have hy2 := hy
          unfold Node at hy2
          have lx := (dist_ok g x).1
          have hlen : (x :: Q).length = Q.length + 1 := rfl
          refine ex_bind (D n t x y) (impl_WayC g hx hy hQ r1 (by omega)) ?_
          refine ex_bind (dist n t x) (spec_Dist' g hx (by omega)) ?_
          refine ex_pos hy2.1 ?_
          refine ex_pos (show y < ((dist n t x).length : Int) by omega) ?_
          refine ex_pos (show D n t x y = rd (dist n t x) y from rfl) ?_
          refine ex_pos (show 0 < ((x :: Q).length : Int) by omega) ?_
          refine ex_pos (show rd (x :: Q) 0 = x from rfl) ?_
          rw [show wrap64 (((x :: Q).length : Int) - 1) = (Q.length : Int) from by rw [w64 (by omega) (by omega)]; omega]
          refine ex_pos (show 0 ≤ (Q.length : Int) by omega) ?_
          refine ex_pos (show (Q.length : Int) < ((x :: Q).length : Int) by omega) ?_
          have el := (Ch_at g hx hy hd Q x hx hQ (by rw [D_self g hx]; omega) Q.length (Nat.le_refl _)).2.2.2 rfl
          have eb : (rd (x :: Q) (Q.length : Int) != y) = false := by rw [bne_eq_false_iff_eq]; exact el
          rw [eb]
          simp only [laws_FnCheapest.j2]
          refine ex_neg (by decide) ?_
          exact ⟨true, ch_l0 g hx hy hd hQ r1 (Q.length + 1) 0 (C + 1) (by omega) (by omega), rfl⟩
        · exact ex_neg c ⟨true, rfl, rfl⟩
      simp only [laws_FnCheapest.j0]
      refine ex_neg (by decide) ?_
      refine ex_bind m s4 ?_
      refine ex_bind m s3 ?_
      refine ex_pos rfl ?_
      exact j1
    · refine ex_bind true (by unfold laws_big.f; rw [decide_eq_true (by omega)]) ?_
      exact ex_pos rfl ⟨true, rfl, rfl⟩
  obtain ⟨b, e, rfl⟩ := key
  exact e

end Go.Proofs.Ythmahcohcphljaa.Pure
