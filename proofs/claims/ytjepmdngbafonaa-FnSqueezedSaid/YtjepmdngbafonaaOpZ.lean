/- What a law's argument reads as, opened kind by kind: ints, structs, slices of whatever. Plain lemmas over the reader of data; nothing of the program. -/
import Derived.Test.YtjepmdngbafonaaZWords
import Derived.ChangeSame
import Derived.Deep.Slices
namespace Go.Proofs.Ytjepmdngbafonaa.Open
open Go.ChangeShapes Go.WideShapes Go.Deep
open Go.Proofs.YtjepmdngbafonaaZ.PrintWords
set_option linter.unusedVariables false

/-- Whatever reads as a datum of type t is a value of kind d, of which 'wf' holds. -/
structure Opens {α : Type} (P : Program) (d : Kd α) (t : TypeId) (wf : α → Prop) : Prop where
  out : ∀ {H : Type} {enc : TypeId × Value → H} {w : World} {base : Nat} {spare : Nat → Bool} {held : Bool} {fuel : Nat} {cs : List Value} {x : DataW H × List MemPlace},
    DataW.trod enc P w base spare held fuel t cs = some x → ∃ v : α, d.K w v cs ∧ wf v

section
variable {P : Program} {t : TypeId}

theorem opens_int {k : IntKind} (ht : P.underlying t = some (.int k)) : Opens P (Kd.int k) t (fun n => (Lit.int k n).wf = true) := by
  refine ⟨?_⟩
  intro H enc w base spare held fuel cs x h
  obtain ⟨n, hc, _, hw⟩ := DataW.trod_int ht h
  exact ⟨n, hc, hw⟩

theorem opens_iso {α β : Type} {d : Kd α} {wf : α → Prop} (f : β → α) (mk : α → β) (hmk : ∀ a, f (mk a) = a) (h : Opens P d t wf) : Opens P (Kd.iso d f) t (fun b => wf (f b)) := by
  refine ⟨?_⟩
  intro H enc w base spare held fuel cs x hx
  obtain ⟨v, hK, hw⟩ := h.out hx
  refine ⟨mk v, ?_, ?_⟩
  · show d.K w (f (mk v)) cs
    rw [hmk]; exact hK
  · show wf (f (mk v))
    rw [hmk]; exact hw

theorem opens_slice {α : Type} {d : Kd α} {wf : α → Prop} {e : TypeId} (ht : P.underlying t = some (.slice e)) (hc : P.cellsOf e = d.sz) (h : Opens P d e wf) :
    Opens P (Kd.slice e d) t (fun xs => xs.length ≤ maxLen ∧ ∀ x ∈ xs, wf x) := by
  refine ⟨?_⟩
  intro H enc w base spare held fuel cs x hx
  rcases open_slice ht hx with ⟨rfl, _⟩ | ⟨a, len, cap, m, n, D, Pl, rfl, hb, hl, hm, hmm, _, hi⟩
  · refine ⟨[], ⟨none, 0, rfl, Nat.le_refl _, rfl, by simp, fun h0 => absurd h0 (by simp)⟩, by simp, by simp⟩
  · have hlm : len ≤ m := by
      rw [hmm]; split
      · exact hl
      · exact Nat.le_refl _
    have each : ∀ i, i < len → ∃ v : α, wf v ∧ ∃ c, c.length = d.sz ∧ d.K w v c ∧ ∀ j u, c[j]? = some u → w.cell? (a.add (i * d.sz + j)) = some u := by
      intro i hil
      obtain ⟨cs', h1, h2⟩ := hi i (by omega)
      obtain ⟨v, hK, hw⟩ := h.out h2
      rw [hc] at h1
      obtain ⟨_, hlen, hat⟩ := World.cells?_some h1
      refine ⟨v, hw, cs', hlen, hK, fun j u hj => ?_⟩
      have hjl : j < d.sz := by
        have := (List.getElem?_eq_some_iff.1 hj).1
        omega
      have := hat j hjl
      rw [Go.Deep.add_add] at this
      rw [this, hj]
    have build : ∀ k, k ≤ len → ∃ xs : List α, xs.length = k ∧ ∀ i v, xs[i]? = some v → wf v ∧ ∃ c, c.length = d.sz ∧ d.K w v c ∧ ∀ j u, c[j]? = some u → w.cell? (a.add (i * d.sz + j)) = some u := by
      intro k
      induction k with
      | zero => intro _; exact ⟨[], rfl, fun i v hv => by simp at hv⟩
      | succ k ih =>
        intro hk
        obtain ⟨xs, hxl, hxs⟩ := ih (by omega)
        obtain ⟨v, hv⟩ := each k (by omega)
        refine ⟨xs ++ [v], by simp [hxl], fun i y hy => ?_⟩
        by_cases hik : i < xs.length
        · rw [List.getElem?_append_left hik] at hy
          exact hxs i y hy
        · have hi2 : i = k := by
            have := (List.getElem?_eq_some_iff.1 hy).1
            simp at this
            omega
          subst hi2
          rw [List.getElem?_append_right (by omega)] at hy
          simp [hxl] at hy
          subst hy
          exact hv
    obtain ⟨xs, hxl, hxs⟩ := build len (Nat.le_refl _)
    refine ⟨xs, ⟨some a, cap, by rw [hxl], by omega, rfl, ?_, fun _ => ⟨a, rfl, fun j p hj => (hxs j p hj).2⟩⟩, by omega, fun v hv => ?_⟩
    · have : maxLen = 9223372036854775807 := rfl
      omega
    · obtain ⟨i, hv⟩ := List.getElem?_of_mem hv
      exact (hxs i v hv).1

/-- A struct of two fields. -/
theorem opens_two {α β : Type} {d0 : Kd α} {d1 : Kd β} {w0 : α → Prop} {w1 : β → Prop} {f0 f1 : Field} (hs : P.underlying t = some (.struct #[f0, f1])) (hC : P.cellsOf t = d0.sz + d1.sz)
    (e0 : f0.offset = 0) (c0 : P.cellsOf f0.type = d0.sz) (e1 : f1.offset = d0.sz) (c1 : P.cellsOf f1.type = d1.sz)
    (h0 : Opens P d0 f0.type w0) (h1 : Opens P d1 f1.type w1) : Opens P (Kd.pair d0 d1) t (fun x => w0 x.1 ∧ w1 x.2) := by
  refine ⟨?_⟩
  intro H enc w base spare held fuel cs x hx
  obtain ⟨xs, n, _, _, hlen, hxl, hf⟩ := DataW.trod_struct hs hx
  have g0 := hf 0 f0 rfl
  have g1 := hf 1 f1 rfl
  have hx0 : xs[0]? = some (xs[0]'(by rw [hxl]; simp)) := List.getElem?_eq_getElem _
  have hx1 : xs[1]? = some (xs[1]'(by rw [hxl]; simp)) := List.getElem?_eq_getElem _
  rw [hx0, e0, c0] at g0
  rw [hx1, e1, c1] at g1
  obtain ⟨v0, k0, p0⟩ := h0.out g0
  obtain ⟨v1, k1, p1⟩ := h1.out g1
  refine ⟨(v0, v1), ⟨_, _, ?_, k0, k1⟩, p0, p1⟩
  rw [List.drop_zero]
  conv => lhs; rw [← List.take_append_drop d0.sz cs]
  congr 1
  rw [List.take_of_length_le]
  rw [List.length_drop]; omega

/-- A struct of three fields. -/
theorem opens_three {α β γ : Type} {d0 : Kd α} {d1 : Kd β} {d2 : Kd γ} {w0 : α → Prop} {w1 : β → Prop} {w2 : γ → Prop} {f0 f1 f2 : Field} (hs : P.underlying t = some (.struct #[f0, f1, f2])) (hC : P.cellsOf t = d0.sz + (d1.sz + d2.sz))
    (e0 : f0.offset = 0) (c0 : P.cellsOf f0.type = d0.sz) (e1 : f1.offset = d0.sz) (c1 : P.cellsOf f1.type = d1.sz) (e2 : f2.offset = d0.sz + d1.sz) (c2 : P.cellsOf f2.type = d2.sz)
    (h0 : Opens P d0 f0.type w0) (h1 : Opens P d1 f1.type w1) (h2 : Opens P d2 f2.type w2) : Opens P (Kd.pair d0 (Kd.pair d1 d2)) t (fun x => w0 x.1 ∧ w1 x.2.1 ∧ w2 x.2.2) := by
  refine ⟨?_⟩
  intro H enc w base spare held fuel cs x hx
  obtain ⟨xs, n, _, _, hlen, hxl, hf⟩ := DataW.trod_struct hs hx
  have g0 := hf 0 f0 rfl
  have g1 := hf 1 f1 rfl
  have g2 := hf 2 f2 rfl
  have hx0 : xs[0]? = some (xs[0]'(by rw [hxl]; simp)) := List.getElem?_eq_getElem _
  have hx1 : xs[1]? = some (xs[1]'(by rw [hxl]; simp)) := List.getElem?_eq_getElem _
  have hx2 : xs[2]? = some (xs[2]'(by rw [hxl]; simp)) := List.getElem?_eq_getElem _
  rw [hx0, e0, c0] at g0
  rw [hx1, e1, c1] at g1
  rw [hx2, e2, c2] at g2
  obtain ⟨v0, k0, p0⟩ := h0.out g0
  obtain ⟨v1, k1, p1⟩ := h1.out g1
  obtain ⟨v2, k2, p2⟩ := h2.out g2
  refine ⟨(v0, v1, v2), ⟨_, _, ?_, k0, _, _, rfl, k1, k2⟩, p0, p1, p2⟩
  rw [List.drop_zero]
  conv => lhs; rw [← List.take_append_drop d0.sz cs]
  congr 1
  conv => lhs; rw [← List.take_append_drop d1.sz (cs.drop d0.sz)]
  congr 1
  rw [List.drop_drop, List.take_of_length_le]
  rw [List.length_drop]; omega

/-- A struct of one field. -/
theorem opens_one {α : Type} {d0 : Kd α} {w0 : α → Prop} {f0 : Field} (hs : P.underlying t = some (.struct #[f0])) (hC : P.cellsOf t = d0.sz)
    (e0 : f0.offset = 0) (c0 : P.cellsOf f0.type = d0.sz) (h0 : Opens P d0 f0.type w0) : Opens P d0 t w0 := by
  refine ⟨?_⟩
  intro H enc w base spare held fuel cs x hx
  obtain ⟨xs, n, _, _, hlen, hxl, hf⟩ := DataW.trod_struct hs hx
  have g0 := hf 0 f0 rfl
  have hx0 : xs[0]? = some (xs[0]'(by rw [hxl]; simp)) := List.getElem?_eq_getElem _
  rw [hx0, e0, c0, List.drop_zero, List.take_of_length_le (by omega)] at g0
  exact h0.out g0

/-- A struct of five fields. -/
theorem opens_five {α β γ δ ε : Type} {d0 : Kd α} {d1 : Kd β} {d2 : Kd γ} {d3 : Kd δ} {d4 : Kd ε} {w0 : α → Prop} {w1 : β → Prop} {w2 : γ → Prop} {w3 : δ → Prop} {w4 : ε → Prop} {f0 f1 f2 f3 f4 : Field}
    (hs : P.underlying t = some (.struct #[f0, f1, f2, f3, f4])) (hC : P.cellsOf t = d0.sz + (d1.sz + (d2.sz + (d3.sz + d4.sz))))
    (e0 : f0.offset = 0) (c0 : P.cellsOf f0.type = d0.sz) (e1 : f1.offset = d0.sz) (c1 : P.cellsOf f1.type = d1.sz) (e2 : f2.offset = d0.sz + d1.sz) (c2 : P.cellsOf f2.type = d2.sz)
    (e3 : f3.offset = d0.sz + d1.sz + d2.sz) (c3 : P.cellsOf f3.type = d3.sz) (e4 : f4.offset = d0.sz + d1.sz + d2.sz + d3.sz) (c4 : P.cellsOf f4.type = d4.sz)
    (h0 : Opens P d0 f0.type w0) (h1 : Opens P d1 f1.type w1) (h2 : Opens P d2 f2.type w2) (h3 : Opens P d3 f3.type w3) (h4 : Opens P d4 f4.type w4) :
    Opens P (Kd.pair d0 (Kd.pair d1 (Kd.pair d2 (Kd.pair d3 d4)))) t (fun x => w0 x.1 ∧ w1 x.2.1 ∧ w2 x.2.2.1 ∧ w3 x.2.2.2.1 ∧ w4 x.2.2.2.2) := by
  refine ⟨?_⟩
  intro H enc w base spare held fuel cs x hx
  obtain ⟨xs, n, _, _, hlen, hxl, hf⟩ := DataW.trod_struct hs hx
  have g0 := hf 0 f0 rfl
  have g1 := hf 1 f1 rfl
  have g2 := hf 2 f2 rfl
  have g3 := hf 3 f3 rfl
  have g4 := hf 4 f4 rfl
  have hx0 : xs[0]? = some (xs[0]'(by rw [hxl]; simp)) := List.getElem?_eq_getElem _
  have hx1 : xs[1]? = some (xs[1]'(by rw [hxl]; simp)) := List.getElem?_eq_getElem _
  have hx2 : xs[2]? = some (xs[2]'(by rw [hxl]; simp)) := List.getElem?_eq_getElem _
  have hx3 : xs[3]? = some (xs[3]'(by rw [hxl]; simp)) := List.getElem?_eq_getElem _
  have hx4 : xs[4]? = some (xs[4]'(by rw [hxl]; simp)) := List.getElem?_eq_getElem _
  rw [hx0, e0, c0] at g0
  rw [hx1, e1, c1] at g1
  rw [hx2, e2, c2] at g2
  rw [hx3, e3, c3] at g3
  rw [hx4, e4, c4] at g4
  obtain ⟨v0, k0, p0⟩ := h0.out g0
  obtain ⟨v1, k1, p1⟩ := h1.out g1
  obtain ⟨v2, k2, p2⟩ := h2.out g2
  obtain ⟨v3, k3, p3⟩ := h3.out g3
  obtain ⟨v4, k4, p4⟩ := h4.out g4
  refine ⟨(v0, v1, v2, v3, v4), ⟨_, _, ?_, k0, _, _, rfl, k1, _, _, rfl, k2, _, _, rfl, k3, k4⟩, p0, p1, p2, p3, p4⟩
  rw [List.drop_zero]
  conv => lhs; rw [← List.take_append_drop d0.sz cs]
  congr 1
  conv => lhs; rw [← List.take_append_drop d1.sz (cs.drop d0.sz)]
  congr 1
  rw [List.drop_drop]
  conv => lhs; rw [← List.take_append_drop d2.sz (cs.drop (d0.sz + d1.sz))]
  congr 1
  rw [List.drop_drop]
  conv => lhs; rw [← List.take_append_drop d3.sz (cs.drop (d0.sz + d1.sz + d2.sz))]
  congr 1
  rw [List.drop_drop, List.take_of_length_le]
  rw [List.length_drop]; omega
end

/-- A parameter: its value's cells, and what they read as. -/
theorem Opens.arg {α : Type} {P : Program} {d : Kd α} {t : TypeId} {wf : α → Prop} (h : Opens P d t wf) {H : Type} {enc : TypeId × Value → H} {w : World} {base : Nat} {spare : Nat → Bool} {held : Bool} {v : Value} {x : DataW H} {ps : List MemPlace}
    (hd : DataW.Trod enc P w base spare held t v x ps) : ∃ a : α, d.K w a v.cells.toList ∧ wf a := by
  obtain ⟨fuel, hf⟩ := hd
  exact h.out hf
end Go.Proofs.Ytjepmdngbafonaa.Open
