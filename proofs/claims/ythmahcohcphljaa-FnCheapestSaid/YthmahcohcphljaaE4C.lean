/- Still more short forms of steps that the walks take again and again. Plain lemmas; nothing of the program. -/
import Derived.Test.YthmahcohcphljaaE3C
import Derived.Test.YthmahcohcphljaaCKept
namespace Go.Proofs.Ythmahcohcphljaa
open Go.RowKit Go.Proofs.YthmahcohcphljaaC.PrintWords Go.Proofs.YthmahcohcphljaaC.PrintLast Go.Proofs.YthmahcohcphljaaC.PrintMore
set_option linter.unusedVariables false
theorem iq_ {p : Prop} [Decidable p] {α : Type} {x : Option α} {r : α} (h : (if p then x else none) = some r) : decide p = true ∧ x = some r := by
  by_cases c : p
  · rw [if_pos c] at h
    exact ⟨decide_eq_true c, h⟩
  · rw [if_neg c] at h
    cases h
theorem oa_ {p : Prop} [Decidable p] (h : decide p = true := by first | (with_reducible assumption) | assumption) : p := of_decide_eq_true h
theorem er_ {α : Sort _} {a b : α} (h : a = b := by first | rfl | (simp; done) | (simp [*]; done)) : a = b := h
theorem fz_ {w : World} {g : Nat} {t : TypeId} {cs : Array Value} (h : Aside0 (w.heap[g]? = some (.cells cs t (0, 0)))) (i : Nat) : w.frozen? ⟨g, i, none⟩ = false := blk_frozen h.out i
theorem hS_ {α : Type} {d : Kd α} {e base : Nat} {ok : Nat → Prop} {w W : World} {v : Value} {xs : List α} (HO : Aside0 (d.S e w base ok v xs)) (h : d.S e w base ok v xs → d.S e W base ok v xs := by intro h_; (with_reducible repeat (first | apply Kd.S_alloc | apply Kd.S_drewN | apply Kd.S_drew)); exact h_) : d.S e W base ok v xs := h HO.out
theorem bd_ {w W : World} {g : Nat} {o : Obj} (hw : w.heap[g]? = some o) (h : w.heap[g]? = some o → W.heap[g]? = some o := by intro h_; (with_reducible repeat (first | refine blk_drewN ?_ _ | refine blk_drew ?_ | refine blk_alloc ?_ _)); exact h_) : W.heap[g]? = some o := h hw
theorem kz_ {w W1 W : World} {S : Nat → Prop} (HK : Aside0 (Kept w W1 S)) (h : Kept w W1 S → Kept w W S := by intro h_; repeat (first | (with_reducible first | exact h_ | apply Kept.alloc | apply Kept.drewN | apply Kept.drew | refine Kept.setCell ?_ (.inl (.inr rfl)) _) | refine Kept.setCell ?_ (.inr (Aside0.out (by assumption))) _ | exact h_)) : Kept w W S := h HK.out
theorem ky_ {w W1 W : World} {S : Nat → Prop} (HK : Aside0 (Kept w W1 S)) (h : Kept w W1 S → Kept w W S := by intro h_; repeat (first | (with_reducible first | exact h_ | apply Kept.alloc | apply Kept.drewN | apply Kept.drew) | refine Kept.setCell ?_ (Or.inr (Aside0.out (by assumption))) _ | exact h_)) : Kept w W S := h HK.out
/-- The first n bits of m. -/
def bs_ (n m : Nat) : Array Bool := ((List.range n).map m.testBit).toArray
end Go.Proofs.Ythmahcohcphljaa
