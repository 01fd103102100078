/- 'clear' of the tail of a row of the call's own; a variable in memory that is read as a row of one element. Plain lemmas; nothing of the program. -/
import Derived.Test.YthmahcohcphljaaExC
namespace Go.Proofs.Ythmahcohcphljaa
open Go.RowKit Go.Lib Go.Proofs.YthmahcohcphljaaC.PrintWords Go.Proofs.YthmahcohcphljaaC.PrintLast Go.Proofs.YthmahcohcphljaaC.PrintMore
set_option linter.unusedVariables false
section
variable {P : Program} {α : Type}
end
section
variable {P : Program} {ops : Array Oper} {rest : List Oper} {o : Oper} {a : Act} {Q : Exit → Act → World → Prop} {α : Type}
end
section
variable {α : Type} {d : Kd α} {w : World} {g t : Nat} {cs : List Value} {x : α}
theorem C_box1 (hb : w.heap[g]? = some (.cells cs.toArray t (0, 0))) (hK : d.K w x cs) : d.C w (some ⟨g, 0, none⟩) [x].length [x] := by
  refine ⟨rfl, by simp, fun _ => ⟨_, rfl, fun j p hj => ?_⟩⟩
  cases j with
  | succ j => simp at hj
  | zero =>
    have hp : x = p := by simpa using hj
    subst hp
    refine ⟨cs, d.K_len hK, hK, fun i u hi => ?_⟩
    rw [add_at, cell_of_row w g _ cs.toArray t (0, 0) hb]
    simpa using hi
theorem C_box1_kept {S : Nat → Prop} (hb : w.heap[g]? = some (.cells cs.toArray t (0, 0))) (hne : ¬ S g) (hK : ∀ W, Kept w W S → d.K W x cs) : ∀ W, Kept w W S → d.C W (some ⟨g, 0, none⟩) [x].length [x] :=
  fun W hk => C_box1 ((hk.2 g (blk_lt hb) hne).trans hb) (hK W hk)
end
end Go.Proofs.Ythmahcohcphljaa
