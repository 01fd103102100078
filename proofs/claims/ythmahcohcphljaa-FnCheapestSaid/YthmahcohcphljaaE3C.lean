/- More short forms of steps that the walks take again and again. Plain lemmas; nothing of the program. -/
import Derived.Test.YthmahcohcphljaaE2C
namespace Go.Proofs.Ythmahcohcphljaa
open Go.RowKit Go.Proofs.YthmahcohcphljaaC.PrintWords Go.Proofs.YthmahcohcphljaaC.PrintLast Go.Proofs.YthmahcohcphljaaC.PrintMore
set_option linter.unusedVariables false
theorem kt_ {w W1 W W2 : World} {g : Nat} {row : Option Nat} (HK : Aside0 (KeepBut w W1 g row)) (hk : KeepBut W W2 g row) (h : KeepBut w W1 g row → KeepBut w W g row := by intro h_; repeat (first | (with_reducible first | exact h_ | apply KeepBut.set_ | apply keep_drewN | apply keep_drew | apply keep_alloc) | refine keep_far ?_ (Aside0.out (by assumption)) _ | exact h_)) : Aside0 (KeepBut w W2 g row) := Aside0.mk (KeepBut.trans (h HK.out) hk (.inl rfl))
theorem kx_ {w W1 W : World} {g : Nat} {row : Option Nat} (HK : Aside0 (KeepBut w W1 g row)) (h : KeepBut w W1 g row → KeepBut w W g row := by intro h_; repeat (first | (with_reducible first | exact h_ | apply KeepBut.set_ | apply keep_drewN | apply keep_drew | apply keep_alloc) | refine keep_far ?_ (Aside0.out (by assumption)) _ | exact h_)) : KeepBut w W g row := h HK.out
theorem gw_ {w W1 W : World} {g g1 : Nat} {row : Option Nat} (HK : Aside0 (KeepBut w W1 g row)) (hg : g1 = W.heap.size) (h : KeepBut w W1 g row → KeepBut w W g row := by intro h_; repeat (first | (with_reducible first | exact h_ | apply KeepBut.set_ | apply keep_drewN | apply keep_drew | apply keep_alloc) | refine keep_far ?_ (Aside0.out (by assumption)) _ | exact h_)) : Aside0 (w.heap.size ≤ g1) := Aside0.mk (by rw [hg]; exact (h HK.out).1)
theorem bx_ {w0 w : World} {g : Nat} {o : Obj} (BK : Aside0 (w0.heap[g]? = some o)) (h : w0.heap[g]? = some o → w.heap[g]? = some o := by intro h_; (with_reducible repeat (first | refine blk_drewN ?_ _ | refine blk_drew ?_ | refine blk_alloc ?_ _)); exact h_) : w.heap[g]? = some o := h BK.out
theorem kb_ {W0 W W2 : World} {g g' : Nat} {o : Obj} (BK : Aside0 (W0.heap[g']? = some o)) (NB : Aside0 (g' ≠ g)) (hk : KeepBut W W2 g none) (h : W0.heap[g']? = some o → W.heap[g']? = some o := by intro h_; (with_reducible repeat (first | refine blk_drewN ?_ _ | refine blk_drew ?_ | refine blk_alloc ?_ _)); exact h_) : Aside0 (W2.heap[g']? = some o) := Aside0.mk (KeepBut.blk hk (h BK.out) NB.out (by simp))
theorem gv_ {w0 w W1 W : World} {g g1 : Nat} {row : Option Nat} (HW0 : Aside0 (w0.heap.size ≤ w.heap.size)) (HK : Aside0 (KeepBut w W1 g row)) (hg : g1 = W.heap.size) (h : KeepBut w W1 g row → KeepBut w W g row := by intro h_; repeat (first | (with_reducible first | exact h_ | apply KeepBut.set_ | apply keep_drewN | apply keep_drew | apply keep_alloc) | refine keep_far ?_ (Aside0.out (by assumption)) _ | exact h_)) : Aside0 (w0.heap.size ≤ g1) := Aside0.mk (by rw [hg]; exact Nat.le_trans HW0.out (h HK.out).1)
theorem ab_ {w0 w w1 : World} {g : Nat} {o : Obj} (BK : Aside0 (w0.heap[g]? = some o)) (hb : Below w.heap.size w w1) (h : w0.heap[g]? = some o → w.heap[g]? = some o := by intro h_; (with_reducible repeat (first | refine blk_drewN ?_ _ | refine blk_drew ?_ | refine blk_alloc ?_ _)); exact h_) : Aside0 (w1.heap[g]? = some o) := Aside0.mk (blk_below (h BK.out) hb)
theorem at_ {w W1 W w2 : World} (HB : Aside0 (Below w.heap.size w W1)) (hb : Below W.heap.size W w2) (h : Below w.heap.size w W1 → Below w.heap.size w W := by intro hB_; repeat (first | (with_reducible first | exact hB_ | apply below_alloc | apply pw_below_drewN | apply below_drew1) | refine below_set ?_ (Aside0.out (by assumption)) | exact hB_)) : Aside0 (Below w.heap.size w w2) := Aside0.mk (below_step (h HB.out) hb)
theorem bw_ {w0 W : World} (h : Below w0.heap.size w0 W := by repeat (first | (with_reducible first | exact Aside0.out (by assumption) | apply below_alloc | apply pw_below_drewN | apply below_drew1 | refine below_set ?_ (Aside0.out (by assumption))) | exact Aside0.out (by assumption))) : Below w0.heap.size w0 W := h
theorem ad_ {w : World} {g : Nat} {o : Obj} (BK : Aside0 (w.heap[g]? = some o)) : Aside0 (w.drew.heap[g]? = some o) := Aside0.mk (blk_drew BK.out)
theorem bc_ {w0 w : World} {g : Nat} {o : Obj} (BK : Aside0 (w0.heap[g]? = some o)) (h : w0.heap[g]? = some o → w.heap[g]? = some o := by intro h_; repeat (first | (with_reducible first | exact h_ | refine blk_drewN ?_ _ | refine blk_drew ?_ | refine blk_alloc ?_ _) | refine blk_far ?_ (Aside0.out (by assumption)) _)) : w.heap[g]? = some o := h BK.out
theorem kc_ {W0 W W2 : World} {g g' : Nat} {o : Obj} (BK : Aside0 (W0.heap[g']? = some o)) (NB : Aside0 (g' ≠ g)) (hk : KeepBut W W2 g none) (h : W0.heap[g']? = some o → W.heap[g']? = some o := by intro h_; repeat (first | (with_reducible first | exact h_ | refine blk_drewN ?_ _ | refine blk_drew ?_ | refine blk_alloc ?_ _) | refine blk_far ?_ (Aside0.out (by assumption)) _)) : Aside0 (W2.heap[g']? = some o) := Aside0.mk (KeepBut.blk hk (h BK.out) NB.out (by simp))
section
variable {P : Program} {ops : Array Oper} {rest : List Oper} {o : Oper} {a : Act} {Q : Exit → Act → World → Prop}
theorem box_ev2 {W : World} (hgd : o.guard = none) {N : Tmp} (_hd : o.dst = some N) {cs : Array Value} {t : TypeId}
    (hrun : (execOp a.eval o).run P W = .ok (.value (.pointer (some ⟨W.heap.size, 0, none⟩))) (W.alloc (.cells cs t (0, 0))))
    (h : ∀ g, g = W.heap.size → ∀ w1, w1.heap[g]? = some (.cells cs t (0, 0)) → Below W.heap.size W w1 → w1.heap.size = g + 1 → wpList P ops Q rest (a.put o.dst (.pointer (some ⟨g, 0, none⟩))) w1) : wpList P ops Q (o :: rest) a W :=
  Kd.event_run hgd hrun (h _ rfl _ (blk_new W _) (below_alloc (Below.refl _ _) _) (show (W.heap.push _).size = W.heap.size + 1 from Array.size_push ..))
end
/-- Rows of bytes that are there were there in the first world. -/
def Low (w W : World) : Prop := ∀ (A : Option Addr) (n : Nat) (xs : List Int), Kd.C (Kd.int .u8) W A n xs → Kd.C (Kd.int .u8) w A n xs
theorem low_box {w W w1 : World} {gb : Nat} {cs : Array Value} {t : TypeId} (hl : Low w W) (hg : gb = W.heap.size) (hbox : w1.heap[gb]? = some (.cells cs t (0, 0))) (hb : Below W.heap.size W w1) (hz : w1.heap.size = gb + 1)
    (hv : ∀ (i : Nat) (x : Int), cs[i]? ≠ some (.int .u8 x) := by intro i x; rcases i with _ | _ | _ | i <;> simp) : Low w w1 := by
  intro A n xs h
  refine hl A n xs ?_
  obtain ⟨h1, h2, h3⟩ := h
  refine ⟨h1, h2, fun h0 => ?_⟩
  obtain ⟨ad, e, hc⟩ := h3 h0
  refine ⟨ad, e, fun j p hp => ?_⟩
  obtain ⟨c, hs, hr, hcell⟩ := hc j p hp
  refine ⟨c, hs, hr, fun i u hu => ?_⟩
  have q := hcell i u hu
  have lt := World.block_lt_of_cell? w1 _ q
  by_cases eb : (ad.add (j * (Kd.int .u8).sz + i)).block = gb
  · exfalso
    have hr' : c = [.int .u8 p] := hr
    rw [hr'] at hu
    have iu : u = .int .u8 p := by
      rcases i with _ | i
      · exact (Option.some.inj hu).symm
      · cases hu
    rw [iu] at q
    unfold World.cell? at q
    rw [eb, hbox] at q
    simp only at q
    split at q
    · cases q
    · exact hv _ _ q
  · rw [← hb.cell (by omega)]
    exact q
end Go.Proofs.Ythmahcohcphljaa
