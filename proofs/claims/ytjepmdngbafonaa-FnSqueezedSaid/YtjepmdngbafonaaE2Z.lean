/- Short forms of steps that the walks take again and again. Plain lemmas; nothing of the program. -/
import Derived.Test.YtjepmdngbafonaaExZ
namespace Go.Proofs.Ytjepmdngbafonaa
open Go.RowKit Go.Proofs.YtjepmdngbafonaaZ.PrintWords Go.Proofs.YtjepmdngbafonaaZ.PrintLast Go.Proofs.YtjepmdngbafonaaZ.PrintMore
set_option linter.unusedVariables false
theorem bz_ {w W1 W : World} (HB : Aside0 (Below w.heap.size w W1)) (h : Below w.heap.size w W1 → Below w.heap.size w W := by intro hB_; repeat (first | (with_reducible first | exact hB_ | apply below_alloc | apply pw_below_drewN | apply below_drew1) | refine below_set ?_ (Aside0.out (by assumption)) | exact hB_)) : w.heap.size ≤ W.heap.size := (h HB.out).size
theorem bt_ {w W1 W w2 : World} (HB : Aside0 (Below w.heap.size w W1)) (hb : Below W.heap.size W w2) (h : Below w.heap.size w W1 → Below w.heap.size w W := by intro hB_; repeat (first | (with_reducible first | exact hB_ | apply below_alloc | apply pw_below_drewN | apply below_drew1) | refine below_set ?_ (Aside0.out (by assumption)) | exact hB_)) : Below w.heap.size w w2 := below_step (h HB.out) hb
theorem hc_ {w W1 W : World} {a : Addr} {v : Value} (HB : Aside0 (Below w.heap.size w W1)) (h : w.cell? a = some v) (hW : W1.cell? a = some v → W.cell? a = some v := by intro h_; exact h_) : W.cell? a = some v := hW ((HB.out.cell (World.block_lt_of_cell? w _ h)).trans h)
theorem hd_ {α : Type} {d : Kd α} {e base : Nat} {ok : Nat → Prop} {w W : World} {v : Value} {xs : List α} (HO : Aside0 (d.R e w base ok v xs)) (h : d.R e w base ok v xs → d.R e W base ok v xs := by intro h_; (with_reducible repeat (first | apply Kd.R_alloc | apply Kd.R_drewN | apply Kd.R_drew)); exact h_) : d.R e W base ok v xs := h HO.out
theorem hs_ {α : Type} {d : Kd α} {e base g t : Nat} {cells : Array Value} {ok : Nat → Prop} {w W : World} {v : Value} {xs : List α} (HO : Aside0 (d.R e w base ok v xs)) (BK : Aside0 (w.heap[g]? = some (.cells cells t (0, 0)))) (ht : ∀ q, q ∈ e :: d.E → q ≠ t := by decide) (h : d.R e w base (fun k => ok k ∧ k ≠ g) v xs → d.R e W base (fun k => ok k ∧ k ≠ g) v xs := by intro h_; repeat (first | (with_reducible first | exact h_ | apply Kd.R_alloc | apply Kd.R_drewN | apply Kd.R_drew) | refine Kd.R_far ?_ (fun _ hk => hk.2) _)) : d.R e W base ok v xs := Kd.R_mono (h (Kd.R_types HO.out BK.out ht)) (fun _ h_ => h_.1)
theorem rb_ {α : Type} {d : Kd α} {e base : Nat} {ok : Nat → Prop} {w W w2 : World} {v : Value} {xs : List α} (HO : Aside0 (d.R e w base ok v xs)) (hb : Below W.heap.size W w2) (h : d.R e w base ok v xs → d.R e W base ok v xs := by intro h_; (with_reducible repeat (first | apply Kd.R_alloc | apply Kd.R_drewN | apply Kd.R_drew)); exact h_) : Aside0 (d.R e w2 base ok v xs) := Aside0.mk (Kd.R_below (h HO.out) hb)
theorem rs_ {α : Type} {d : Kd α} {e base g t : Nat} {cells : Array Value} {ok : Nat → Prop} {w W w2 : World} {v : Value} {xs : List α} (HO : Aside0 (d.R e w base ok v xs)) (BK : Aside0 (w.heap[g]? = some (.cells cells t (0, 0)))) (hb : Below W.heap.size W w2) (ht : ∀ q, q ∈ e :: d.E → q ≠ t := by decide) (h : d.R e w base (fun k => ok k ∧ k ≠ g) v xs → d.R e W base (fun k => ok k ∧ k ≠ g) v xs := by intro h_; repeat (first | (with_reducible first | exact h_ | apply Kd.R_alloc | apply Kd.R_drewN | apply Kd.R_drew) | refine Kd.R_far ?_ (fun _ hk => hk.2) _)) : Aside0 (d.R e w2 base ok v xs) := Aside0.mk (Kd.R_mono (Kd.R_below (h (Kd.R_types HO.out BK.out ht)) hb) (fun _ h_ => h_.1))
theorem rc_ {α : Type} {d : Kd α} {e base n c : Nat} {ok : Nat → Prop} {w W : World} {A : Option Addr} {xs : List α} (HO : Aside0 (d.R e w base ok (.slice A n c) xs)) (h : d.C w A xs.length xs → d.C W A xs.length xs := by intro h_; repeat (first | exact h_ | (with_reducible refine Kd.C_alloc ?_ _) | (with_reducible refine Kd.C_drewN ?_ _) | (with_reducible refine Kd.C_drew ?_))) : d.C W A xs.length xs := h (Kd.R_reads' HO.out).2.2
theorem cb_ {α : Type} {d : Kd α} {n : Nat} {w w1 W : World} {A : Option Addr} {xs : List α} (HR : Aside0 (d.C w A n xs)) (HB : Aside0 (Below w.heap.size w w1)) (h : d.C w1 A n xs → d.C W A n xs := by intro h_; repeat (first | exact h_ | (with_reducible refine Kd.C_alloc ?_ _) | (with_reducible refine Kd.C_drewN ?_ _) | (with_reducible refine Kd.C_drew ?_))) : d.C W A n xs := h (Kd.C_below HR.out HB.out)
theorem by_ {w W1 W : World} (HB : Aside0 (Below w.heap.size w W1)) (h : Below w.heap.size w W1 → Below w.heap.size w W := by intro hB_; repeat (first | (with_reducible first | exact hB_ | apply below_alloc | apply pw_below_drewN | apply below_drew1) | refine below_set ?_ (Aside0.out (by assumption)) | exact hB_)) : Below w.heap.size w W := h HB.out
theorem cz_ {w : World} {g t : Nat} {cs : Array Value} (BK : Aside0 (w.heap[g]? = some (.cells cs t (0, 0)))) (i : Nat) (v : Value) (h : cs[i]? = some v := by rfl) : w.cell? ⟨g, i, none⟩ = some v := (blk_cell BK.out i).trans h
theorem bf_ {w0 w w1 : World} {g g' t : Nat} {cs : Array Value} (BK : Aside0 (w0.heap[g]? = some (.cells cs t (0, 0)))) (NB : Aside0 (g ≠ g')) (hb : Below w.heap.size w w1) (h : w0.heap[g]? = some (.cells cs t (0, 0)) → g ≠ g' → w.heap[g]? = some (.cells cs t (0, 0)) := by intro h_ n_; repeat (first | (with_reducible first | exact h_ | refine blk_drewN ?_ _ | refine blk_drew ?_ | refine blk_alloc ?_ _) | refine blk_far ?_ n_ _)) : Aside0 (w1.heap[g]? = some (.cells cs t (0, 0))) := Aside0.mk (blk_below (h BK.out NB.out) hb)
theorem bg_ {w0 w : World} {g g' t : Nat} {cs : Array Value} (BK : Aside0 (w0.heap[g]? = some (.cells cs t (0, 0)))) (NB : Aside0 (g ≠ g')) (h : w0.heap[g]? = some (.cells cs t (0, 0)) → g ≠ g' → w.heap[g]? = some (.cells cs t (0, 0)) := by intro h_ n_; repeat (first | (with_reducible first | exact h_ | refine blk_drewN ?_ _ | refine blk_drew ?_ | refine blk_alloc ?_ _) | refine blk_far ?_ n_ _)) : g < w.heap.size := blk_lt (h BK.out NB.out)
theorem ge_ {w W1 W : World} {g : Nat} (HB : Aside0 (Below w.heap.size w W1)) (hg : g = W.heap.size) (h : Below w.heap.size w W1 → Below w.heap.size w W := by intro hB_; repeat (first | (with_reducible first | exact hB_ | apply below_alloc | apply pw_below_drewN | apply below_drew1) | refine below_set ?_ (Aside0.out (by assumption)) | exact hB_)) : Aside0 (w.heap.size ≤ g) := Aside0.mk (hg ▸ (h HB.out).size)
theorem nl_ {w0 w : World} {g g1 : Nat} {o : Obj} (BK : Aside0 (w0.heap[g]? = some o)) (hg : g1 = w.heap.size) (h : w0.heap[g]? = some o → w.heap[g]? = some o := by intro h_; (with_reducible repeat (first | refine blk_drewN ?_ _ | refine blk_drew ?_ | refine blk_alloc ?_ _)); exact h_) : Aside0 (g ≠ g1) := Aside0.mk (by rw [hg]; exact Nat.ne_of_lt (blk_lt (h BK.out)))
theorem ng_ {w0 w : World} {g g1 : Nat} {o : Obj} (BK : Aside0 (w0.heap[g]? = some o)) (hg : g1 = w.heap.size) (h : w0.heap[g]? = some o → w.heap[g]? = some o := by intro h_; (with_reducible repeat (first | refine blk_drewN ?_ _ | refine blk_drew ?_ | refine blk_alloc ?_ _)); exact h_) : Aside0 (g1 ≠ g) := Aside0.mk (by rw [hg]; exact Nat.ne_of_gt (blk_lt (h BK.out)))
theorem kp_ {α : Type} {d : Kd α} {e base : Nat} {ok S : Nat → Prop} {W W2 : World} {v : Value} {xs : List α} (ok' : Nat → Prop) (h : d.R e W base ok v xs) (hk : Kept W W2 S) (hne : ∀ k, ok k → ¬ S k := by intro k_ hk_ hs_; grind) (ho : ∀ k, ok k ∧ (¬ S k ∧ k < W.heap.size) → ok' k := by intro k_ hk_; grind) : Aside0 (d.R e W2 base ok' v xs) := Aside0.mk (Kd.R_mono (Kd.R_keptB h hk hne) ho)
theorem bk_ {w0 W W2 : World} {S : Nat → Prop} {g : Nat} {o : Obj} (BK : Aside0 (w0.heap[g]? = some o)) (hk : Kept W W2 S) (hne : ¬ S g) (h : w0.heap[g]? = some o → W.heap[g]? = some o := by intro h_; (with_reducible repeat (first | refine blk_drewN ?_ _ | refine blk_drew ?_ | refine blk_alloc ?_ _)); exact h_) : Aside0 (W2.heap[g]? = some o) := Aside0.mk (blk_kept (h BK.out) hk hne)
section
variable {P : Program} {ops : Array Oper} {Q : Exit → Act → World → Prop} {md : Region.Mode} {S : World → Prop} {ds : List Nat}
theorem gz_ {oi : Oper} {N : Option Tmp} {a : Act} {w : World} {K : Act → World → Prop} {f : FuncId} {fn : Func} {as : Array Operand} {ts : Array TypeId} (hf : P.funcs[f]? = some fn) (args : Array Value)
    (h : Calls P f args w fun e w' => ∃ v, e = .returned v ∧ K (a.put N v) w')
    (hname : (fn.name == "runtime.NumGoroutine") = false := by kernel_rfl) (hb : fn.body.isSome = true := by rfl)
    (hw : Region.wanted oi (yielded ops a.tmps) = true := by rfl) (hN : oi.dst = N := by rfl) (hop : oi.op = .call { callee := .value (.func f), args := as, argTypes := ts } := by rfl)
    (hargs : as.map a.eval = args := by (try simp only [List.map_toArray, List.map_cons, List.map_nil]); first | done | rfl | (simp only [List.length_drop, List.length_take]; rfl)) :
    if Region.wanted oi (yielded ops a.tmps) = true then Oper.wp P oi a w K Q else K (a.put N undef) w := goes_ hf hname hb args hw hN hop hargs h
theorem gl_ {rest : List Oper} {oi : Oper} {a : Act} {w : World} (N : Option Tmp) {f : FuncId} {fn : Func} {as : Array Operand} {ts : Array TypeId} (hf : P.funcs[f]? = some fn) (args : Array Value)
    (h : Calls P f args w fun e w' => ∃ v, e = .returned v ∧ wpList P ops Q rest (a.put N v) w')
    (hd : oi.dst = N := by rfl) (hg : oi.guard = none := by rfl) (hname : (fn.name == "runtime.NumGoroutine") = false := by kernel_rfl) (hb : fn.body.isSome = true := by rfl)
    (hop : oi.op = .call { callee := .value (.func f), args := as, argTypes := ts } := by rfl)
    (hargs : as.map a.eval = args := by (try simp only [List.map_toArray, List.map_cons, List.map_nil]); first | done | rfl | (simp only [List.length_drop, List.length_take]; rfl)) :
    wpList P ops Q (oi :: rest) a w := goesL_ N hd hg hf hname hb args hop hargs h
theorem nz_ (n : Nat) {a0 a' : Act} {v : Value} {w : World} {l : Array Bool} {fuel : Nat} (h : wpAnyLast P md ops Q S ds fuel l a' w)
    (ha : a0.put (some n) v = a' := by simp only [Act.put, List.setIfInBounds_toArray, List.set_cons_zero, List.set_cons_succ, i64_w, i32_w]; rfl) : wpAnyLast P md ops Q S ds fuel l (a0.put (some n) v) w := norm_ ha h
theorem goesU_ {oi : Oper} {N : Option Tmp} {a : Act} {w : World} {K : Act → World → Prop} {f : FuncId} {m : Tmp} {fn : Func} {as : Array Operand} {ts : Array TypeId} (hf : P.funcs[f]? = some fn) (hname : (fn.name == "runtime.NumGoroutine") = false) (hb : fn.body.isSome = true) (args : Array Value)
    (hw : Region.wanted oi (yielded ops a.tmps) = true) (hN : oi.dst = N) (hop : oi.op = .call { callee := .value (.tmp m), args := as, argTypes := ts }) (hargs : as.map a.eval = args)
    (h : Calls P f args w fun e w' => ∃ v, e = .returned v ∧ K (a.put N v) w') (hev : a.eval (.tmp m) = .func (.func f) #[] #[] := by rfl) : if Region.wanted oi (yielded ops a.tmps) = true then Oper.wp P oi a w K Q else K (a.put N undef) w := by
  refine call_ f args hw hN ?_ h
  have he := enters_ hf hname hb args w
  unfold execOp
  simp [hop, resolve, Deferred.ofValue, invoke, hev, hargs, he]
def capOf : Value → Array Value
  | .func _ _ c => c
  | _ => #[]
theorem goesTc_ {rest : List Oper} {oi : Oper} {a : Act} {w : World} (N : Option Tmp) (hd : oi.dst = N) (hg : oi.guard = none) {f : FuncId} {m : Tmp} {fn : Func} {as : Array Operand} {ts : Array TypeId} (hf : P.funcs[f]? = some fn) (hname : (fn.name == "runtime.NumGoroutine") = false) (hb : fn.body.isSome = true) (args : Array Value)
    (hop : oi.op = .call { callee := .value (.tmp m), args := as, argTypes := ts }) (hargs : as.map a.eval ++ capOf (a.eval (.tmp m)) = args)
    (h : Calls P f args w fun e w' => ∃ v, e = .returned v ∧ wpList P ops Q rest (a.put N v) w') (hev : a.eval (.tmp m) = .func (.func f) #[] (capOf (a.eval (.tmp m))) := by rfl) : wpList P ops Q (oi :: rest) a w := by
  refine wpList_plain hg fun K hK => ?_
  have he := enters_ hf hname hb args w
  have hrun : (execOp a.eval oi).run P w = .ok (.enter f args) w := by
    generalize capOf (a.eval (.tmp m)) = cap at hargs hev
    unfold execOp
    simp [hop, resolve, Deferred.ofValue, invoke, hev, hargs, he]
  unfold Oper.wp
  rw [hrun, Oper.upon_enter]
  refine h.mono fun e w'' hh => ?_
  obtain ⟨v, rfl, hk⟩ := hh
  subst hd
  exact hK _ _ hk
end
end Go.Proofs.Ytjepmdngbafonaa
