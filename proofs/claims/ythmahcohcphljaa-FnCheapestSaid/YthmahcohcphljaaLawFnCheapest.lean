/- The given statement of the law, out of its pure statement and its function's contract: whatever the input, the call returns true and the input reads as before. -/
import Derived.Test.YthmahcohcphljaaRows
import Derived.Test.YthmahcohcphljaaQFnCheapestx23
import Derived.Test.YthmahcohcphljaaPureFnCheapest
import Derived.Test.YthmahcohcphljaaOpC
import Derived.WalkKit
import Derived.ProofKit
import Derived.OpenShut
import Derived.ShutString
import Derived.ChangeOld
import Derived.Below
import Derived.SizedLaws
namespace Go.Proofs.Ythmahcohcphljaa.fnCheapest
open Go.ChangeShapes Go.WideShapes Go.ChangeAt Go.RowKit Go.Proofs.Ythmahcohcphljaa.Open Go.Proofs.Ythmahcohcphljaa.QFnCheapest
open Go.ChangeMaps (open_string shut_string)
open Go.Proofs.YthmahcohcphljaaC.PrintWords
set_option linter.unusedVariables false
theorem own : ownKnob Try.prog.godebug = none := by kernel_rfl
theorem laidOut : laidOutB Try.prog = true := by kernel_rfl
set_option maxRecDepth 100000 in
theorem lifted (os : Os) (started : os.Started) (H : Type) (enc : TypeId × Value → H) :
    ReturnsInHanded {} Try.checked os 9 .any (Rows.fnCheapestSpec.pre6 enc Try.prog Try.f9 Rows.fnCheapestRow.domain false) (Rows.fnCheapestSpec.post enc Try.prog Try.f9 false true false false) := by
  refine returnsInHanded_of_change_sized (C := Try.checked) own started (by kernel_rfl) Try.func9
    (ChangeSpec.witness6 (enc := enc) (C := Try.checked) false ⟨#[], #[.slice none 0 0], []⟩ 8 (by kernel_rfl) (by kernel_rfl) (by kernel_rfl) (by kernel_rfl)) ?_
  intro W base args ds gs before hval0 hW hcnd hsz0 _
  have hsz : (DataW.weightsEach Try.prog (Try.f9.params.toList ++ Rows.fnCheapestSpec.plain.varTypes Try.prog) (ds ++ gs)).all (· ≤ reachBytes) = true := hsz0
  have hval : ∀ (j : Nat) t v, Try.f9.params[j]? = some t → args[j]? = some v → Value.okWide Try.prog W .any base t v := hval0
  have hW' := hW
  obtain ⟨p, q, hA0, hV, rfl, hfz, hnd⟩ := hW
  have hA : DataW.TrodAll enc Try.prog W 0 (fun _ => true) true Try.f9.params.toList args.toList ds p := hA0
  rw [Try.params9] at hA hval hsz
  obtain ⟨v0, vs0, d0, ds0, p0, q0, hargs, rfl, rfl, h0, r0⟩ := trodAll_cons hA
  obtain ⟨rfl, rfl, rfl⟩ := trodAll_nil r0
  obtain rfl : args = #[v0] := by cases args; simp_all
  obtain ⟨rfl, rfl⟩ := trodVars_none hV
  have k0 := h0
  have lt0 : ∀ x ∈ p0, x.block < W.heap.size := by obtain ⟨m, hm⟩ := k0; exact DataW.trod_lt m _ _ _ hm
  obtain ⟨A0, len0, c0, rfl⟩ := okWide_slice Try.underlying41 (hval 0 41 v0 rfl rfl)
  obtain ⟨b0, hK0, w0⟩ := ((opens_slice Try.underlying41 (by kernel_rfl) (opens_int Try.underlying5)) : Opens Try.prog _ 41 _).arg h0
  obtain ⟨A0', c0', he0, hl0, hC0⟩ := hK0
  have he0' : [Value.slice A0 len0 c0] = [Value.slice A0' b0.length c0'] := he0
  simp only [List.cons.injEq, Value.slice.injEq, and_true] at he0'
  obtain ⟨rfl, rfl, rfl⟩ := he0'
  clear hA0 hval0 hsz0 hsz
  obtain ⟨k, h⟩ := Pure.FnCheapest b0 w0
  refine (QFnCheapest.laws_FnCheapest.calls k _ _ b0 true W hC0 hl0 h).mono fun e W' ⟨he, hd⟩ => ?_
  subst he
  have bel : Below W.heap.size W W' := hd
  exact ⟨_, rfl, _, _, _, [], _, [], hW', trodAll_mk1 (shut_bool Try.underlying4 _), (trodAll_cons_mk (Below.trod laidOut (by kernel_rfl) (of_decide_eq_true (by kernel_rfl)) k0 bel lt0) trodAll_mk0), rfl, bel.frame _, fun h => by cases h⟩
theorem over : Rows.fnCheapestRow.holds Try.pinned (OpenSpec.ofChange Rows.fnCheapestSpec) :=
  OpenClaim.holds_of_wide 9 Try.f9 rfl rfl rfl rfl rfl rfl rfl ⟨rfl, rfl, rfl, rfl, rfl⟩ rfl rfl rfl rfl rfl (by kernel_rfl) Try.func9 (by kernel_rfl)
    (of_decide_eq_true (by kernel_rfl)) (by unfold Func.isWrapper; first | (rw [if_pos (by decide +kernel)]; kernel_rfl) | (rw [if_neg (by decide +kernel)]; exact ⟨rfl, rfl⟩))
    (fun os started H enc _ => lifted os started H enc)
theorem proved : Rows.FnCheapestSaid := over
#print axioms proved
end Go.Proofs.Ythmahcohcphljaa.fnCheapest
namespace Go.Proofs.Ythmahcohcphljaa
/-- The row, under a short name, for the claim. -/
theorem fnCheapest_holds : Rows.FnCheapestSaid := fnCheapest.proved
end Go.Proofs.Ythmahcohcphljaa
