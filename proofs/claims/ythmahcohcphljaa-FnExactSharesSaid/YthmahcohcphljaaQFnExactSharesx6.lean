/- Contracts of functions that the law reaches: what each call returns and what it leaves in memory. Made by this session over the print of the kit. -/
import Derived.Test.YthmahcohcphljaaQFnExactSharesx0
import Derived.Test.YthmahcohcphljaaQFnExactSharesx2
import Derived.Test.YthmahcohcphljaaQFnExactSharesx3
import Derived.Test.YthmahcohcphljaaQFnExactSharesx4
import Derived.Test.YthmahcohcphljaaQFnExactSharesx5
namespace Go.Proofs.Ythmahcohcphljaa.QFnExactShares
open Go.RowKit Go.Proofs.YthmahcohcphljaaH.PrintWords Go.Proofs.YthmahcohcphljaaH.PrintLast Go.Proofs.YthmahcohcphljaaH.PrintMore
attribute [local go_sem] max2_int min2_int max_two min_two max_three min_three max_four min_four   -- for this text's walks alone
set_option linter.unusedVariables false
set_option linter.unusedSimpArgs false
theorem str_ {P : Program} {ops : Array Oper} {Q : Exit → Act → World → Prop} {S S' : World → Prop} (h : ∀ w, S' w → S w) : ∀ {fuel : Nat} {l : Array Bool} {a : Act} {w : World}, S' w → wpAnyLast P .any ops Q S' [] fuel l a w → wpAnyLast P .any ops Q S [] fuel l a w
  | 0, _, _, _, _, hw => hw
  | _ + 1, _, _, _, hs, hw => ⟨hw.1, fun i hi => wpOp_mono (fun _ _ h' => ⟨fun _ _ => h _ (h'.1 (by simp) hs), str_ h (h'.1 (by simp) hs) h'.2⟩) (hw.2 i hi)⟩
theorem R_typesR {α β : Type} {d : Kd α} {d2 : Kd β} {w : World} {e e2 base base2 : Nat} {ok ok2 : Nat → Prop} {v : Value} {xs : List α} {g n c : Nat} {ys : List β} (h : d.R e w base ok v xs) (h2 : d2.R e2 w base2 ok2 (.slice (some ⟨g, 0, none⟩) n c) ys) (ht : ∀ q, q ∈ e :: d.E → q ≠ e2) : d.R e w base (fun k => ok k ∧ k ≠ g) v xs :=
  Kd.R_mono (Kd.R_apart' h (Kd.R_typed h2) ht) (fun k h_ => ⟨h_.1, fun e_ => h_.2 (by rw [e_]; simp [Value.ownBlock])⟩)
abbrev tb6 : Bool := true
abbrev fb6 : Bool := false
def ba6_0 : Array Bool := #[fb6,fb6,fb6,fb6,fb6,fb6,fb6,fb6,fb6,fb6,fb6,fb6,fb6,fb6,fb6,fb6,fb6,fb6,fb6,fb6,fb6,fb6,fb6,fb6,fb6,fb6,fb6,fb6,fb6,fb6,fb6,fb6,fb6,fb6,fb6,fb6]
def ba6_1 : Array Bool := #[tb6,fb6,fb6,fb6,fb6,fb6,fb6,fb6,fb6,fb6,fb6,fb6,fb6,fb6,fb6,fb6,fb6,fb6,fb6,fb6,fb6,fb6,fb6,fb6,fb6,fb6,fb6,fb6,fb6,fb6,fb6,fb6,fb6,fb6,fb6,fb6]
def ba6_2 : Array Bool := #[tb6,tb6,fb6,fb6,fb6,fb6,fb6,fb6,fb6,fb6,fb6,fb6,fb6,fb6,fb6,fb6,fb6,fb6,fb6,fb6,fb6,fb6,fb6,fb6,fb6,fb6,fb6,fb6,fb6,fb6,fb6,fb6,fb6,fb6,fb6,fb6]
def ba6_3 : Array Bool := #[tb6,tb6,tb6,fb6,fb6,fb6,fb6,fb6,fb6,fb6,fb6,fb6,fb6,fb6,fb6,fb6,fb6,fb6,fb6,fb6,fb6,fb6,fb6,fb6,fb6,fb6,fb6,fb6,fb6,fb6,fb6,fb6,fb6,fb6,fb6,fb6]
def ba6_4 : Array Bool := #[tb6,tb6,tb6,tb6,fb6,fb6,fb6,fb6,fb6,fb6,fb6,fb6,fb6,fb6,fb6,fb6,fb6,fb6,fb6,fb6,fb6,fb6,fb6,fb6,fb6,fb6,fb6,fb6,fb6,fb6,fb6,fb6,fb6,fb6,fb6,fb6]
def ba6_5 : Array Bool := #[tb6,tb6,tb6,tb6,tb6,fb6,fb6,fb6,fb6,fb6,fb6,fb6,fb6,fb6,fb6,fb6,fb6,fb6,fb6,fb6,fb6,fb6,fb6,fb6,fb6,fb6,fb6,fb6,fb6,fb6,fb6,fb6,fb6,fb6,fb6,fb6]
def ba6_6 : Array Bool := #[tb6,tb6,tb6,tb6,tb6,tb6,fb6,fb6,fb6,fb6,fb6,fb6,fb6,fb6,fb6,fb6,fb6,fb6,fb6,fb6,fb6,fb6,fb6,fb6,fb6,fb6,fb6,fb6,fb6,fb6,fb6,fb6,fb6,fb6,fb6,fb6]
def ba6_7 : Array Bool := #[tb6,tb6,tb6,tb6,tb6,tb6,tb6,fb6,fb6,fb6,fb6,fb6,fb6,fb6,fb6,fb6,fb6,fb6,fb6,fb6,fb6,fb6,fb6,fb6,fb6,fb6,fb6,fb6,fb6,fb6,fb6,fb6,fb6,fb6,fb6,fb6]
def ba6_8 : Array Bool := #[tb6,tb6,tb6,tb6,tb6,tb6,tb6,tb6,fb6,fb6,fb6,fb6,fb6,fb6,fb6,fb6,fb6,fb6,fb6,fb6,fb6,fb6,fb6,fb6,fb6,fb6,fb6,fb6,fb6,fb6,fb6,fb6,fb6,fb6,fb6,fb6]
def ba6_9 : Array Bool := #[tb6,tb6,tb6,tb6,tb6,tb6,tb6,tb6,tb6,fb6,fb6,fb6,fb6,fb6,fb6,fb6,fb6,fb6,fb6,fb6,fb6,fb6,fb6,fb6,fb6,fb6,fb6,fb6,fb6,fb6,fb6,fb6,fb6,fb6,fb6,fb6]
def ba6_10 : Array Bool := #[tb6,tb6,tb6,tb6,tb6,tb6,tb6,tb6,tb6,tb6,fb6,fb6,fb6,fb6,fb6,fb6,fb6,fb6,fb6,fb6,fb6,fb6,fb6,fb6,fb6,fb6,fb6,fb6,fb6,fb6,fb6,fb6,fb6,fb6,fb6,fb6]
def ba6_11 : Array Bool := #[tb6,tb6,tb6,tb6,tb6,tb6,tb6,tb6,tb6,tb6,tb6,fb6,fb6,fb6,fb6,fb6,fb6,fb6,fb6,fb6,fb6,fb6,fb6,fb6,fb6,fb6,fb6,fb6,fb6,fb6,fb6,fb6,fb6,fb6,fb6,fb6]
def ba6_12 : Array Bool := #[tb6,tb6,tb6,tb6,tb6,tb6,tb6,tb6,tb6,tb6,tb6,tb6,fb6,fb6,fb6,fb6,fb6,fb6,fb6,fb6,fb6,fb6,fb6,fb6,fb6,fb6,fb6,fb6,fb6,fb6,fb6,fb6,fb6,fb6,fb6,fb6]
def ba6_13 : Array Bool := #[tb6,tb6,tb6,tb6,tb6,tb6,tb6,tb6,tb6,tb6,tb6,tb6,tb6,fb6,fb6,fb6,fb6,fb6,fb6,fb6,fb6,fb6,fb6,fb6,fb6,fb6,fb6,fb6,fb6,fb6,fb6,fb6,fb6,fb6,fb6,fb6]
def ba6_14 : Array Bool := #[tb6,tb6,tb6,tb6,tb6,tb6,tb6,tb6,tb6,tb6,tb6,tb6,tb6,tb6,fb6,fb6,fb6,fb6,fb6,fb6,fb6,fb6,fb6,fb6,fb6,fb6,fb6,fb6,fb6,fb6,fb6,fb6,fb6,fb6,fb6,fb6]
def ba6_15 : Array Bool := #[tb6,tb6,tb6,tb6,tb6,tb6,tb6,tb6,tb6,tb6,tb6,tb6,tb6,tb6,tb6,fb6,fb6,fb6,fb6,fb6,fb6,fb6,fb6,fb6,fb6,fb6,fb6,fb6,fb6,fb6,fb6,fb6,fb6,fb6,fb6,fb6]
def ba6_16 : Array Bool := #[tb6,tb6,tb6,tb6,tb6,tb6,tb6,tb6,tb6,tb6,tb6,tb6,tb6,tb6,tb6,tb6,fb6,fb6,fb6,fb6,fb6,fb6,fb6,fb6,fb6,fb6,fb6,fb6,fb6,fb6,fb6,fb6,fb6,fb6,fb6,fb6]
def ba6_17 : Array Bool := #[tb6,tb6,tb6,tb6,tb6,tb6,tb6,tb6,tb6,tb6,tb6,tb6,tb6,tb6,tb6,tb6,tb6,fb6,fb6,fb6,fb6,fb6,fb6,fb6,fb6,fb6,fb6,fb6,fb6,fb6,fb6,fb6,fb6,fb6,fb6,fb6]
def ba6_18 : Array Bool := #[tb6,tb6,tb6,tb6,tb6,tb6,tb6,tb6,tb6,tb6,tb6,tb6,tb6,tb6,tb6,tb6,tb6,tb6,fb6,fb6,fb6,fb6,fb6,fb6,fb6,fb6,fb6,fb6,fb6,fb6,fb6,fb6,fb6,fb6,fb6,fb6]
def ba6_19 : Array Bool := #[tb6,tb6,tb6,tb6,tb6,tb6,tb6,tb6,tb6,tb6,tb6,tb6,tb6,tb6,tb6,tb6,tb6,tb6,tb6,fb6,fb6,fb6,fb6,fb6,fb6,fb6,fb6,fb6,fb6,fb6,fb6,fb6,fb6,fb6,fb6,fb6]
def ba6_20 : Array Bool := #[tb6,tb6,tb6,tb6,tb6,tb6,tb6,tb6,tb6,tb6,tb6,tb6,tb6,tb6,tb6,tb6,tb6,tb6,tb6,tb6,fb6,fb6,fb6,fb6,fb6,fb6,fb6,fb6,fb6,fb6,fb6,fb6,fb6,fb6,fb6,fb6]
def ba6_21 : Array Bool := #[tb6,tb6,tb6,tb6,tb6,tb6,tb6,tb6,tb6,tb6,tb6,tb6,tb6,tb6,tb6,tb6,tb6,tb6,tb6,tb6,tb6,fb6,fb6,fb6,fb6,fb6,fb6,fb6,fb6,fb6,fb6,fb6,fb6,fb6,fb6,fb6]
def ba6_22 : Array Bool := #[tb6,tb6,tb6,tb6,tb6,tb6,tb6,tb6,tb6,tb6,tb6,tb6,tb6,tb6,tb6,tb6,tb6,tb6,tb6,tb6,tb6,tb6,fb6,fb6,fb6,fb6,fb6,fb6,fb6,fb6,fb6,fb6,fb6,fb6,fb6,fb6]
def ba6_23 : Array Bool := #[tb6,tb6,tb6,tb6,tb6,tb6,tb6,tb6,tb6,tb6,tb6,tb6,tb6,tb6,tb6,tb6,tb6,tb6,tb6,tb6,tb6,tb6,tb6,fb6,fb6,fb6,fb6,fb6,fb6,fb6,fb6,fb6,fb6,fb6,fb6,fb6]
def ba6_24 : Array Bool := #[tb6,tb6,tb6,tb6,tb6,tb6,tb6,tb6,tb6,tb6,tb6,tb6,tb6,tb6,tb6,tb6,tb6,tb6,tb6,tb6,tb6,tb6,tb6,tb6,fb6,fb6,fb6,fb6,fb6,fb6,fb6,fb6,fb6,fb6,fb6,fb6]
def ba6_25 : Array Bool := #[tb6,tb6,tb6,tb6,tb6,tb6,tb6,tb6,tb6,tb6,tb6,tb6,tb6,tb6,tb6,tb6,tb6,tb6,tb6,tb6,tb6,tb6,tb6,tb6,tb6,fb6,fb6,fb6,fb6,fb6,fb6,fb6,fb6,fb6,fb6,fb6]
def ba6_26 : Array Bool := #[tb6,tb6,tb6,tb6,tb6,tb6,tb6,tb6,tb6,tb6,tb6,tb6,tb6,tb6,tb6,tb6,tb6,tb6,tb6,tb6,tb6,tb6,tb6,tb6,tb6,tb6,fb6,fb6,fb6,fb6,fb6,fb6,fb6,fb6,fb6,fb6]
def ba6_27 : Array Bool := #[tb6,tb6,tb6,tb6,tb6,tb6,tb6,tb6,tb6,tb6,tb6,tb6,tb6,tb6,tb6,tb6,tb6,tb6,tb6,tb6,tb6,tb6,tb6,tb6,tb6,tb6,tb6,fb6,fb6,fb6,fb6,fb6,fb6,fb6,fb6,fb6]
def ba6_28 : Array Bool := #[tb6,tb6,tb6,tb6,tb6,tb6,tb6,tb6,tb6,tb6,tb6,tb6,tb6,tb6,tb6,tb6,tb6,tb6,tb6,tb6,tb6,tb6,tb6,tb6,tb6,tb6,tb6,tb6,fb6,fb6,fb6,fb6,fb6,fb6,fb6,fb6]
def ba6_29 : Array Bool := #[tb6,tb6,tb6,tb6,tb6,tb6,tb6,tb6,tb6,tb6,tb6,tb6,tb6,tb6,tb6,tb6,tb6,tb6,tb6,tb6,tb6,tb6,tb6,tb6,tb6,tb6,tb6,tb6,tb6,fb6,fb6,fb6,fb6,fb6,fb6,fb6]
def ba6_30 : Array Bool := #[tb6,tb6,tb6,tb6,tb6,tb6,tb6,tb6,tb6,tb6,tb6,tb6,tb6,tb6,tb6,tb6,tb6,tb6,tb6,tb6,tb6,tb6,tb6,tb6,tb6,tb6,tb6,tb6,tb6,tb6,fb6,fb6,fb6,fb6,fb6,fb6]
def ba6_31 : Array Bool := #[tb6,tb6,tb6,tb6,tb6,tb6,tb6,tb6,tb6,tb6,tb6,tb6,tb6,tb6,tb6,tb6,tb6,tb6,tb6,tb6,tb6,tb6,tb6,tb6,tb6,tb6,tb6,tb6,tb6,tb6,tb6,fb6,fb6,fb6,fb6,fb6]
def ba6_32 : Array Bool := #[tb6,tb6,tb6,tb6,tb6,tb6,tb6,tb6,tb6,tb6,tb6,tb6,tb6,tb6,tb6,tb6,tb6,tb6,tb6,tb6,tb6,tb6,tb6,tb6,tb6,tb6,tb6,tb6,tb6,tb6,tb6,tb6,fb6,fb6,fb6,fb6]
def ba6_33 : Array Bool := #[tb6,tb6,tb6,tb6,tb6,tb6,tb6,tb6,tb6,tb6,tb6,tb6,tb6,tb6,tb6,tb6,tb6,tb6,tb6,tb6,tb6,tb6,tb6,tb6,tb6,tb6,tb6,tb6,tb6,tb6,tb6,tb6,tb6,fb6,fb6,fb6]
def ba6_34 : Array Bool := #[tb6,tb6,tb6,tb6,tb6,tb6,tb6,tb6,tb6,tb6,tb6,tb6,tb6,tb6,tb6,tb6,tb6,tb6,tb6,tb6,tb6,tb6,tb6,tb6,tb6,tb6,tb6,tb6,tb6,tb6,tb6,tb6,tb6,tb6,fb6,fb6]
def ba6_35 : Array Bool := #[tb6,tb6,tb6,tb6,tb6,tb6,tb6,tb6,tb6,tb6,tb6,tb6,tb6,tb6,tb6,tb6,tb6,tb6,tb6,tb6,tb6,tb6,tb6,tb6,tb6,tb6,tb6,tb6,tb6,tb6,tb6,tb6,tb6,tb6,tb6,fb6]
def ba6_36 : Array Bool := #[tb6,tb6,tb6,tb6,tb6,tb6,tb6,tb6,tb6,tb6,tb6,tb6,tb6,tb6,tb6,tb6,tb6,tb6,tb6,tb6,tb6,tb6,tb6,tb6,tb6,tb6,tb6,tb6,tb6,tb6,tb6,tb6,tb6,tb6,tb6,tb6]
def ba6_37 : Array Bool := #[tb6,tb6,tb6,tb6,tb6,tb6,tb6,tb6,tb6,tb6,tb6,tb6,tb6,tb6,tb6,tb6,tb6,tb6,tb6,tb6,tb6,fb6,tb6,fb6,fb6,fb6,fb6,fb6,fb6,fb6,fb6,fb6,fb6,fb6,fb6,fb6]
def ba6_38 : Array Bool := #[tb6,tb6,tb6,tb6,tb6,tb6,tb6,tb6,tb6,tb6,tb6,tb6,tb6,tb6,tb6,tb6,tb6,tb6,tb6,tb6,tb6,fb6,tb6,fb6,tb6,fb6,fb6,fb6,fb6,fb6,fb6,fb6,fb6,fb6,fb6,fb6]
def ba6_39 : Array Bool := #[tb6,tb6,tb6,tb6,tb6,tb6,tb6,tb6,tb6,tb6,tb6,tb6,tb6,tb6,tb6,tb6,tb6,tb6,tb6,tb6,tb6,fb6,tb6,fb6,tb6,fb6,fb6,fb6,tb6,fb6,fb6,fb6,fb6,fb6,fb6,fb6]
def ba6_40 : Array Bool := #[tb6,tb6,tb6,tb6,tb6,tb6,tb6,tb6,tb6,tb6,tb6,tb6,tb6,tb6,tb6,tb6,tb6,tb6,tb6,tb6,tb6,fb6,tb6,fb6,tb6,fb6,fb6,fb6,tb6,fb6,tb6,fb6,fb6,fb6,fb6,fb6]
def ba6_41 : Array Bool := #[tb6,tb6,tb6,tb6,tb6,tb6,tb6,tb6,tb6,tb6,tb6,tb6,tb6,tb6,tb6,tb6,tb6,tb6,tb6,tb6,tb6,tb6,tb6,fb6,tb6,fb6,fb6,fb6,tb6,fb6,tb6,fb6,fb6,fb6,fb6,fb6]
def ba6_42 : Array Bool := #[tb6,tb6,tb6,tb6,tb6,tb6,tb6,tb6,tb6,tb6,tb6,tb6,tb6,tb6,tb6,tb6,tb6,tb6,tb6,tb6,tb6,tb6,tb6,fb6,tb6,fb6,fb6,tb6,tb6,fb6,tb6,fb6,fb6,fb6,fb6,fb6]
def ba6_43 : Array Bool := #[tb6,tb6,tb6,tb6,tb6,tb6,tb6,tb6,tb6,tb6,tb6,tb6,tb6,tb6,tb6,tb6,tb6,tb6,tb6,tb6,tb6,tb6,tb6,tb6,tb6,fb6,fb6,tb6,tb6,fb6,tb6,fb6,fb6,fb6,fb6,fb6]
def ba6_44 : Array Bool := #[tb6,tb6,tb6,tb6,tb6,tb6,tb6,tb6,tb6,tb6,tb6,tb6,tb6,tb6,tb6,tb6,tb6,tb6,tb6,tb6,tb6,tb6,tb6,tb6,tb6,tb6,fb6,tb6,tb6,fb6,tb6,fb6,fb6,fb6,fb6,fb6]
def ba6_45 : Array Bool := #[tb6,tb6,tb6,tb6,tb6,tb6,tb6,tb6,tb6,tb6,tb6,tb6,tb6,tb6,tb6,tb6,tb6,tb6,tb6,tb6,tb6,tb6,tb6,tb6,tb6,tb6,tb6,tb6,tb6,fb6,tb6,fb6,fb6,fb6,fb6,fb6]
def ba6_46 : Array Bool := #[fb6,fb6,fb6,fb6,fb6,fb6,fb6,fb6,fb6,fb6,fb6,fb6,fb6,fb6,fb6,fb6]
def ba6_47 : Array Bool := #[tb6,fb6,fb6,fb6,fb6,fb6,fb6,fb6,fb6,fb6,fb6,fb6,fb6,fb6,fb6,fb6]
def ba6_48 : Array Bool := #[tb6,tb6,fb6,fb6,fb6,fb6,fb6,fb6,fb6,fb6,fb6,fb6,fb6,fb6,fb6,fb6]
def ba6_49 : Array Bool := #[tb6,tb6,tb6,fb6,fb6,fb6,fb6,fb6,fb6,fb6,fb6,fb6,fb6,fb6,fb6,fb6]
def ba6_50 : Array Bool := #[tb6,tb6,tb6,tb6,fb6,fb6,fb6,fb6,fb6,fb6,fb6,fb6,fb6,fb6,fb6,fb6]
def ba6_51 : Array Bool := #[tb6,tb6,tb6,tb6,fb6,tb6,fb6,fb6,fb6,fb6,fb6,fb6,fb6,fb6,fb6,fb6]
def ba6_52 : Array Bool := #[tb6,tb6,tb6,tb6,fb6,tb6,tb6,fb6,fb6,fb6,fb6,fb6,fb6,fb6,fb6,fb6]
def ba6_53 : Array Bool := #[tb6,tb6,tb6,tb6,fb6,tb6,tb6,tb6,fb6,fb6,fb6,fb6,fb6,fb6,fb6,fb6]
def ba6_54 : Array Bool := #[tb6,tb6,tb6,tb6,fb6,tb6,tb6,tb6,tb6,fb6,fb6,fb6,fb6,fb6,fb6,fb6]
def ba6_55 : Array Bool := #[tb6,tb6,tb6,tb6,fb6,tb6,tb6,tb6,tb6,fb6,fb6,fb6,tb6,fb6,fb6,fb6]
def ba6_56 : Array Bool := #[tb6,tb6,tb6,tb6,tb6,tb6,tb6,tb6,tb6,fb6,fb6,fb6,tb6,fb6,fb6,fb6]
def ba6_57 : Array Bool := #[tb6,tb6,tb6,tb6,tb6,tb6,tb6,tb6,tb6,tb6,fb6,fb6,tb6,fb6,fb6,fb6]
def ba6_58 : Array Bool := #[tb6,tb6,tb6,tb6,tb6,tb6,tb6,tb6,tb6,tb6,tb6,fb6,tb6,fb6,fb6,fb6]
def ba6_59 : Array Bool := #[tb6,tb6,tb6,tb6,tb6,tb6,tb6,tb6,tb6,tb6,tb6,tb6,tb6,fb6,fb6,fb6]
def ba6_60 : Array Bool := #[tb6,tb6,tb6,tb6,tb6,tb6,tb6,tb6,tb6,tb6,tb6,tb6,tb6,tb6,fb6,fb6]
def ba6_61 : Array Bool := #[tb6,tb6,tb6,tb6,tb6,tb6,tb6,tb6,tb6,tb6,tb6,tb6,tb6,tb6,tb6,fb6]
def ba6_62 : Array Bool := #[tb6,tb6,tb6,tb6,tb6,tb6,tb6,tb6,tb6,tb6,tb6,tb6,tb6,tb6,tb6,tb6]

/-! ### spec_Shares: function 19 -/
mutual
def spec_Shares.j0 : Nat → Int → Int → Int → Bool → Int → List (S76) → Option (List Int)
 | 0, _, _, _, _, _, _ => none
 | k + 1, x1, x2, x3, x36, x192000, x192001 => if x36 = true then (some ([] : List Int)) else (if x1 = x2 then (spec_Shares.j1 k x1 x2 x3 false x192000 x192001) else ((spec_HopsTo.f k x192000 x192001 x1 x2).bind fun t196 => (spec_Shares.j1 k x1 x2 x3 ((t196.length : Int) == 0) x192000 x192001)))
def spec_Shares.j1 : Nat → Int → Int → Int → Bool → Int → List (S76) → Option (List Int)
 | 0, _, _, _, _, _, _ => none
 | k + 1, x1, x2, x3, x47, x192000, x192001 => if x47 = true then (some ([] : List Int)) else (if 0 ≤ x192000 then (if (x192000 : Int).toNat ≤ 35184372088832 then ((some (List.replicate (x192000 : Int).toNat 0 : List Int)).bind fun y199 => (if 0 ≤ x1 then (if x1 < (y199.length : Int) then (if (x192000 : Int).toNat ≤ 281474976710656 then (spec_Shares.l0 k x2 (y199.set (x1 : Int).toNat x3) (List.replicate (x192000 : Int).toNat false) 0 x192000 x192001) else (none)) else (none)) else (none))) else (none)) else (none))
def spec_Shares.l0 : Nat → Int → List Int → List Bool → Int → Int → List (S76) → Option (List Int)
 | 0, _, _, _, _, _, _ => none
 | k + 1, x2, x9, x10, x11, x192000, x192001 => if x11 < x192000 then (spec_Shares.l1 k x2 x9 x10 x11 (-1) 0 x192000 x192001) else (some x9)
def spec_Shares.l1 : Nat → Int → List Int → List Bool → Int → Int → Int → Int → List (S76) → Option (List Int)
 | 0, _, _, _, _, _, _, _, _ => none
 | k + 1, x2, x9, x10, x11, x12, x13, x192000, x192001 => if x13 < x192000 then (if 0 ≤ x13 then (if x13 < (x10.length : Int) then (if rdOf false x10 x13 = true then (spec_Shares.l1 k x2 x9 x10 x11 x12 (wrap64 (x13 + 1)) x192000 x192001) else (if x13 = x2 then (spec_Shares.l1 k x2 x9 x10 x11 x12 (wrap64 (x13 + 1)) x192000 x192001) else (if x13 < (x9.length : Int) then (if (rd x9 x13) > 0 then (if x12 < 0 then (spec_Shares.l1 k x2 x9 x10 x11 x13 (wrap64 (x13 + 1)) x192000 x192001) else ((spec_Distances.f k x192000 x192001 x13).bind fun t208 => (if 0 ≤ x2 then (if x2 < (t208.length : Int) then ((spec_Distances.f k x192000 x192001 x12).bind fun t212 => (if x2 < (t212.length : Int) then (if (rd t208 x2) > (rd t212 x2) then (spec_Shares.l1 k x2 x9 x10 x11 x13 (wrap64 (x13 + 1)) x192000 x192001) else (spec_Shares.l1 k x2 x9 x10 x11 x12 (wrap64 (x13 + 1)) x192000 x192001)) else (none))) else (none)) else (none)))) else (spec_Shares.l1 k x2 x9 x10 x11 x12 (wrap64 (x13 + 1)) x192000 x192001)) else (none)))) else (none)) else (none)) else (if x12 < 0 then (some x9) else (if 0 ≤ x12 then (if x12 < (x10.length : Int) then ((spec_HopsTo.f k x192000 x192001 x12 x2).bind fun t217 => (spec_Shares.l2 k x2 x9 (x10.set (x12 : Int).toNat true) x11 x12 t217 0 x192000 x192001)) else (none)) else (none)))
def spec_Shares.l2 : Nat → Int → List Int → List Bool → Int → Int → List Int → Int → Int → List (S76) → Option (List Int)
 | 0, _, _, _, _, _, _, _, _, _ => none
 | k + 1, x2, x9, x10, x11, x12, x14, x15, x192000, x192001 => if x15 < (x14.length : Int) then (if 0 ≤ x12 then (if x12 < (x9.length : Int) then (if (x14.length : Int) = 0 then (none) else (if x15 < (Int.tmod (rd x9 x12) (x14.length : Int)) then (if 0 ≤ x15 then (if 0 ≤ (rd x14 x15) then (if (rd x14 x15) < (x9.length : Int) then (spec_Shares.l2 k x2 (x9.set ((rd x14 x15) : Int).toNat (wrap64 ((rd x9 (rd x14 x15)) + (wrap64 ((wrap64 (Int.tdiv (rd x9 x12) (x14.length : Int))) + 1))))) x10 x11 x12 x14 (wrap64 (x15 + 1)) x192000 x192001) else (none)) else (none)) else (none)) else (if 0 ≤ x15 then (if 0 ≤ (rd x14 x15) then (if (rd x14 x15) < (x9.length : Int) then (spec_Shares.l2 k x2 (x9.set ((rd x14 x15) : Int).toNat (wrap64 ((rd x9 (rd x14 x15)) + (wrap64 (Int.tdiv (rd x9 x12) (x14.length : Int)))))) x10 x11 x12 x14 (wrap64 (x15 + 1)) x192000 x192001) else (none)) else (none)) else (none)))) else (none)) else (none)) else (spec_Shares.l0 k x2 x9 x10 (wrap64 (x11 + 1)) x192000 x192001)
end
def spec_Shares.f (k : Nat) (a0_0 : Int) (l0_1 : List (S76)) (a1 : Int) (a2 : Int) (a3 : Int) : Option (List Int) := (spec_l01In.f a3 1 100000).bind fun t192 => (if t192 = true then ((spec_GraphOk.f k a0_0 l0_1).bind fun t193 => (if t193 = true then ((spec_l03Node.f a0_0 l0_1 a1).bind fun t194 => (if t194 = true then ((spec_l03Node.f a0_0 l0_1 a2).bind fun t195 => (spec_Shares.j0 k a1 a2 a3 (!t195) a0_0 l0_1)) else (spec_Shares.j0 k a1 a2 a3 true a0_0 l0_1))) else (spec_Shares.j0 k a1 a2 a3 true a0_0 l0_1))) else (spec_Shares.j0 k a1 a2 a3 true a0_0 l0_1))
theorem spec_Shares.mono_l : ∀ k, (∀ y0 y1 y2 y3 y4 y5, LeO (spec_Shares.j0 k y0 y1 y2 y3 y4 y5) (spec_Shares.j0 (k + 1) y0 y1 y2 y3 y4 y5)) ∧ (∀ y0 y1 y2 y3 y4 y5, LeO (spec_Shares.j1 k y0 y1 y2 y3 y4 y5) (spec_Shares.j1 (k + 1) y0 y1 y2 y3 y4 y5)) ∧ (∀ y0 y1 y2 y3 y4 y5, LeO (spec_Shares.l0 k y0 y1 y2 y3 y4 y5) (spec_Shares.l0 (k + 1) y0 y1 y2 y3 y4 y5)) ∧ (∀ y0 y1 y2 y3 y4 y5 y6 y7, LeO (spec_Shares.l1 k y0 y1 y2 y3 y4 y5 y6 y7) (spec_Shares.l1 (k + 1) y0 y1 y2 y3 y4 y5 y6 y7)) ∧ (∀ y0 y1 y2 y3 y4 y5 y6 y7 y8, LeO (spec_Shares.l2 k y0 y1 y2 y3 y4 y5 y6 y7 y8) (spec_Shares.l2 (k + 1) y0 y1 y2 y3 y4 y5 y6 y7 y8))
 | 0 => ⟨fun _ _ _ _ _ _ r h => by simp [spec_Shares.j0] at h, fun _ _ _ _ _ _ r h => by simp [spec_Shares.j1] at h, fun _ _ _ _ _ _ r h => by simp [spec_Shares.l0] at h, fun _ _ _ _ _ _ _ _ r h => by simp [spec_Shares.l1] at h, fun _ _ _ _ _ _ _ _ _ r h => by simp [spec_Shares.l2] at h⟩
 | k + 1 => by
  obtain ⟨ih0, ih1, ih2, ih3, ih4⟩ := spec_Shares.mono_l k
  refine ⟨?_, ?_, ?_, ?_, ?_⟩
  ·intro y0 y1 y2 y3 y4 y5
   unfold spec_Shares.j0
   repeat' first
   | (with_reducible exact ih0 _ _ _ _ _ _)
   | (with_reducible exact ih1 _ _ _ _ _ _)
   | (with_reducible exact ih2 _ _ _ _ _ _)
   | (with_reducible exact ih3 _ _ _ _ _ _ _ _)
   | (with_reducible exact ih4 _ _ _ _ _ _ _ _ _)
   | (with_reducible exact spec_Distances.mono _ _ _ _)
   | (with_reducible exact spec_GraphOk.mono _ _ _)
   | (with_reducible exact spec_HopsTo.mono _ _ _ _ _)
   | (with_reducible exact LeO.refl _)
   | (with_reducible exact LeO.none _)
   | (with_reducible refine LeO.ite ?_ ?_)
   | (with_reducible refine LeO.bind ?_ (fun _ => ?_))
   | exact ih0 _ _ _ _ _ _
   | exact ih1 _ _ _ _ _ _
   | exact ih2 _ _ _ _ _ _
   | exact ih3 _ _ _ _ _ _ _ _
   | exact ih4 _ _ _ _ _ _ _ _ _
   | exact spec_Distances.mono _ _ _ _
   | exact spec_GraphOk.mono _ _ _
   | exact spec_HopsTo.mono _ _ _ _ _
   | exact LeO.none _
   | refine LeO.ite ?_ ?_
   | refine LeO.bind ?_ (fun _ => ?_)
  ·intro y0 y1 y2 y3 y4 y5
   unfold spec_Shares.j1
   repeat' first
   | (with_reducible exact ih0 _ _ _ _ _ _)
   | (with_reducible exact ih1 _ _ _ _ _ _)
   | (with_reducible exact ih2 _ _ _ _ _ _)
   | (with_reducible exact ih3 _ _ _ _ _ _ _ _)
   | (with_reducible exact ih4 _ _ _ _ _ _ _ _ _)
   | (with_reducible exact spec_Distances.mono _ _ _ _)
   | (with_reducible exact spec_GraphOk.mono _ _ _)
   | (with_reducible exact spec_HopsTo.mono _ _ _ _ _)
   | (with_reducible exact LeO.refl _)
   | (with_reducible exact LeO.none _)
   | (with_reducible refine LeO.ite ?_ ?_)
   | (with_reducible refine LeO.bind ?_ (fun _ => ?_))
   | exact ih0 _ _ _ _ _ _
   | exact ih1 _ _ _ _ _ _
   | exact ih2 _ _ _ _ _ _
   | exact ih3 _ _ _ _ _ _ _ _
   | exact ih4 _ _ _ _ _ _ _ _ _
   | exact spec_Distances.mono _ _ _ _
   | exact spec_GraphOk.mono _ _ _
   | exact spec_HopsTo.mono _ _ _ _ _
   | exact LeO.none _
   | refine LeO.ite ?_ ?_
   | refine LeO.bind ?_ (fun _ => ?_)
  ·intro y0 y1 y2 y3 y4 y5
   unfold spec_Shares.l0
   repeat' first
   | (with_reducible exact ih0 _ _ _ _ _ _)
   | (with_reducible exact ih1 _ _ _ _ _ _)
   | (with_reducible exact ih2 _ _ _ _ _ _)
   | (with_reducible exact ih3 _ _ _ _ _ _ _ _)
   | (with_reducible exact ih4 _ _ _ _ _ _ _ _ _)
   | (with_reducible exact spec_Distances.mono _ _ _ _)
   | (with_reducible exact spec_GraphOk.mono _ _ _)
   | (with_reducible exact spec_HopsTo.mono _ _ _ _ _)
   | (with_reducible exact LeO.refl _)
   | (with_reducible exact LeO.none _)
   | (with_reducible refine LeO.ite ?_ ?_)
   | (with_reducible refine LeO.bind ?_ (fun _ => ?_))
   | exact ih0 _ _ _ _ _ _
   | exact ih1 _ _ _ _ _ _
   | exact ih2 _ _ _ _ _ _
   | exact ih3 _ _ _ _ _ _ _ _
   | exact ih4 _ _ _ _ _ _ _ _ _
   | exact spec_Distances.mono _ _ _ _
   | exact spec_GraphOk.mono _ _ _
   | exact spec_HopsTo.mono _ _ _ _ _
   | exact LeO.none _
   | refine LeO.ite ?_ ?_
   | refine LeO.bind ?_ (fun _ => ?_)
  ·intro y0 y1 y2 y3 y4 y5 y6 y7
   unfold spec_Shares.l1
   repeat' first
   | (with_reducible exact ih0 _ _ _ _ _ _)
   | (with_reducible exact ih1 _ _ _ _ _ _)
   | (with_reducible exact ih2 _ _ _ _ _ _)
   | (with_reducible exact ih3 _ _ _ _ _ _ _ _)
   | (with_reducible exact ih4 _ _ _ _ _ _ _ _ _)
   | (with_reducible exact spec_Distances.mono _ _ _ _)
   | (with_reducible exact spec_GraphOk.mono _ _ _)
   | (with_reducible exact spec_HopsTo.mono _ _ _ _ _)
   | (with_reducible exact LeO.refl _)
   | (with_reducible exact LeO.none _)
   | (with_reducible refine LeO.ite ?_ ?_)
   | (with_reducible refine LeO.bind ?_ (fun _ => ?_))
   | exact ih0 _ _ _ _ _ _
   | exact ih1 _ _ _ _ _ _
   | exact ih2 _ _ _ _ _ _
   | exact ih3 _ _ _ _ _ _ _ _
   | exact ih4 _ _ _ _ _ _ _ _ _
   | exact spec_Distances.mono _ _ _ _
   | exact spec_GraphOk.mono _ _ _
   | exact spec_HopsTo.mono _ _ _ _ _
   | exact LeO.none _
   | refine LeO.ite ?_ ?_
   | refine LeO.bind ?_ (fun _ => ?_)
  ·intro y0 y1 y2 y3 y4 y5 y6 y7 y8
   unfold spec_Shares.l2
   repeat' first
   | (with_reducible exact ih0 _ _ _ _ _ _)
   | (with_reducible exact ih1 _ _ _ _ _ _)
   | (with_reducible exact ih2 _ _ _ _ _ _)
   | (with_reducible exact ih3 _ _ _ _ _ _ _ _)
   | (with_reducible exact ih4 _ _ _ _ _ _ _ _ _)
   | (with_reducible exact spec_Distances.mono _ _ _ _)
   | (with_reducible exact spec_GraphOk.mono _ _ _)
   | (with_reducible exact spec_HopsTo.mono _ _ _ _ _)
   | (with_reducible exact LeO.refl _)
   | (with_reducible exact LeO.none _)
   | (with_reducible refine LeO.ite ?_ ?_)
   | (with_reducible refine LeO.bind ?_ (fun _ => ?_))
   | exact ih0 _ _ _ _ _ _
   | exact ih1 _ _ _ _ _ _
   | exact ih2 _ _ _ _ _ _
   | exact ih3 _ _ _ _ _ _ _ _
   | exact ih4 _ _ _ _ _ _ _ _ _
   | exact spec_Distances.mono _ _ _ _
   | exact spec_GraphOk.mono _ _ _
   | exact spec_HopsTo.mono _ _ _ _ _
   | exact LeO.none _
   | refine LeO.ite ?_ ?_
   | refine LeO.bind ?_ (fun _ => ?_)
theorem spec_Shares.mono : ∀ a0 a1 a2 a3 a4 k, LeO (spec_Shares.f k a0 a1 a2 a3 a4) (spec_Shares.f (k + 1) a0 a1 a2 a3 a4) := by
 intro a0 a1 a2 a3 a4 k
 obtain ⟨ih0, ih1, ih2, ih3, ih4⟩ := spec_Shares.mono_l k
 unfold spec_Shares.f
 repeat' first
   | (with_reducible exact ih0 _ _ _ _ _ _)
   | (with_reducible exact ih1 _ _ _ _ _ _)
   | (with_reducible exact ih2 _ _ _ _ _ _)
   | (with_reducible exact ih3 _ _ _ _ _ _ _ _)
   | (with_reducible exact ih4 _ _ _ _ _ _ _ _ _)
   | (with_reducible exact spec_Distances.mono _ _ _ _)
   | (with_reducible exact spec_GraphOk.mono _ _ _)
   | (with_reducible exact spec_HopsTo.mono _ _ _ _ _)
   | (with_reducible exact LeO.refl _)
   | (with_reducible exact LeO.none _)
   | (with_reducible refine LeO.ite ?_ ?_)
   | (with_reducible refine LeO.bind ?_ (fun _ => ?_))
   | exact ih0 _ _ _ _ _ _
   | exact ih1 _ _ _ _ _ _
   | exact ih2 _ _ _ _ _ _
   | exact ih3 _ _ _ _ _ _ _ _
   | exact ih4 _ _ _ _ _ _ _ _ _
   | exact spec_Distances.mono _ _ _ _
   | exact spec_GraphOk.mono _ _ _
   | exact spec_HopsTo.mono _ _ _ _ _
   | exact LeO.none _
   | refine LeO.ite ?_ ?_
   | refine LeO.bind ?_ (fun _ => ?_)
def spec_Shares.T15 : Bool × List (List Nat × List Nat) := (true, [([], []), ([], []), ([0, 1], [0, 1]), ([2], [2]), ([3], [3]), ([4], [4]), ([5], [5]), ([5], [5]), ([6, 7, 5], [5, 6, 7]), ([5, 8], [5, 8]), ([9, 5], [9]), ([10], [10]), ([10], [10]), ([11, 12, 10], [10, 11, 12]), ([13, 10], [10, 13]), ([14, 10], [10, 14]), ([10, 15], [10, 15]), ([16, 10], [16]), ([17], [17]), ([18, 17], [17, 18]), ([19, 17, 17], [17, 19]), ([20], [20]), ([20], [20]), ([21, 22, 20, 20], [20, 21, 22]), ([20], [20]), ([23, 24, 20], [20, 23, 24]), ([25, 20], [20, 25]), ([20], [20]), ([20], [20]), ([27, 28, 23, 20], [20, 27, 28]), ([20], [20]), ([29, 30, 20], [20, 29, 30]), ([31, 20], [20, 31]), ([26, 32, 20], [20, 26, 32]), ([20, 33, 17], [17, 20, 33]), ([17, 34], [17, 34])])
def spec_Shares.B15 : List Nat := [0, 0, 3, 7, 15, 31, 63, 63, 255, 511, 1023, 2047, 2047, 8191, 16383, 32767, 65535, 131071, 262143, 524287, 1048575, 2097151, 2097151, 8388607, 2097151, 33554431, 67108863, 2097151, 2097151, 419430399, 2097151, 2030043135, 4177526783, 8589934591, 17179869183, 34359738367]
theorem spec_Shares.tab15 : rtab .any (opsOf Try.f19 15) = spec_Shares.T15 := by kernel_rfl
theorem spec_Shares.bits15 : waitsOk spec_Shares.T15.2 spec_Shares.B15 = true := by kernel_rfl
def spec_Shares.T26 : Bool × List (List Nat × List Nat) := (true, [([], []), ([], []), ([], []), ([1, 2], [1, 2]), ([3], [3]), ([], []), ([], []), ([], []), ([6, 7], [6, 7]), ([8], [8]), ([5, 9], [5, 9]), ([10], [10]), ([], []), ([11, 12], [11, 12]), ([0, 4, 0, 1, 2, 3, 4, 5, 6, 7, 8, 9, 10, 11, 12, 13], [0, 4]), ([14, 13, 0, 1, 2, 3, 4, 5, 6, 7, 8, 9, 10, 11, 12, 13], [13, 14])])
def spec_Shares.B26 : List Nat := [0, 0, 0, 6, 14, 0, 0, 0, 192, 448, 992, 2016, 0, 8160, 16383, 32767]
theorem spec_Shares.tab26 : rtab .any (opsOf Try.f19 26) = spec_Shares.T26 := by kernel_rfl
theorem spec_Shares.bits26 : waitsOk spec_Shares.T26.2 spec_Shares.B26 = true := by kernel_rfl
set_option maxHeartbeats 8000000 in
set_option maxRecDepth 100000 in
theorem spec_Shares.calls (k : Nat) (a0_0 : Int) (A0_1 : Option Addr) (c0_1 : Nat) (l0_1 : List (S76)) (a1 : Int) (a2 : Int) (a3 : Int) (r : List Int) (w : World) (hr0_1 : Kd.C k76 w A0_1 l0_1.length l0_1) (hc0_1 : l0_1.length ≤ c0_1) (h : spec_Shares.f k a0_0 l0_1 a1 a2 a3 = some r) :
  Calls Try.prog 19 #[.agg #[.int .i64 a0_0, .slice A0_1 l0_1.length c0_1], .int .i64 a1, .int .i64 a2, .int .i64 a3] w fun e w' => ∃ v0_ : Value, e = .returned (v0_) ∧ Kd.R (Kd.int .i64) 3 w' w.heap.size (fun _ => True) v0_ r ∧ Below w.heap.size w w' := by
 have hu30 := Try.underlying30
 have HR0_1 := Aside0.mk hr0_1
 have HC0_1 := Aside0.mk hc0_1
 clear hr0_1 hc0_1
 have HB := Aside0.mk (Below.refl w.heap.size w)
 have H : ((spec_l01In.f a3 1 100000).bind fun t192 => (if t192 = true then ((spec_GraphOk.f k a0_0 l0_1).bind fun t193 => (if t193 = true then ((spec_l03Node.f a0_0 l0_1 a1).bind fun t194 => (if t194 = true then ((spec_l03Node.f a0_0 l0_1 a2).bind fun t195 => (spec_Shares.j0 k a1 a2 a3 (!t195) a0_0 l0_1)) else (spec_Shares.j0 k a1 a2 a3 true a0_0 l0_1))) else (spec_Shares.j0 k a1 a2 a3 true a0_0 l0_1))) else (spec_Shares.j0 k a1 a2 a3 true a0_0 l0_1))) = some r := h
 clear h
 have HC5 := Aside0.mk H
 clear H
 go_enter Try.func19, Try.ntmps19
 go_upto_region 1 with (first | ((with_reducible refine gate_dst (N := 4) rfl ?_); refine box_event ?hg (N := 4) ?hd (cs := #[.int .i64 a0_0, .slice A0_1 l0_1.length c0_1]) (t := 30) ?hr ?_; (case hd => rfl); (case hg => rfl); (case hr => first | (go_simp; done) | (go_simp; rfl)); intro gb191 hg w6 hbox hb; have BK191 := Aside0.mk hbox; have GW191 := ge_ HB hg; have GE191 := ge_ HB hg; replace HB := Aside0.mk (bt_ HB hb); clear hb hbox hg))
 (try simp only [Act.put, List.setIfInBounds_toArray, List.set_cons_zero, List.set_cons_succ])
 go_cut [36] (fun v36 wc => ∃ (kq : Nat) (x36_4 : Bool), v36 = .bool x36_4 ∧ Aside0 (spec_Shares.j0 kq a1 a2 a3 x36_4 a0_0 l0_1 = some r) ∧ Aside0 (kq ≤ k) ∧ Aside0 (wc.heap[gb191]? = some (.cells #[.int .i64 a0_0, (.slice A0_1 l0_1.length c0_1)] 30 (0, 0))) ∧ Aside0 (Below w.heap.size w wc))
 case first =>
  have H := HC5.out
  clear HC5
  replace H := Option.bind_eq_some_iff.mp H
  obtain ⟨t192, A70, H⟩ := H
  have A7 := Aside0.mk A70
  clear A70
  by_cases c8 : t192 = true
  rotate_left
  ·replace c8 := Bool.eq_false_iff.mpr c8
   subst c8
   rw [if_neg (show ¬ (false = true) by decide)] at H
   have H' := Aside0.mk H
   clear H
   go_wp2_with (first | ((with_reducible refine gate_callee (f := 52) rfl ?_); refine gl_ (some 18) Try.func52 #[.int .i64 a3, .int .i64 1, .int .i64 100000] ?_; (with_reducible refine (spec_l01In.calls a3 1 100000 false _ A7.out).mono ?_); rintro e w' ⟨rfl, ⟨nd, rfl⟩⟩; refine ⟨_, rfl, ?_⟩))
   go_meet
   case rel => exact ⟨_, (true), (by first | rfl | (simp; done) | (simp [*]; done)), H', ⟨by first | omega | exact Nat.le_refl _⟩, ⟨by (with_reducible repeat (first | refine blk_drewN ?_ _ | refine blk_drew ?_ | refine blk_alloc ?_ _)); exact BK191.out⟩, ⟨by repeat (first | (with_reducible first | exact HB.out | apply below_alloc | apply pw_below_drewN | apply below_drew1 | refine below_set ?_ GE191.out) | exact HB.out)⟩⟩
  subst c8
  rw [if_pos rfl] at H
  replace H := Option.bind_eq_some_iff.mp H
  obtain ⟨t193, A90, H⟩ := H
  have A9 := Aside0.mk A90
  clear A90
  by_cases c10 : t193 = true
  rotate_left
  ·replace c10 := Bool.eq_false_iff.mpr c10
   subst c10
   rw [if_neg (show ¬ (false = true) by decide)] at H
   have H' := Aside0.mk H
   clear H
   go_wp2_with (first | ((with_reducible refine gate_callee (f := 52) rfl ?_); refine gl_ (some 18) Try.func52 #[.int .i64 a3, .int .i64 1, .int .i64 100000] ?_; (with_reducible refine (spec_l01In.calls a3 1 100000 true _ A7.out).mono ?_); rintro e w' ⟨rfl, ⟨nd, rfl⟩⟩; refine ⟨_, rfl, ?_⟩; have hcz24_0 := cz_ BK191 0 (.int .i64 a0_0); have hcz24_1 := cz_ BK191 1 (.slice A0_1 l0_1.length c0_1); have hfz24_0 := blk_frozen BK191.out 0; have hfz24_1 := blk_frozen BK191.out 1) | (go_at_call 25; (with_reducible refine (spec_GraphOk.calls k a0_0 _ _ l0_1 false _ ?side1 ?side2 A9.out).mono ?_); (case side1 => exact cc_ HR0_1 HB); (case side2 => exact HC0_1.out); rintro e w25 ⟨rfl, hb⟩; replace BK191 := Aside0.mk (bb_ BK191 hb); replace HB := Aside0.mk (bt_ HB hb); (try clear hb); (try clear hb2); (try clear hk); (try clear hi)))
   go_meet
   case rel => exact ⟨_, (true), (by first | rfl | (simp; done) | (simp [*]; done)), H', ⟨by first | omega | exact Nat.le_refl _⟩, ⟨by (with_reducible repeat (first | refine blk_drewN ?_ _ | refine blk_drew ?_ | refine blk_alloc ?_ _)); exact BK191.out⟩, ⟨by repeat (first | (with_reducible first | exact HB.out | apply below_alloc | apply pw_below_drewN | apply below_drew1 | refine below_set ?_ GE191.out) | exact HB.out)⟩⟩
  subst c10
  rw [if_pos rfl] at H
  replace H := Option.bind_eq_some_iff.mp H
  obtain ⟨t194, A110, H⟩ := H
  have A11 := Aside0.mk A110
  clear A110
  by_cases c12 : t194 = true
  rotate_left
  ·replace c12 := Bool.eq_false_iff.mpr c12
   subst c12
   rw [if_neg (show ¬ (false = true) by decide)] at H
   have H' := Aside0.mk H
   clear H
   go_wp2_with (first | ((with_reducible refine gate_callee (f := 52) rfl ?_); refine gl_ (some 18) Try.func52 #[.int .i64 a3, .int .i64 1, .int .i64 100000] ?_; (with_reducible refine (spec_l01In.calls a3 1 100000 true _ A7.out).mono ?_); rintro e w' ⟨rfl, ⟨nd, rfl⟩⟩; refine ⟨_, rfl, ?_⟩; have hcz20_0 := cz_ BK191 0 (.int .i64 a0_0); have hcz20_1 := cz_ BK191 1 (.slice A0_1 l0_1.length c0_1); have hfz20_0 := blk_frozen BK191.out 0; have hfz20_1 := blk_frozen BK191.out 1) | (go_at_call 25; (with_reducible refine (spec_GraphOk.calls k a0_0 _ _ l0_1 true _ ?side1 ?side2 A9.out).mono ?_); (case side1 => exact cc_ HR0_1 HB); (case side2 => exact HC0_1.out); rintro e w21 ⟨rfl, hb⟩; replace BK191 := Aside0.mk (bb_ BK191 hb); replace HB := Aside0.mk (bt_ HB hb); (try clear hb); (try clear hb2); (try clear hk); (try clear hi); have hcz22_0 := cz_ BK191 0 (.int .i64 a0_0); have hcz22_1 := cz_ BK191 1 (.slice A0_1 l0_1.length c0_1); have hfz22_0 := blk_frozen BK191.out 0; have hfz22_1 := blk_frozen BK191.out 1) | (go_at_call 45; (with_reducible refine (spec_l03Node.calls a0_0 _ _ l0_1 a1 false _ ?side1 ?side2 A11.out).mono ?_); (case side1 => exact cb_ HR0_1 HB); (case side2 => exact HC0_1.out); rintro e w23 ⟨rfl, hb⟩; replace BK191 := Aside0.mk (bb_ BK191 hb); replace HB := Aside0.mk (bt_ HB hb); (try clear hb); (try clear hb2); (try clear hk); (try clear hi)))
   go_meet
   case rel => exact ⟨_, (true), (by first | rfl | (simp; done) | (simp [*]; done)), H', ⟨by first | omega | exact Nat.le_refl _⟩, ⟨by (with_reducible repeat (first | refine blk_drewN ?_ _ | refine blk_drew ?_ | refine blk_alloc ?_ _)); exact BK191.out⟩, ⟨by repeat (first | (with_reducible first | exact HB.out | apply below_alloc | apply pw_below_drewN | apply below_drew1 | refine below_set ?_ GE191.out) | exact HB.out)⟩⟩
  subst c12
  rw [if_pos rfl] at H
  replace H := Option.bind_eq_some_iff.mp H
  obtain ⟨t195, A130, H⟩ := H
  have A13 := Aside0.mk A130
  clear A130
  have H' := Aside0.mk H
  clear H
  go_wp2_with (first | ((with_reducible refine gate_callee (f := 52) rfl ?_); refine gl_ (some 18) Try.func52 #[.int .i64 a3, .int .i64 1, .int .i64 100000] ?_; (with_reducible refine (spec_l01In.calls a3 1 100000 true _ A7.out).mono ?_); rintro e w' ⟨rfl, ⟨nd, rfl⟩⟩; refine ⟨_, rfl, ?_⟩; have hcz14_0 := cz_ BK191 0 (.int .i64 a0_0); have hcz14_1 := cz_ BK191 1 (.slice A0_1 l0_1.length c0_1); have hfz14_0 := blk_frozen BK191.out 0; have hfz14_1 := blk_frozen BK191.out 1) | (go_at_call 25; (with_reducible refine (spec_GraphOk.calls k a0_0 _ _ l0_1 true _ ?side1 ?side2 A9.out).mono ?_); (case side1 => exact cc_ HR0_1 HB); (case side2 => exact HC0_1.out); rintro e w15 ⟨rfl, hb⟩; replace BK191 := Aside0.mk (bb_ BK191 hb); replace HB := Aside0.mk (bt_ HB hb); (try clear hb); (try clear hb2); (try clear hk); (try clear hi); have hcz16_0 := cz_ BK191 0 (.int .i64 a0_0); have hcz16_1 := cz_ BK191 1 (.slice A0_1 l0_1.length c0_1); have hfz16_0 := blk_frozen BK191.out 0; have hfz16_1 := blk_frozen BK191.out 1) | (go_at_call 45; (with_reducible refine (spec_l03Node.calls a0_0 _ _ l0_1 a1 true _ ?side1 ?side2 A11.out).mono ?_); (case side1 => exact cb_ HR0_1 HB); (case side2 => exact HC0_1.out); rintro e w17 ⟨rfl, hb⟩; replace BK191 := Aside0.mk (bb_ BK191 hb); replace HB := Aside0.mk (bt_ HB hb); (try clear hb); (try clear hb2); (try clear hk); (try clear hi); have hcz18_0 := cz_ BK191 0 (.int .i64 a0_0); have hcz18_1 := cz_ BK191 1 (.slice A0_1 l0_1.length c0_1); have hfz18_0 := blk_frozen BK191.out 0; have hfz18_1 := blk_frozen BK191.out 1) | (go_at_call 45; (with_reducible refine (spec_l03Node.calls a0_0 _ _ l0_1 a2 t195 _ ?side1 ?side2 A13.out).mono ?_); (case side1 => exact cb_ HR0_1 HB); (case side2 => exact HC0_1.out); rintro e w19 ⟨rfl, hb⟩; replace BK191 := Aside0.mk (bb_ BK191 hb); replace HB := Aside0.mk (bt_ HB hb); (try clear hb); (try clear hb2); (try clear hk); (try clear hi)))
  go_meet
  case rel => exact ⟨_, (!t195), (by first | rfl | (simp; done) | (simp [*]; done)), H', ⟨by first | omega | exact Nat.le_refl _⟩, ⟨by (with_reducible repeat (first | refine blk_drewN ?_ _ | refine blk_drew ?_ | refine blk_alloc ?_ _)); exact BK191.out⟩, ⟨by repeat (first | (with_reducible first | exact HB.out | apply below_alloc | apply pw_below_drewN | apply below_drew1 | refine below_set ?_ GE191.out) | exact HB.out)⟩⟩
 case rest =>
  clear HC5
  try clear c1
  try clear p2
  try clear c5
  try clear c8
  try clear c10
  try clear c12
  try clear c19
  try clear hcz14_0
  try clear hcz14_1
  try clear hcz16_0
  try clear hcz16_1
  try clear hcz18_0
  try clear hcz18_1
  try clear hcz20_0
  try clear hcz20_1
  try clear hcz22_0
  try clear hcz22_1
  try clear hcz24_0
  try clear hcz24_1
  try clear hfz14_0
  try clear hfz14_1
  try clear hfz16_0
  try clear hfz16_1
  try clear hfz18_0
  try clear hfz18_1
  try clear hfz20_0
  try clear hfz20_1
  try clear hfz22_0
  try clear hfz22_1
  try clear hfz24_0
  try clear hfz24_1
  obtain ⟨kq, x36_4, rfl, HA, HJ4, BK191, HB⟩ := hcut
  cases kq with
  | zero => exact absurd HA.out (by simp [spec_Shares.j0])
  | succ kj4 =>
   have H := HA.out
   clear HA
   simp only [spec_Shares.j0] at H
   by_cases c26 : x36_4 = true
   ·subst c26
    rw [if_pos rfl] at H
    obtain rfl := Option.some.inj H
    go_wp2
    go_ret
    exact ⟨_, by first | rfl | (simp [errW_none, errW_some] <;> rfl) | (simp [*, errW_none, errW_some] <;> rfl), by first | exact Kd.R_nil _ _ _ _ _ | exact Kd.N_nil _ _ _ _ _ | exact Kd.V_nil _ _ _ _ _ | exact Kd.Q_nil _ _ _ _ _ | exact Kd.S_nil _ _ _ _ _, by repeat (first | (with_reducible first | exact HB.out | apply below_alloc | apply pw_below_drewN | apply below_drew1 | refine below_set ?_ GE191.out) | exact HB.out)⟩
   replace c26 := Bool.eq_false_iff.mpr c26
   subst c26
   rw [if_neg (show ¬ (false = true) by decide)] at H
   have HC27 := Aside0.mk H
   clear H
   go_upto_region 3 with (fail)
   go_cut [47] (fun v47 wc => ∃ (kq : Nat) (x47_26 : Bool), v47 = .bool x47_26 ∧ Aside0 (spec_Shares.j1 kq a1 a2 a3 x47_26 a0_0 l0_1 = some r) ∧ Aside0 (kq ≤ kj4) ∧ Aside0 (wc.heap[gb191]? = some (.cells #[.int .i64 a0_0, (.slice A0_1 l0_1.length c0_1)] 30 (0, 0))) ∧ Aside0 (Below w.heap.size w wc))
   case first =>
    have H := HC27.out
    clear HC27
    by_cases c28 : a1 = a2
    ·rw [if_pos c28] at H
     have c28b0 : (a1 == a2) = true := beq_iff_eq.mpr c28
     have c28b1 : (a1 != a2) = false := bne_eq_false_iff_eq.mpr c28
     clear c28
     (first | rw [c28b0] | (simp only [i64_w, i32_w]; rw [c28b0]) | skip)
     have H' := Aside0.mk H
     clear H
     go_wp2
     go_meet
     case rel => exact ⟨_, (false), (by first | rfl | (simp; done) | (simp [*]; done)), H', ⟨by have := HJ4.out; first | omega | exact Nat.le_refl _⟩, ⟨by (with_reducible repeat (first | refine blk_drewN ?_ _ | refine blk_drew ?_ | refine blk_alloc ?_ _)); exact BK191.out⟩, ⟨by repeat (first | (with_reducible first | exact HB.out | apply below_alloc | apply pw_below_drewN | apply below_drew1 | refine below_set ?_ GE191.out) | exact HB.out)⟩⟩
    rw [if_neg c28] at H
    have c28b0 : (a1 == a2) = false := beq_eq_false_iff_ne.mpr c28
    have c28b1 : (a1 != a2) = true := bne_iff_ne.mpr c28
    (first | rw [c28b0] | (simp only [i64_w, i32_w]; rw [c28b0]) | skip)
    replace H := Option.bind_eq_some_iff.mp H
    obtain ⟨t196, A290, H⟩ := H
    have A29 := Aside0.mk A290
    clear A290
    have H' := Aside0.mk H
    clear H
    have hcz30_0 := cz_ BK191 0 (.int .i64 a0_0)
    have hcz30_1 := cz_ BK191 1 (.slice A0_1 l0_1.length c0_1)
    have hfz30_0 := blk_frozen BK191.out 0
    have hfz30_1 := blk_frozen BK191.out 1
    go_wp2_with (first | (go_at_call 53; (with_reducible refine (spec_HopsTo.calls kj4 a0_0 _ _ l0_1 a1 a2 t196 _ ?side1 ?side2 A29.out).mono ?_); (case side1 => exact cb_ HR0_1 HB); (case side2 => exact HC0_1.out); rintro e w31 ⟨v197, rfl, ho0, hb⟩; have HO198 := Aside0.mk (Kd.R_lower ho0 (bz_ HB)); replace BK191 := Aside0.mk (bb_ BK191 hb); replace HB := Aside0.mk (bt_ HB hb); (try clear hb); (try clear hb2); (try clear hk); (try clear hi); (try clear ho0); obtain ⟨Ao32, co32, eo32⟩ := Kd.R_slice HO198.out; subst eo32))
    go_meet
    case rel => exact ⟨_, (((t196.length : Int) == 0)), (by first | rfl | (simp; done) | (simp [*]; done)), H', ⟨by have := HJ4.out; first | omega | exact Nat.le_refl _⟩, ⟨by (with_reducible repeat (first | refine blk_drewN ?_ _ | refine blk_drew ?_ | refine blk_alloc ?_ _)); exact BK191.out⟩, ⟨by repeat (first | (with_reducible first | exact HB.out | apply below_alloc | apply pw_below_drewN | apply below_drew1 | refine below_set ?_ GE191.out) | exact HB.out)⟩⟩
   case rest =>
    clear HC27
    try clear c1
    try clear c2
    try clear p2
    try clear c5
    try clear c8
    try clear c10
    try clear c12
    try clear c19
    try clear c26
    try clear c28
    try clear c28b0
    try clear c28b1
    try clear hcz14_0
    try clear hcz14_1
    try clear hcz16_0
    try clear hcz16_1
    try clear hcz18_0
    try clear hcz18_1
    try clear hcz20_0
    try clear hcz20_1
    try clear hcz22_0
    try clear hcz22_1
    try clear hcz24_0
    try clear hcz24_1
    try clear hcz30_0
    try clear hcz30_1
    try clear hfz14_0
    try clear hfz14_1
    try clear hfz16_0
    try clear hfz16_1
    try clear hfz18_0
    try clear hfz18_1
    try clear hfz20_0
    try clear hfz20_1
    try clear hfz22_0
    try clear hfz22_1
    try clear hfz24_0
    try clear hfz24_1
    try clear hfz30_0
    try clear hfz30_1
    try clear p2
    obtain ⟨kq, x47_26, rfl, HA, HJ26, BK191, HB⟩ := hcut
    cases kq with
    | zero => exact absurd HA.out (by simp [spec_Shares.j1])
    | succ kj26 =>
     have H := HA.out
     clear HA
     simp only [spec_Shares.j1] at H
     by_cases c33 : x47_26 = true
     ·subst c33
      rw [if_pos rfl] at H
      obtain rfl := Option.some.inj H
      go_wp2
      go_ret
      exact ⟨_, by first | rfl | (simp [errW_none, errW_some] <;> rfl) | (simp [*, errW_none, errW_some] <;> rfl), by first | exact Kd.R_nil _ _ _ _ _ | exact Kd.N_nil _ _ _ _ _ | exact Kd.V_nil _ _ _ _ _ | exact Kd.Q_nil _ _ _ _ _ | exact Kd.S_nil _ _ _ _ _, by repeat (first | (with_reducible first | exact HB.out | apply below_alloc | apply pw_below_drewN | apply below_drew1 | refine below_set ?_ GE191.out) | exact HB.out)⟩
     replace c33 := Bool.eq_false_iff.mpr c33
     subst c33
     rw [if_neg (show ¬ (false = true) by decide)] at H
     by_cases c34 : 0 ≤ a0_0
     rotate_left
     ·rw [if_neg c34] at H
      exact absurd H (by simp)
     rw [if_pos c34] at H
     have c34b0 := eq_true c34
     have c34b1 : decide (0 ≤ a0_0) = true := decide_eq_true c34
     clear c34
     by_cases c35 : (a0_0 : Int).toNat ≤ 35184372088832
     rotate_left
     ·rw [if_neg c35] at H
      exact absurd H (by simp)
     rw [if_pos c35] at H
     have c35b0 := eq_true c35
     have c35b1 : decide ((a0_0 : Int).toNat ≤ 35184372088832) = true := decide_eq_true c35
     clear c35
     obtain ⟨y199, hy199⟩ : ∃ y_ : List Int, y_ = (List.replicate (a0_0 : Int).toNat 0) := ⟨_, rfl⟩
     replace H : (if 0 ≤ a1 then (if a1 < (y199.length : Int) then (if (a0_0 : Int).toNat ≤ 281474976710656 then (spec_Shares.l0 kj26 a2 (y199.set (a1 : Int).toNat a3) (List.replicate (a0_0 : Int).toNat false) 0 a0_0 l0_1) else (none)) else (none)) else (none)) = some r := by first | (rw [hy199]; with_reducible exact H) | (have H2_ := (Option.bind_some _ _).symm.trans H; rw [hy199]; with_reducible exact H2_) | (have H2_ := (Option.bind_some _ _).symm.trans H; with_reducible exact H2_) | with_reducible exact H | (rw [hy199]; exact H) | exact H
     have Ny199 := Aside0.mk hy199
     clear hy199
     by_cases c36 : 0 ≤ a1
     rotate_left
     ·rw [if_neg c36] at H
      exact absurd H (by simp)
     rw [if_pos c36] at H
     have c36b0 : decide (0 ≤ a1) = true := decide_eq_true c36
     clear c36
     by_cases c37 : a1 < (y199.length : Int)
     rotate_left
     ·rw [if_neg c37] at H
      exact absurd H (by simp)
     rw [if_pos c37] at H
     have c37b0 : decide (a1 < (y199.length : Int)) = true := decide_eq_true c37
     clear c37
     obtain ⟨y202, hy202⟩ : ∃ y_ : List Int, y_ = (y199.set (a1 : Int).toNat a3) := ⟨_, rfl⟩
     replace H : (if (a0_0 : Int).toNat ≤ 281474976710656 then (spec_Shares.l0 kj26 a2 y202 (List.replicate (a0_0 : Int).toNat false) 0 a0_0 l0_1) else (none)) = some r := by first | (rw [hy202]; with_reducible exact H) | (have H2_ := (Option.bind_some _ _).symm.trans H; rw [hy202]; with_reducible exact H2_) | (have H2_ := (Option.bind_some _ _).symm.trans H; with_reducible exact H2_) | with_reducible exact H | (rw [hy202]; exact H) | exact H
     have Ny202 := Aside0.mk hy202
     clear hy202
     by_cases c39 : (a0_0 : Int).toNat ≤ 281474976710656
     rotate_left
     ·rw [if_neg c39] at H
      exact absurd H (by simp)
     rw [if_pos c39] at H
     have c39b0 := eq_true c39
     have c39b1 : decide ((a0_0 : Int).toNat ≤ 281474976710656) = true := decide_eq_true c39
     clear c39
     obtain ⟨y203, hy203⟩ : ∃ y_ : List Bool, y_ = (List.replicate (a0_0 : Int).toNat false) := ⟨_, rfl⟩
     replace H : (spec_Shares.l0 kj26 a2 y202 y203 0 a0_0 l0_1) = some r := by first | (rw [hy203]; with_reducible exact H) | (have H2_ := (Option.bind_some _ _).symm.trans H; rw [hy203]; with_reducible exact H2_) | (have H2_ := (Option.bind_some _ _).symm.trans H; with_reducible exact H2_) | with_reducible exact H | (rw [hy203]; exact H) | exact H
     have Ny203 := Aside0.mk hy203
     clear hy203
     have H' := Aside0.mk H
     clear H
     have hcz40_0 := cz_ BK191 0 (.int .i64 a0_0)
     have hcz40_1 := cz_ BK191 1 (.slice A0_1 l0_1.length c0_1)
     have hfz40_0 := blk_frozen BK191.out 0
     have hfz40_1 := blk_frozen BK191.out 1
     go_wp2_with (first | ((with_reducible refine gate_dst (N := 50) rfl ?_); refine Kd.R_make (Kd.int .i64) _ 3 rfl (N := 50) rfl 26 _ _ rfl a0_0 rfl rfl Try.underlying26 (.int .i64 0) 8 info3 rfl (by decide) (by omega) 0 (ok := fun _ => True) (okp := fun _ => True) rfl (fun _ hk => hk) trivial (of_decide_eq_true (by first | (with_reducible assumption) | assumption)) (Nat.le_trans (Nat.mul_le_mul_right _ (of_decide_eq_true (by first | (with_reducible assumption) | assumption) : a0_0.toNat ≤ 35184372088832)) (by omega)) (Below.refl _ _) (Nat.le_refl _) ?_; intro v200 w41 ho42 hb hg_ hnew_; clear hg_ hnew_; (first | rw [← Ny199.out] at ho42 | (simp only [Int.reduceToNat] at ho42; rw [← Ny199.out] at ho42)); have HO201 := Aside0.mk (Kd.R_lower ho42 (bz_ HB)); replace BK191 := Aside0.mk (bb_ BK191 hb); replace HB := Aside0.mk (bt_ HB hb); clear hb ho42; have p38 : 0 ≤ (a1 : Int) := of_decide_eq_true (by first | (with_reducible assumption) | assumption); have q38 : (a1 : Int) < ((y199.length : Int) : Int) := of_decide_eq_true (by first | (with_reducible assumption) | assumption); obtain ⟨go38, co38, eo38, gb38, gl38, cl38, HG38⟩ := Kd.R_form HO201.out (by omega); (first | cases eo38 | (injection eo38 with ea_ en_ ec_; (first | subst ea_ | (injection ea_ with ea_; subst ea_)); subst ec_; clear en_)); have GB38 := Aside0.mk gb38; have GG38 := Aside0.mk HG38; clear gb38 gl38 HG38; obtain ⟨hx38_0, hf38_0⟩ := Kd.R_celln 0 HO201.out (a1 : Int) p38 q38; replace p38 := eq_true p38; replace q38 := eq_true q38; obtain ⟨hy43_, hz43_⟩ := Kd.R_celln 0 HO201.out (a1 : Int) (of_decide_eq_true (by first | (with_reducible assumption) | assumption)) (of_decide_eq_true (by first | (with_reducible assumption) | assumption)); have HP43 := Kd.R_putg HO201.out (a1 : Int) a3) | ((with_reducible refine gate_store (t := 3) (p := 54) rfl ?_); refine store_event (t := 3) (p := 54) (v := ?vo_w44) (w1 := (w41.setCell ⟨go38, (a1 : Int).toNat, none⟩ (.int .i64 a3))) ?hg ?ho ?hn ?hr ?_; (case ho => rfl); (case hg => rfl); (case hn => rfl); (case hr => first | (go_simp; done) | (go_simp; rfl)); intro w44 hw; have hg : w41.grownBy w44 (some go38) := (by rw [hw]; exact HP43.2); have hp_ : Kd.R (Kd.int .i64) 3 w44 w.heap.size (fun _ => True) (.slice (some ⟨go38, 0, none⟩) y199.length co38) y202 := (by rw [hw, Ny202.out]; exact HP43.1); clear HP43; replace BK191 := Aside0.mk (blk_grown (g := gb191) (o := .cells #[.int .i64 a0_0, .slice A0_1 l0_1.length c0_1] 30 (0, 0)) (by (with_reducible repeat (first | refine blk_drewN ?_ _ | refine blk_drew ?_ | refine blk_alloc ?_ _)); exact BK191.out) hg (Kd.R_ne HO201.out BK191.out (by decide))); replace HO201 := Aside0.mk (hp_); replace HB := Aside0.mk ((by rw [hw]; exact below_set (HB.out) GB38.out : Below w.heap.size w w44)); clear hg hw hp_; have hcz45_0 := cz_ BK191 0 (.int .i64 a0_0); have hcz45_1 := cz_ BK191 1 (.slice A0_1 l0_1.length c0_1); have hfz45_0 := blk_frozen BK191.out 0; have hfz45_1 := blk_frozen BK191.out 1) | ((with_reducible refine gate_dst (N := 57) rfl ?_); refine Kd.R_make Kd.bool _ 4 rfl (N := 57) rfl 69 _ _ rfl a0_0 rfl rfl Try.underlying69 (.bool false) 1 info4 rfl (by decide) (by omega) false (ok := fun _ => True) (okp := fun _ => True) rfl (fun _ hk => hk) trivial (of_decide_eq_true (by first | (with_reducible assumption) | assumption)) (Nat.le_trans (Nat.mul_le_mul_right _ (of_decide_eq_true (by first | (with_reducible assumption) | assumption) : a0_0.toNat ≤ 281474976710656)) (by omega)) (Below.refl _ _) (Nat.le_refl _) ?_; intro v204 w46 ho47 hb hg_ hnew_; clear hg_ hnew_; (first | rw [← Ny203.out] at ho47 | (simp only [Int.reduceToNat] at ho47; rw [← Ny203.out] at ho47)); have HO205 := Aside0.mk (Kd.R_lower ho47 (bz_ HB)); replace HO201 := rb_ HO201 hb; replace BK191 := Aside0.mk (bb_ BK191 hb); replace HB := Aside0.mk (bt_ HB hb); clear hb ho47))
     go_loopg [11] kj26 (fun kq v11 w' => ∃ (x9_3 : List Int) (x10_3 : List Bool) (x11_3 : Int), v11 = .int .i64 x11_3 ∧ Aside0 (spec_Shares.l0 kq a2 x9_3 x10_3 x11_3 a0_0 l0_1 = some r) ∧ Aside0 (kq ≤ kj26) ∧ Aside0 (Kd.R (Kd.int .i64) 3 w' w.heap.size (fun _ => True) (.slice (some ⟨go38, 0, none⟩) y199.length co38) x9_3) ∧ Aside0 (Kd.R Kd.bool 4 w' w.heap.size (fun _ => True) v204 x10_3) ∧ Aside0 (w'.heap[gb191]? = some (.cells #[.int .i64 a0_0, (.slice A0_1 l0_1.length c0_1)] 30 (0, 0))) ∧ Aside0 (Below w.heap.size w w'))
     case atStart => exact ⟨(y202), (y203), (0), (by first | rfl | (simp; done) | (simp [*]; done)), H', ⟨Nat.le_refl _⟩, ⟨by (with_reducible repeat (first | apply Kd.R_alloc | apply Kd.R_drewN | apply Kd.R_drew)); exact HO201.out⟩, ⟨by (with_reducible repeat (first | apply Kd.R_alloc | apply Kd.R_drewN | apply Kd.R_drew)); exact HO205.out⟩, ⟨by (with_reducible repeat (first | refine blk_drewN ?_ _ | refine blk_drew ?_ | refine blk_alloc ?_ _)); exact BK191.out⟩, ⟨by repeat (first | (with_reducible first | exact HB.out | apply below_alloc | apply pw_below_drewN | apply below_drew1 | refine below_set ?_ GE191.out) | exact HB.out)⟩⟩
     case round =>
      clear H'
      try clear c1
      try clear c2
      try clear p2
      try clear c3
      try clear p3
      try clear q3
      try clear hx3
      try clear c5
      try clear c8
      try clear c10
      try clear c12
      try clear c19
      try clear c26
      try clear c28
      try clear c28b0
      try clear c28b1
      try clear c33
      try clear c34
      try clear c34b0
      try clear c34b1
      try clear c35
      try clear c35b0
      try clear c35b1
      try clear c36
      try clear c36b0
      try clear c37
      try clear c37b0
      try clear p38
      try clear q38
      try clear hx38
      try clear hf38
      try clear c39
      try clear c39b0
      try clear c39b1
      try clear hcz14_0
      try clear hcz14_1
      try clear hcz16_0
      try clear hcz16_1
      try clear hcz18_0
      try clear hcz18_1
      try clear hcz20_0
      try clear hcz20_1
      try clear hcz22_0
      try clear hcz22_1
      try clear hcz24_0
      try clear hcz24_1
      try clear hcz30_0
      try clear hcz30_1
      try clear hcz40_0
      try clear hcz40_1
      try clear hcz45_0
      try clear hcz45_1
      try clear hfz14_0
      try clear hfz14_1
      try clear hfz16_0
      try clear hfz16_1
      try clear hfz18_0
      try clear hfz18_1
      try clear hfz20_0
      try clear hfz20_1
      try clear hfz22_0
      try clear hfz22_1
      try clear hfz24_0
      try clear hfz24_1
      try clear hfz30_0
      try clear hfz30_1
      try clear hfz40_0
      try clear hfz40_1
      try clear hfz45_0
      try clear hfz45_1
      try clear hx38_0
      try clear p2
      try clear p38
      try clear q38
      obtain ⟨x9_3, x10_3, x11_3, rfl, HA, HK3, HO_9, HO_10, BK191, HB⟩ := hrel
      have hl9_3 := (Kd.R_reads' HO_9.out).1
      rw [hl9_3] at HO_9
      (try simp only [hl9_3])
      (try simp only [hl9_3] at BK191)
      (try simp only [hl9_3] at HO_10)
      cases gk with
      | zero => exact absurd HA.out (by simp [spec_Shares.l0])
      | succ k3 =>
       have H := HA.out
       clear HA
       simp only [spec_Shares.l0] at H
       by_cases c48 : x11_3 < a0_0
       rotate_left
       ·rw [if_neg c48] at H
        have c48b0 : decide (x11_3 < a0_0) = false := decide_eq_false c48
        clear c48
        obtain rfl := Option.some.inj H
        have hcz122_0 := cz_ BK191 0 (.int .i64 a0_0)
        have hcz122_1 := cz_ BK191 1 (.slice A0_1 l0_1.length c0_1)
        have hfz122_0 := blk_frozen BK191.out 0
        have hfz122_1 := blk_frozen BK191.out 1
        go_wp2
        go_ret
        exact ⟨_, by first | rfl | (simp [errW_none, errW_some] <;> rfl) | (simp [*, errW_none, errW_some] <;> rfl), by (with_reducible repeat (first | apply Kd.R_alloc | apply Kd.R_drewN | apply Kd.R_drew)); exact HO_9.out, by repeat (first | (with_reducible first | exact HB.out | apply below_alloc | apply pw_below_drewN | apply below_drew1 | refine below_set ?_ GE191.out) | exact HB.out)⟩
       rw [if_pos c48] at H
       have c48b0 : decide (x11_3 < a0_0) = true := decide_eq_true c48
       clear c48
       have H' := Aside0.mk H
       clear H
       have hcz49_0 := cz_ BK191 0 (.int .i64 a0_0)
       have hcz49_1 := cz_ BK191 1 (.slice A0_1 l0_1.length c0_1)
       have hfz49_0 := blk_frozen BK191.out 0
       have hfz49_1 := blk_frozen BK191.out 1
       go_wp2
       go_loopg [12, 13] k3 (fun kq v12 v13 w' => ∃ (x12_4 : Int) (x13_4 : Int), v12 = .int .i64 x12_4 ∧ v13 = .int .i64 x13_4 ∧ Aside0 (spec_Shares.l1 kq a2 x9_3 x10_3 x11_3 x12_4 x13_4 a0_0 l0_1 = some r) ∧ Aside0 (kq ≤ k3) ∧ Aside0 (Kd.R (Kd.int .i64) 3 w' w.heap.size (fun _ => True) (.slice (some ⟨go38, 0, none⟩) x9_3.length co38) x9_3) ∧ Aside0 (Kd.R Kd.bool 4 w' w.heap.size (fun _ => True) v204 x10_3) ∧ Aside0 (w'.heap[gb191]? = some (.cells #[.int .i64 a0_0, (.slice A0_1 l0_1.length c0_1)] 30 (0, 0))) ∧ Aside0 (Below w.heap.size w w'))
       case atStart => exact ⟨((-1)), (0), (by first | rfl | (simp; done) | (simp [*]; done)), (by first | rfl | (simp; done) | (simp [*]; done)), H', ⟨Nat.le_refl _⟩, ⟨by (try simp only [hl9_3]); (with_reducible repeat (first | apply Kd.R_alloc | apply Kd.R_drewN | apply Kd.R_drew)); exact HO_9.out⟩, ⟨by (try simp only [hl9_3]); (with_reducible repeat (first | apply Kd.R_alloc | apply Kd.R_drewN | apply Kd.R_drew)); exact HO_10.out⟩, ⟨by (try simp only [hl9_3]); (with_reducible repeat (first | refine blk_drewN ?_ _ | refine blk_drew ?_ | refine blk_alloc ?_ _)); exact BK191.out⟩, ⟨by repeat (first | (with_reducible first | exact HB.out | apply below_alloc | apply pw_below_drewN | apply below_drew1 | refine below_set ?_ GE191.out) | exact HB.out)⟩⟩
       case round =>
        clear H'
        try clear c1
        try clear c2
        try clear p2
        try clear c3
        try clear p3
        try clear q3
        try clear hx3
        try clear c4
        try clear c5
        try clear c8
        try clear c10
        try clear c12
        try clear c19
        try clear c26
        try clear c28
        try clear c28b0
        try clear c28b1
        try clear c33
        try clear c34
        try clear c34b0
        try clear c34b1
        try clear c35
        try clear c35b0
        try clear c35b1
        try clear c36
        try clear c36b0
        try clear c37
        try clear c37b0
        try clear p38
        try clear q38
        try clear hx38
        try clear hf38
        try clear c39
        try clear c39b0
        try clear c39b1
        try clear c48
        try clear c48b0
        try clear hcz14_0
        try clear hcz14_1
        try clear hcz16_0
        try clear hcz16_1
        try clear hcz18_0
        try clear hcz18_1
        try clear hcz20_0
        try clear hcz20_1
        try clear hcz22_0
        try clear hcz22_1
        try clear hcz24_0
        try clear hcz24_1
        try clear hcz30_0
        try clear hcz30_1
        try clear hcz40_0
        try clear hcz40_1
        try clear hcz45_0
        try clear hcz45_1
        try clear hcz49_0
        try clear hcz49_1
        try clear hfz14_0
        try clear hfz14_1
        try clear hfz16_0
        try clear hfz16_1
        try clear hfz18_0
        try clear hfz18_1
        try clear hfz20_0
        try clear hfz20_1
        try clear hfz22_0
        try clear hfz22_1
        try clear hfz24_0
        try clear hfz24_1
        try clear hfz30_0
        try clear hfz30_1
        try clear hfz40_0
        try clear hfz40_1
        try clear hfz45_0
        try clear hfz45_1
        try clear hfz49_0
        try clear hfz49_1
        try clear hx38_0
        try clear p2
        try clear p3
        try clear p38
        try clear q3
        try clear q38
        obtain ⟨x12_4, x13_4, rfl, rfl, HA, HK4, HO_9, HO_10, BK191, HB⟩ := hrel
        cases gk with
        | zero => exact absurd HA.out (by simp [spec_Shares.l1])
        | succ k4 =>
         have H := HA.out
         clear HA
         simp only [spec_Shares.l1] at H
         by_cases c50 : x13_4 < a0_0
         rotate_left
         ·rw [if_neg c50] at H
          have c50b0 : decide (x13_4 < a0_0) = false := decide_eq_false c50
          clear c50
          by_cases c91 : x12_4 < 0
          ·rw [if_pos c91] at H
           have c91b0 : decide (x12_4 < 0) = true := decide_eq_true c91
           clear c91
           obtain rfl := Option.some.inj H
           have hcz92_0 := cz_ BK191 0 (.int .i64 a0_0)
           have hcz92_1 := cz_ BK191 1 (.slice A0_1 l0_1.length c0_1)
           have hfz92_0 := blk_frozen BK191.out 0
           have hfz92_1 := blk_frozen BK191.out 1
           go_wp2
           go_ret
           exact ⟨_, by first | rfl | (simp [errW_none, errW_some] <;> rfl) | (simp [*, errW_none, errW_some] <;> rfl), by (with_reducible repeat (first | apply Kd.R_alloc | apply Kd.R_drewN | apply Kd.R_drew)); exact HO_9.out, by repeat (first | (with_reducible first | exact HB.out | apply below_alloc | apply pw_below_drewN | apply below_drew1 | refine below_set ?_ GE191.out) | exact HB.out)⟩
          rw [if_neg c91] at H
          have c91b0 : decide (x12_4 < 0) = false := decide_eq_false c91
          clear c91
          by_cases c93 : 0 ≤ x12_4
          rotate_left
          ·rw [if_neg c93] at H
           exact absurd H (by simp)
          rw [if_pos c93] at H
          have c93b0 : decide (0 ≤ x12_4) = true := decide_eq_true c93
          clear c93
          by_cases c94 : x12_4 < (x10_3.length : Int)
          rotate_left
          ·rw [if_neg c94] at H
           exact absurd H (by simp)
          rw [if_pos c94] at H
          have c94b0 : decide (x12_4 < (x10_3.length : Int)) = true := decide_eq_true c94
          clear c94
          obtain ⟨y216, hy216⟩ : ∃ y_ : List Bool, y_ = (x10_3.set (x12_4 : Int).toNat true) := ⟨_, rfl⟩
          replace H : ((spec_HopsTo.f k4 a0_0 l0_1 x12_4 a2).bind fun t217 => (spec_Shares.l2 k4 a2 x9_3 y216 x11_3 x12_4 t217 0 a0_0 l0_1)) = some r := by first | (rw [hy216]; with_reducible exact H) | (have H2_ := (Option.bind_some _ _).symm.trans H; rw [hy216]; with_reducible exact H2_) | (have H2_ := (Option.bind_some _ _).symm.trans H; with_reducible exact H2_) | with_reducible exact H | (rw [hy216]; exact H) | exact H
          have Ny216 := Aside0.mk hy216
          clear hy216
          replace H := Option.bind_eq_some_iff.mp H
          obtain ⟨t217, A960, H⟩ := H
          have A96 := Aside0.mk A960
          clear A960
          have H' := Aside0.mk H
          clear H
          have hcz97_0 := cz_ BK191 0 (.int .i64 a0_0)
          have hcz97_1 := cz_ BK191 1 (.slice A0_1 l0_1.length c0_1)
          have hfz97_0 := blk_frozen BK191.out 0
          have hfz97_1 := blk_frozen BK191.out 1
          have p95 : 0 ≤ (x12_4 : Int) := of_decide_eq_true (by first | (with_reducible assumption) | assumption)
          have q95 : (x12_4 : Int) < ((x10_3.length : Int) : Int) := of_decide_eq_true (by first | (with_reducible assumption) | assumption)
          obtain ⟨go95, co95, eo95, gb95, gl95, cl95, HG95⟩ := Kd.R_form HO_10.out (by omega)
          (first | cases eo95 | (injection eo95 with ea_ en_ ec_; (first | subst ea_ | (injection ea_ with ea_; subst ea_)); subst ec_; clear en_))
          have GB95 := Aside0.mk gb95
          have GG95 := Aside0.mk HG95
          clear gb95 gl95 HG95
          obtain ⟨hx95_0, hf95_0⟩ := Kd.R_celln false HO_10.out (x12_4 : Int) p95 q95
          replace p95 := eq_true p95
          replace q95 := eq_true q95
          have HP98 := Kd.R_putg HO_10.out (x12_4 : Int) true
          go_wp2_with (first | ((with_reducible refine gate_store (t := 4) (p := 111) rfl ?_); refine store_event (t := 4) (p := 111) (v := ?vo_w99) (w1 := (wr.setCell ⟨go95, (x12_4 : Int).toNat, none⟩ (.bool true))) ?hg ?ho ?hn ?hr ?_; (case ho => rfl); (case hg => rfl); (case hn => rfl); (case hr => first | (go_simp; done) | (go_simp; rfl)); intro w99 hw; have hg : wr.grownBy w99 (some go95) := (by rw [hw]; exact HP98.2); have hp_ : Kd.R Kd.bool 4 w99 w.heap.size (fun _ => True) (.slice (some ⟨go95, 0, none⟩) x10_3.length co95) y216 := (by rw [hw, Ny216.out]; exact HP98.1); clear HP98; replace HO_9 := Aside0.mk (Kd.R_over' (v := (.slice (some ⟨go95, 0, none⟩) x10_3.length co95)) (hd_ HO_9) (Kd.R_typed HO_10.out) (by decide) hg); replace BK191 := Aside0.mk (blk_grown (g := gb191) (o := .cells #[.int .i64 a0_0, .slice A0_1 l0_1.length c0_1] 30 (0, 0)) (by (with_reducible repeat (first | refine blk_drewN ?_ _ | refine blk_drew ?_ | refine blk_alloc ?_ _)); exact BK191.out) hg (Kd.R_ne HO_10.out BK191.out (by decide))); replace HO_10 := Aside0.mk (hp_); replace HB := Aside0.mk ((by rw [hw]; exact below_set (HB.out) GB95.out : Below w.heap.size w w99)); clear hg hw hp_; have hcz100_0 := cz_ BK191 0 (.int .i64 a0_0); have hcz100_1 := cz_ BK191 1 (.slice A0_1 l0_1.length c0_1); have hfz100_0 := blk_frozen BK191.out 0; have hfz100_1 := blk_frozen BK191.out 1) | ((with_reducible refine gate_callee (f := 53) rfl ?_); refine gl_ (some 115) Try.func53 #[.agg #[.int .i64 a0_0, .slice A0_1 l0_1.length c0_1], .int .i64 x12_4, .int .i64 a2] ?_; (with_reducible refine (spec_HopsTo.calls k4 a0_0 _ _ l0_1 x12_4 a2 t217 _ ?side1 ?side2 A96.out).mono ?_); (case side1 => exact cb_ HR0_1 HB); (case side2 => exact HC0_1.out); rintro e w101 ⟨v218, rfl, ho0, hb⟩; refine ⟨_, rfl, ?_⟩; have HO219 := Aside0.mk (Kd.R_lower (Kd.R_new' ho0 (Kd.R_lt (hd_ HO_9))) (bz_ HB)); replace HO_10 := rb_ HO_10 hb; replace HO_9 := Aside0.mk (Kd.R_elder' (hd_ HO_9) (Kd.R_base ho0) hb); replace BK191 := Aside0.mk (bb_ BK191 hb); replace HB := Aside0.mk (bt_ HB hb); (try clear hb); (try clear hb2); (try clear hk); (try clear hi); (try clear ho0)))
          (try simp only [Act.put, List.setIfInBounds_toArray, List.set_cons_zero, List.set_cons_succ])
          go_loopg [15] k4 (fun kq v15 w' => ∃ (x9_5 : List Int) (x15_5 : Int), v15 = .int .i64 x15_5 ∧ Aside0 (spec_Shares.l2 kq a2 x9_5 y216 x11_3 x12_4 t217 x15_5 a0_0 l0_1 = some r) ∧ Aside0 (kq ≤ k4) ∧ Aside0 (Kd.R (Kd.int .i64) 3 w' w.heap.size (fun k_ => some k_ ≠ (v218 : Value).ownBlock) (.slice (some ⟨go38, 0, none⟩) x9_3.length co38) x9_5) ∧ Aside0 (Kd.R Kd.bool 4 w' w.heap.size (fun _ => True) (.slice (some ⟨go95, 0, none⟩) x10_3.length co95) y216) ∧ Aside0 (Kd.R (Kd.int .i64) 3 w' w.heap.size (fun k_ => some k_ ≠ ((.slice (some ⟨go38, 0, none⟩) x9_3.length co38) : Value).ownBlock) v218 t217) ∧ Aside0 (w'.heap[gb191]? = some (.cells #[.int .i64 a0_0, (.slice A0_1 l0_1.length c0_1)] 30 (0, 0))) ∧ Aside0 (Below w.heap.size w w'))
          case atStart => exact ⟨(x9_3), (0), (by first | rfl | (simp; done) | (simp [*]; done)), H', ⟨Nat.le_refl _⟩, ⟨by (try simp only [hl9_3]); (with_reducible repeat (first | apply Kd.R_alloc | apply Kd.R_drewN | apply Kd.R_drew)); exact Kd.R_mono HO_9.out (fun _ hk => hk.2)⟩, ⟨by (try simp only [hl9_3]); (with_reducible repeat (first | apply Kd.R_alloc | apply Kd.R_drewN | apply Kd.R_drew)); exact HO_10.out⟩, ⟨by (try simp only [hl9_3]); (with_reducible repeat (first | apply Kd.R_alloc | apply Kd.R_drewN | apply Kd.R_drew)); exact Kd.R_mono HO219.out (fun _ hk => hk.2)⟩, ⟨by (try simp only [hl9_3]); (with_reducible repeat (first | refine blk_drewN ?_ _ | refine blk_drew ?_ | refine blk_alloc ?_ _)); exact BK191.out⟩, ⟨by repeat (first | (with_reducible first | exact HB.out | apply below_alloc | apply pw_below_drewN | apply below_drew1 | refine below_set ?_ GE191.out) | exact HB.out)⟩⟩
          case round =>
           clear H'
           try clear p2
           try clear q2
           try clear hx2
           try clear c3
           try clear c5
           try clear q5
           try clear c6
           try clear p6
           try clear c7
           try clear c9
           try clear p9
           try clear q9
           try clear hx9
           try clear hf9
           try clear p20
           try clear q20
           try clear hx20
           try clear p21
           try clear q21
           try clear hx21
           try clear c33
           try clear c50
           try clear c50b0
           try clear c51
           try clear c52
           try clear c53
           try clear q53
           try clear c62
           try clear c63
           try clear c63b0
           try clear p64
           try clear c69
           try clear c70
           try clear c72
           try clear c91
           try clear c91b0
           try clear c93
           try clear c93b0
           try clear c94
           try clear c94b0
           try clear p95
           try clear q95
           try clear hx95
           try clear hf95
           try clear hcz100_0
           try clear hcz100_1
           try clear hcz88_0
           try clear hcz88_1
           try clear hcz92_0
           try clear hcz92_1
           try clear hcz97_0
           try clear hcz97_1
           try clear hfz100_0
           try clear hfz100_1
           try clear hfz88_0
           try clear hfz88_1
           try clear hfz92_0
           try clear hfz92_1
           try clear hfz97_0
           try clear hfz97_1
           try clear hx206_0
           try clear hx207_0
           try clear hx211_0
           try clear hx215_0
           try clear hx95_0
           try clear p206
           try clear p207
           try clear p211
           try clear p215
           try clear p95
           try clear q206
           try clear q207
           try clear q211
           try clear q215
           try clear q95
           obtain ⟨x9_5, x15_5, rfl, HA, HK5, HO_9, HO_10, HO_14, BK191, HB⟩ := hrel
           have hl9_5 := (Kd.R_reads' HO_9.out).1
           rw [hl9_5] at HO_9
           (try simp only [hl9_5])
           (try simp only [hl9_5] at BK191)
           (try simp only [hl9_5] at HO_10)
           (try simp only [hl9_5] at HO_14)
           have hl10_5 := (Kd.R_reads' HO_10.out).1
           rw [hl10_5] at HO_10
           (try simp only [hl10_5])
           (try simp only [hl10_5] at BK191)
           (try simp only [hl10_5] at HO_9)
           (try simp only [hl10_5] at HO_14)
           cases gk with
           | zero => exact absurd HA.out (by simp [spec_Shares.l2])
           | succ k5 =>
            have H := HA.out
            clear HA
            simp only [spec_Shares.l2] at H
            by_cases c102 : x15_5 < (t217.length : Int)
            rotate_left
            ·rw [if_neg c102] at H
             have c102b0 : decide (x15_5 < (t217.length : Int)) = false := decide_eq_false c102
             (try simp only [hl9_3] at c102b0)
             (try simp only [hl9_5] at c102b0)
             (try simp only [hl10_5] at c102b0)
             clear c102
             have H' := Aside0.mk H
             clear H
             obtain ⟨Ao121, co121, eo121⟩ := Kd.R_slice HO_14.out
             subst eo121
             go_wp2
             (try simp only [← hl9_3, ← hl9_5, ← hl10_5])
             go_roundg k5
             case measure => have := HJ4.out; have := HJ26.out; have := HK3.out; have := HK4.out; have := HK5.out; omega
             case rel => exact ⟨(x9_5), (y216), (wrap64 (x11_3 + 1)), (by first | rfl | (simp; done) | (simp [*]; done)), H', ⟨by have := HJ4.out; have := HJ26.out; have := HK3.out; have := HK4.out; have := HK5.out; omega⟩, ⟨by (try simp only [hl9_3]); (try simp only [hl9_5]); (try simp only [hl10_5]); (with_reducible repeat (first | apply Kd.R_alloc | apply Kd.R_drewN | apply Kd.R_drew)); exact Kd.R_mono HO_9.out (fun _ hk => trivial)⟩, ⟨by (try simp only [hl9_3]); (try simp only [hl9_5]); (try simp only [hl10_5]); (with_reducible repeat (first | apply Kd.R_alloc | apply Kd.R_drewN | apply Kd.R_drew)); exact HO_10.out⟩, ⟨by (try simp only [hl9_3]); (try simp only [hl9_5]); (try simp only [hl10_5]); (with_reducible repeat (first | refine blk_drewN ?_ _ | refine blk_drew ?_ | refine blk_alloc ?_ _)); exact BK191.out⟩, ⟨by repeat (first | (with_reducible first | exact HB.out | apply below_alloc | apply pw_below_drewN | apply below_drew1 | refine below_set ?_ GE191.out) | exact HB.out)⟩⟩
            rw [if_pos c102] at H
            have c102b0 : decide (x15_5 < (t217.length : Int)) = true := decide_eq_true c102
            clear c102
            by_cases c103 : 0 ≤ x12_4
            rotate_left
            ·rw [if_neg c103] at H
             exact absurd H (by simp)
            rw [if_pos c103] at H
            have c103b0 : decide (0 ≤ x12_4) = true := decide_eq_true c103
            clear c103
            by_cases c104 : x12_4 < (x9_5.length : Int)
            rotate_left
            ·rw [if_neg c104] at H
             exact absurd H (by simp)
            rw [if_pos c104] at H
            have c104b0 : decide (x12_4 < (x9_5.length : Int)) = true := decide_eq_true c104
            clear c104
            by_cases c105 : (t217.length : Int) = 0
            ·rw [if_pos c105] at H
             exact absurd H (by simp)
            rw [if_neg c105] at H
            have c105b0 : ((t217.length : Int) == 0) = false := beq_eq_false_iff_ne.mpr c105
            have c105b1 : ((t217.length : Int) != 0) = true := bne_iff_ne.mpr c105
            have c105b2 : ¬ (t217 = []) := fun h_ => c105 (by rw [h_]; rfl)
            by_cases c106 : x15_5 < (Int.tmod (rd x9_5 x12_4) (t217.length : Int))
            ·rw [if_pos c106] at H
             have c106b0 : decide (x15_5 < (Int.tmod (rd x9_5 x12_4) (t217.length : Int))) = true := decide_eq_true c106
             clear c106
             by_cases c107 : 0 ≤ x15_5
             rotate_left
             ·rw [if_neg c107] at H
              exact absurd H (by simp)
             rw [if_pos c107] at H
             have c107b0 : decide (0 ≤ x15_5) = true := decide_eq_true c107
             clear c107
             by_cases c108 : 0 ≤ (rd t217 x15_5)
             rotate_left
             ·rw [if_neg c108] at H
              exact absurd H (by simp)
             rw [if_pos c108] at H
             have c108b0 : decide (0 ≤ (rd t217 x15_5)) = true := decide_eq_true c108
             clear c108
             by_cases c109 : (rd t217 x15_5) < (x9_5.length : Int)
             rotate_left
             ·rw [if_neg c109] at H
              exact absurd H (by simp)
             rw [if_pos c109] at H
             have c109b0 : decide ((rd t217 x15_5) < (x9_5.length : Int)) = true := decide_eq_true c109
             clear c109
             obtain ⟨y225, hy225⟩ : ∃ y_ : List Int, y_ = (x9_5.set ((rd t217 x15_5) : Int).toNat (wrap64 ((rd x9_5 (rd t217 x15_5)) + (wrap64 ((wrap64 (Int.tdiv (rd x9_5 x12_4) (t217.length : Int))) + 1))))) := ⟨_, rfl⟩
             replace H : (spec_Shares.l2 k5 a2 y225 y216 x11_3 x12_4 t217 (wrap64 (x15_5 + 1)) a0_0 l0_1) = some r := by first | (rw [hy225]; with_reducible exact H) | (have H2_ := (Option.bind_some _ _).symm.trans H; rw [hy225]; with_reducible exact H2_) | (have H2_ := (Option.bind_some _ _).symm.trans H; with_reducible exact H2_) | with_reducible exact H | (rw [hy225]; exact H) | exact H
             have Ny225 := Aside0.mk hy225
             clear hy225
             have H' := Aside0.mk H
             clear H
             obtain ⟨Ao111, co111, eo111⟩ := Kd.R_slice HO_14.out
             subst eo111
             have p220 : 0 ≤ (x12_4 : Int) := of_decide_eq_true (by first | (with_reducible assumption) | assumption)
             have q220 : x12_4 < (x9_5.length : Int) := of_decide_eq_true (by first | (with_reducible assumption) | assumption)
             obtain ⟨ad220, e220, hx220_0⟩ := Kd.at_int (Kd.R_reads' HO_9.out).2.2 x12_4 p220 q220
             obtain rfl : (⟨go38, 0, none⟩ : Addr) = ad220 := (by injection e220)
             (first | simp only [add_plain] at hx220_0 | simp only [add_at] at hx220_0 | simp only [Addr.add, Nat.zero_add] at hx220_0 | skip)
             replace p220 := eq_true p220
             replace q220 := eq_true q220
             have p221 : 0 ≤ (x12_4 : Int) := of_decide_eq_true (by first | (with_reducible assumption) | assumption)
             have q221 : x12_4 < (x9_5.length : Int) := of_decide_eq_true (by first | (with_reducible assumption) | assumption)
             obtain ⟨ad221, e221, hx221_0⟩ := Kd.at_int (Kd.R_reads' HO_9.out).2.2 x12_4 p221 q221
             obtain rfl : (⟨go38, 0, none⟩ : Addr) = ad221 := (by injection e221)
             (first | simp only [add_plain] at hx221_0 | simp only [add_at] at hx221_0 | simp only [Addr.add, Nat.zero_add] at hx221_0 | skip)
             replace p221 := eq_true p221
             replace q221 := eq_true q221
             try go_wp2
             replace HO_9 := Aside0.mk (Kd.R_drew HO_9.out)
             replace HO_10 := Aside0.mk (Kd.R_drew HO_10.out)
             replace HO_14 := Aside0.mk (Kd.R_drew HO_14.out)
             replace BK191 := Aside0.mk (blk_drew BK191.out)
             replace HB := Aside0.mk (below_drew1 HB.out)
             have p222 : 0 ≤ (x15_5 : Int) := of_decide_eq_true (by first | (with_reducible assumption) | assumption)
             have q222 : x15_5 < (t217.length : Int) := of_decide_eq_true (by first | (with_reducible assumption) | assumption)
             obtain ⟨ad222, e222, hx222_0⟩ := Kd.at_int (Kd.R_reads' HO_14.out).2.2 x15_5 p222 q222
             cases e222
             replace p222 := eq_true p222
             replace q222 := eq_true q222
             have p223 : 0 ≤ (x15_5 : Int) := of_decide_eq_true (by first | (with_reducible assumption) | assumption)
             have q223 : x15_5 < (t217.length : Int) := of_decide_eq_true (by first | (with_reducible assumption) | assumption)
             obtain ⟨ad223, e223, hx223_0⟩ := Kd.at_int (Kd.R_reads' HO_14.out).2.2 x15_5 p223 q223
             obtain rfl : ad222 = ad223 := (by injection e223)
             replace p223 := eq_true p223
             replace q223 := eq_true q223
             have p224 : 0 ≤ ((rd t217 x15_5) : Int) := of_decide_eq_true (by first | (with_reducible assumption) | assumption)
             have q224 : (rd t217 x15_5) < (x9_5.length : Int) := of_decide_eq_true (by first | (with_reducible assumption) | assumption)
             obtain ⟨ad224, e224, hx224_0⟩ := Kd.at_int (Kd.R_reads' HO_9.out).2.2 (rd t217 x15_5) p224 q224
             obtain rfl : (⟨go38, 0, none⟩ : Addr) = ad224 := (by injection e224)
             (first | simp only [add_plain] at hx224_0 | simp only [add_at] at hx224_0 | simp only [Addr.add, Nat.zero_add] at hx224_0 | skip)
             replace p224 := eq_true p224
             replace q224 := eq_true q224
             have p110 : 0 ≤ ((rd t217 x15_5) : Int) := of_decide_eq_true (by first | (with_reducible assumption) | assumption)
             have q110 : ((rd t217 x15_5) : Int) < ((x9_5.length : Int) : Int) := of_decide_eq_true (by first | (with_reducible assumption) | assumption)
             obtain ⟨hx110_0, hf110_0⟩ := Kd.R_celln 0 HO_9.out ((rd t217 x15_5) : Int) p110 q110
             replace p110 := eq_true p110
             replace q110 := eq_true q110
             have HP113 := Kd.R_putn HO_9.out ((rd t217 x15_5) : Int) (wrap64 ((rd x9_5 (rd t217 x15_5)) + (wrap64 ((wrap64 (Int.tdiv (rd x9_5 x12_4) (t217.length : Int))) + 1))))
             rw [← Ny225.out] at HP113
             have HQ113 := Aside0.mk HP113
             clear HP113
             refine start_ (n := 16) (S := fun w' => w'.cell? (ad222.add (x15_5).toNat) = some (.int .i64 (rd t217 x15_5)) ∧ w'.cell? (ad222.add (x15_5).toNat) = some (.int .i64 (rd t217 x15_5)) ∧ w'.cell? ⟨go38, ((rd t217 x15_5)).toNat, none⟩ = some (.int .i64 (rd x9_5 (rd t217 x15_5)))) (ds := [15]) ba6_46 (by kernel_rfl) rfl rfl ⟨hx222_0, hx223_0, hx224_0⟩ (fun hHeld => ?_); refine with_tabW spec_Shares.tab26 spec_Shares.bits26 (fun HT_ HW_ => ?_)
             generalize wr.drew = w112 at HO_9 HO_10 HO_14 BK191 HB HQ113 hf110_0 hx110_0 hx222_0 hx223_0 hx224_0 hHeld ⊢
             refine pz_ 0 140 ba6_47 HT_ ?_
             refine pz_ 1 141 ba6_48 HT_ ?_
             refine pz_ 2 142 ba6_49 HT_ ?_
             refine pz_ 3 143 ba6_50 HT_ ?_
             refine pz_ 5 145 ba6_51 HT_ ?_
             refine pz_ 6 146 ba6_52 HT_ ?_
             refine pz_ 7 147 ba6_53 HT_ ?_
             refine pz_ 8 148 ba6_54 HT_ ?_
             refine pz_ 12 152 ba6_55 HT_ ?_
             refine pt_ 4 144 ba6_56 HT_ HW_ hHeld ?_
             refine pt_ 9 149 ba6_57 HT_ HW_ hHeld ?_
             refine pz_ 10 150 ba6_58 HT_ ?_
             refine pt_ 11 151 ba6_59 HT_ HW_ hHeld ?_
             refine pz_ 13 153 ba6_60 HT_ ?_
             refine pz_ 14 154 ba6_61 HT_ ?_
             refine last_ (i := 15) (N := none) ba6_62 rfl rfl (one_of HT_.out (by kernel_rfl)) (by decide) (fun K hK => ?_)
             refine skip_ (w1 := ?_) (by rfl) rfl ?_ ?_
             rotate_left; · go_simp; rfl
             refine hK.out _ _ ?_
             clear hK K
             refine done_ (done_of HT_.out (by kernel_rfl)) ?_
             try go_wp2
             (try simp only [← hl9_5, ← hl10_5])
             go_roundg k5
             case measure => have := HJ4.out; have := HJ26.out; have := HK3.out; have := HK4.out; have := HK5.out; omega
             case rel => exact ⟨(y225), (wrap64 (x15_5 + 1)), (by first | rfl | (simp; done) | (simp [*]; done)), H', ⟨by have := HJ4.out; have := HJ26.out; have := HK3.out; have := HK4.out; have := HK5.out; omega⟩, ⟨by (try simp only [hl9_3]); (try simp only [hl9_5]); (try simp only [hl10_5]); (with_reducible repeat (first | apply Kd.R_alloc | apply Kd.R_drewN | apply Kd.R_drew)); exact HQ113.out⟩, ⟨by (try simp only [hl9_3]); (try simp only [hl9_5]); (try simp only [hl10_5]); (with_reducible repeat (first | apply Kd.R_alloc | apply Kd.R_drewN | apply Kd.R_drew)); exact Kd.R_mono (Kd.R_far (p := ⟨go38, ((rd t217 x15_5) : Int).toNat, none⟩) (R_typesR HO_10.out HO_9.out (by decide)) (fun _ hk => hk.2) (.int .i64 (wrap64 ((rd x9_5 (rd t217 x15_5)) + (wrap64 ((wrap64 (Int.tdiv (rd x9_5 x12_4) (t217.length : Int))) + 1)))))) (fun _ hk => trivial)⟩, ⟨by (try simp only [hl9_3]); (try simp only [hl9_5]); (try simp only [hl10_5]); (with_reducible repeat (first | apply Kd.R_alloc | apply Kd.R_drewN | apply Kd.R_drew)); exact Kd.R_mono (Kd.R_far (p := ⟨go38, ((rd t217 x15_5) : Int).toNat, none⟩) (Kd.R_mono HO_14.out (fun k_ hk => (⟨hk, fun e_ => hk (by rw [e_]; rfl)⟩ : _ ∧ k_ ≠ go38))) (fun _ hk => hk.2) (.int .i64 (wrap64 ((rd x9_5 (rd t217 x15_5)) + (wrap64 ((wrap64 (Int.tdiv (rd x9_5 x12_4) (t217.length : Int))) + 1)))))) (fun _ hk => hk.1)⟩, ⟨by (try simp only [hl9_3]); (try simp only [hl9_5]); (try simp only [hl10_5]); (with_reducible repeat (first | refine blk_drewN ?_ _ | refine blk_drew ?_ | refine blk_alloc ?_ _)); refine blk_far ?_ (by have h_ := Kd.R_ne HO_9.out BK191.out (by decide); intro e_; exact h_ (by rw [e_]; rfl)) _; (with_reducible repeat (first | refine blk_drewN ?_ _ | refine blk_drew ?_ | refine blk_alloc ?_ _)); exact BK191.out⟩, ⟨by repeat (first | (with_reducible first | exact HB.out | apply below_alloc | apply pw_below_drewN | apply below_drew1 | refine below_set ?_ GB38.out | refine below_set ?_ GE191.out) | exact HB.out)⟩⟩
            rw [if_neg c106] at H
            have c106b0 : decide (x15_5 < (Int.tmod (rd x9_5 x12_4) (t217.length : Int))) = false := decide_eq_false c106
            clear c106
            by_cases c114 : 0 ≤ x15_5
            rotate_left
            ·rw [if_neg c114] at H
             exact absurd H (by simp)
            rw [if_pos c114] at H
            have c114b0 : decide (0 ≤ x15_5) = true := decide_eq_true c114
            clear c114
            by_cases c115 : 0 ≤ (rd t217 x15_5)
            rotate_left
            ·rw [if_neg c115] at H
             exact absurd H (by simp)
            rw [if_pos c115] at H
            have c115b0 : decide (0 ≤ (rd t217 x15_5)) = true := decide_eq_true c115
            clear c115
            by_cases c116 : (rd t217 x15_5) < (x9_5.length : Int)
            rotate_left
            ·rw [if_neg c116] at H
             exact absurd H (by simp)
            rw [if_pos c116] at H
            have c116b0 : decide ((rd t217 x15_5) < (x9_5.length : Int)) = true := decide_eq_true c116
            clear c116
            obtain ⟨y229, hy229⟩ : ∃ y_ : List Int, y_ = (x9_5.set ((rd t217 x15_5) : Int).toNat (wrap64 ((rd x9_5 (rd t217 x15_5)) + (wrap64 (Int.tdiv (rd x9_5 x12_4) (t217.length : Int)))))) := ⟨_, rfl⟩
            replace H : (spec_Shares.l2 k5 a2 y229 y216 x11_3 x12_4 t217 (wrap64 (x15_5 + 1)) a0_0 l0_1) = some r := by first | (rw [hy229]; with_reducible exact H) | (have H2_ := (Option.bind_some _ _).symm.trans H; rw [hy229]; with_reducible exact H2_) | (have H2_ := (Option.bind_some _ _).symm.trans H; with_reducible exact H2_) | with_reducible exact H | (rw [hy229]; exact H) | exact H
            have Ny229 := Aside0.mk hy229
            clear hy229
            have H' := Aside0.mk H
            clear H
            obtain ⟨Ao118, co118, eo118⟩ := Kd.R_slice HO_14.out
            subst eo118
            have p220 : 0 ≤ (x12_4 : Int) := of_decide_eq_true (by first | (with_reducible assumption) | assumption)
            have q220 : x12_4 < (x9_5.length : Int) := of_decide_eq_true (by first | (with_reducible assumption) | assumption)
            obtain ⟨ad220, e220, hx220_0⟩ := Kd.at_int (Kd.R_reads' HO_9.out).2.2 x12_4 p220 q220
            obtain rfl : (⟨go38, 0, none⟩ : Addr) = ad220 := (by injection e220)
            (first | simp only [add_plain] at hx220_0 | simp only [add_at] at hx220_0 | simp only [Addr.add, Nat.zero_add] at hx220_0 | skip)
            replace p220 := eq_true p220
            replace q220 := eq_true q220
            have p221 : 0 ≤ (x12_4 : Int) := of_decide_eq_true (by first | (with_reducible assumption) | assumption)
            have q221 : x12_4 < (x9_5.length : Int) := of_decide_eq_true (by first | (with_reducible assumption) | assumption)
            obtain ⟨ad221, e221, hx221_0⟩ := Kd.at_int (Kd.R_reads' HO_9.out).2.2 x12_4 p221 q221
            obtain rfl : (⟨go38, 0, none⟩ : Addr) = ad221 := (by injection e221)
            (first | simp only [add_plain] at hx221_0 | simp only [add_at] at hx221_0 | simp only [Addr.add, Nat.zero_add] at hx221_0 | skip)
            replace p221 := eq_true p221
            replace q221 := eq_true q221
            try go_wp2
            replace HO_9 := Aside0.mk (Kd.R_drew HO_9.out)
            replace HO_10 := Aside0.mk (Kd.R_drew HO_10.out)
            replace HO_14 := Aside0.mk (Kd.R_drew HO_14.out)
            replace BK191 := Aside0.mk (blk_drew BK191.out)
            replace HB := Aside0.mk (below_drew1 HB.out)
            have p226 : 0 ≤ (x15_5 : Int) := of_decide_eq_true (by first | (with_reducible assumption) | assumption)
            have q226 : x15_5 < (t217.length : Int) := of_decide_eq_true (by first | (with_reducible assumption) | assumption)
            obtain ⟨ad226, e226, hx226_0⟩ := Kd.at_int (Kd.R_reads' HO_14.out).2.2 x15_5 p226 q226
            cases e226
            replace p226 := eq_true p226
            replace q226 := eq_true q226
            have p227 : 0 ≤ (x15_5 : Int) := of_decide_eq_true (by first | (with_reducible assumption) | assumption)
            have q227 : x15_5 < (t217.length : Int) := of_decide_eq_true (by first | (with_reducible assumption) | assumption)
            obtain ⟨ad227, e227, hx227_0⟩ := Kd.at_int (Kd.R_reads' HO_14.out).2.2 x15_5 p227 q227
            obtain rfl : ad226 = ad227 := (by injection e227)
            replace p227 := eq_true p227
            replace q227 := eq_true q227
            have p228 : 0 ≤ ((rd t217 x15_5) : Int) := of_decide_eq_true (by first | (with_reducible assumption) | assumption)
            have q228 : (rd t217 x15_5) < (x9_5.length : Int) := of_decide_eq_true (by first | (with_reducible assumption) | assumption)
            obtain ⟨ad228, e228, hx228_0⟩ := Kd.at_int (Kd.R_reads' HO_9.out).2.2 (rd t217 x15_5) p228 q228
            obtain rfl : (⟨go38, 0, none⟩ : Addr) = ad228 := (by injection e228)
            (first | simp only [add_plain] at hx228_0 | simp only [add_at] at hx228_0 | simp only [Addr.add, Nat.zero_add] at hx228_0 | skip)
            replace p228 := eq_true p228
            replace q228 := eq_true q228
            have p117 : 0 ≤ ((rd t217 x15_5) : Int) := of_decide_eq_true (by first | (with_reducible assumption) | assumption)
            have q117 : ((rd t217 x15_5) : Int) < ((x9_5.length : Int) : Int) := of_decide_eq_true (by first | (with_reducible assumption) | assumption)
            obtain ⟨hx117_0, hf117_0⟩ := Kd.R_celln 0 HO_9.out ((rd t217 x15_5) : Int) p117 q117
            replace p117 := eq_true p117
            replace q117 := eq_true q117
            have HP120 := Kd.R_putn HO_9.out ((rd t217 x15_5) : Int) (wrap64 ((rd x9_5 (rd t217 x15_5)) + (wrap64 (Int.tdiv (rd x9_5 x12_4) (t217.length : Int)))))
            rw [← Ny229.out] at HP120
            have HQ120 := Aside0.mk HP120
            clear HP120
            refine start_ (n := 16) (S := fun w' => w'.cell? (ad226.add (x15_5).toNat) = some (.int .i64 (rd t217 x15_5)) ∧ w'.cell? (ad226.add (x15_5).toNat) = some (.int .i64 (rd t217 x15_5)) ∧ w'.cell? ⟨go38, ((rd t217 x15_5)).toNat, none⟩ = some (.int .i64 (rd x9_5 (rd t217 x15_5)))) (ds := [15]) ba6_46 (by kernel_rfl) rfl rfl ⟨hx226_0, hx227_0, hx228_0⟩ (fun hHeld => ?_); refine with_tabW spec_Shares.tab26 spec_Shares.bits26 (fun HT_ HW_ => ?_)
            generalize wr.drew = w119 at HO_9 HO_10 HO_14 BK191 HB HQ120 hf117_0 hx117_0 hx226_0 hx227_0 hx228_0 hHeld ⊢
            refine pz_ 0 140 ba6_47 HT_ ?_
            refine pz_ 1 141 ba6_48 HT_ ?_
            refine pz_ 2 142 ba6_49 HT_ ?_
            refine pz_ 3 143 ba6_50 HT_ ?_
            refine pz_ 5 145 ba6_51 HT_ ?_
            refine pz_ 6 146 ba6_52 HT_ ?_
            refine pz_ 7 147 ba6_53 HT_ ?_
            refine pz_ 8 148 ba6_54 HT_ ?_
            refine pz_ 12 152 ba6_55 HT_ ?_
            refine pt_ 4 144 ba6_56 HT_ HW_ hHeld ?_
            refine pt_ 9 149 ba6_57 HT_ HW_ hHeld ?_
            refine pz_ 10 150 ba6_58 HT_ ?_
            refine pt_ 11 151 ba6_59 HT_ HW_ hHeld ?_
            refine pz_ 13 153 ba6_60 HT_ ?_
            refine pz_ 14 154 ba6_61 HT_ ?_
            refine last_ (i := 15) (N := none) ba6_62 rfl rfl (one_of HT_.out (by kernel_rfl)) (by decide) (fun K hK => ?_)
            refine skip_ (w1 := ?_) (by rfl) rfl ?_ ?_
            rotate_left; · go_simp; rfl
            refine hK.out _ _ ?_
            clear hK K
            refine done_ (done_of HT_.out (by kernel_rfl)) ?_
            try go_wp2
            (try simp only [← hl9_5, ← hl10_5])
            go_roundg k5
            case measure => have := HJ4.out; have := HJ26.out; have := HK3.out; have := HK4.out; have := HK5.out; omega
            case rel => exact ⟨(y229), (wrap64 (x15_5 + 1)), (by first | rfl | (simp; done) | (simp [*]; done)), H', ⟨by have := HJ4.out; have := HJ26.out; have := HK3.out; have := HK4.out; have := HK5.out; omega⟩, ⟨by (try simp only [hl9_3]); (try simp only [hl9_5]); (try simp only [hl10_5]); (with_reducible repeat (first | apply Kd.R_alloc | apply Kd.R_drewN | apply Kd.R_drew)); exact HQ120.out⟩, ⟨by (try simp only [hl9_3]); (try simp only [hl9_5]); (try simp only [hl10_5]); (with_reducible repeat (first | apply Kd.R_alloc | apply Kd.R_drewN | apply Kd.R_drew)); exact Kd.R_mono (Kd.R_far (p := ⟨go38, ((rd t217 x15_5) : Int).toNat, none⟩) (R_typesR HO_10.out HO_9.out (by decide)) (fun _ hk => hk.2) (.int .i64 (wrap64 ((rd x9_5 (rd t217 x15_5)) + (wrap64 (Int.tdiv (rd x9_5 x12_4) (t217.length : Int))))))) (fun _ hk => trivial)⟩, ⟨by (try simp only [hl9_3]); (try simp only [hl9_5]); (try simp only [hl10_5]); (with_reducible repeat (first | apply Kd.R_alloc | apply Kd.R_drewN | apply Kd.R_drew)); exact Kd.R_mono (Kd.R_far (p := ⟨go38, ((rd t217 x15_5) : Int).toNat, none⟩) (Kd.R_mono HO_14.out (fun k_ hk => (⟨hk, fun e_ => hk (by rw [e_]; rfl)⟩ : _ ∧ k_ ≠ go38))) (fun _ hk => hk.2) (.int .i64 (wrap64 ((rd x9_5 (rd t217 x15_5)) + (wrap64 (Int.tdiv (rd x9_5 x12_4) (t217.length : Int))))))) (fun _ hk => hk.1)⟩, ⟨by (try simp only [hl9_3]); (try simp only [hl9_5]); (try simp only [hl10_5]); (with_reducible repeat (first | refine blk_drewN ?_ _ | refine blk_drew ?_ | refine blk_alloc ?_ _)); refine blk_far ?_ (by have h_ := Kd.R_ne HO_9.out BK191.out (by decide); intro e_; exact h_ (by rw [e_]; rfl)) _; (with_reducible repeat (first | refine blk_drewN ?_ _ | refine blk_drew ?_ | refine blk_alloc ?_ _)); exact BK191.out⟩, ⟨by repeat (first | (with_reducible first | exact HB.out | apply below_alloc | apply pw_below_drewN | apply below_drew1 | refine below_set ?_ GB38.out | refine below_set ?_ GE191.out) | exact HB.out)⟩⟩
         rw [if_pos c50] at H
         have c50b0 : decide (x13_4 < a0_0) = true := decide_eq_true c50
         clear c50
         by_cases c51 : 0 ≤ x13_4
         rotate_left
         ·rw [if_neg c51] at H
          exact absurd H (by simp)
         rw [if_pos c51] at H
         have c51b0 : decide (0 ≤ x13_4) = true := decide_eq_true c51
         clear c51
         by_cases c52 : x13_4 < (x10_3.length : Int)
         rotate_left
         ·rw [if_neg c52] at H
          exact absurd H (by simp)
         rw [if_pos c52] at H
         have c52b0 : decide (x13_4 < (x10_3.length : Int)) = true := decide_eq_true c52
         clear c52
         obtain ⟨bq53, hbq53⟩ : ∃ b_ : Bool, b_ = (rdOf false x10_3 x13_4) := ⟨_, rfl⟩
         replace H : (if bq53 = true then (spec_Shares.l1 k4 a2 x9_3 x10_3 x11_3 x12_4 (wrap64 (x13_4 + 1)) a0_0 l0_1) else (if x13_4 = a2 then (spec_Shares.l1 k4 a2 x9_3 x10_3 x11_3 x12_4 (wrap64 (x13_4 + 1)) a0_0 l0_1) else (if x13_4 < (x9_3.length : Int) then (if (rd x9_3 x13_4) > 0 then (if x12_4 < 0 then (spec_Shares.l1 k4 a2 x9_3 x10_3 x11_3 x13_4 (wrap64 (x13_4 + 1)) a0_0 l0_1) else ((spec_Distances.f k4 a0_0 l0_1 x13_4).bind fun t208 => (if 0 ≤ a2 then (if a2 < (t208.length : Int) then ((spec_Distances.f k4 a0_0 l0_1 x12_4).bind fun t212 => (if a2 < (t212.length : Int) then (if (rd t208 a2) > (rd t212 a2) then (spec_Shares.l1 k4 a2 x9_3 x10_3 x11_3 x13_4 (wrap64 (x13_4 + 1)) a0_0 l0_1) else (spec_Shares.l1 k4 a2 x9_3 x10_3 x11_3 x12_4 (wrap64 (x13_4 + 1)) a0_0 l0_1)) else (none))) else (none)) else (none)))) else (spec_Shares.l1 k4 a2 x9_3 x10_3 x11_3 x12_4 (wrap64 (x13_4 + 1)) a0_0 l0_1)) else (none)))) = some r := by rw [← hbq53] at H; exact H
         have Nbq53 := Aside0.mk hbq53
         clear hbq53
         by_cases c54 : bq53 = true
         ·subst c54
          rw [if_pos rfl] at H
          have H' := Aside0.mk H
          clear H
          have hcz55_0 := cz_ BK191 0 (.int .i64 a0_0)
          have hcz55_1 := cz_ BK191 1 (.slice A0_1 l0_1.length c0_1)
          have hfz55_0 := blk_frozen BK191.out 0
          have hfz55_1 := blk_frozen BK191.out 1
          try go_wp2
          replace HO_9 := Aside0.mk (Kd.R_drew HO_9.out)
          replace HO_10 := Aside0.mk (Kd.R_drew HO_10.out)
          replace BK191 := Aside0.mk (blk_drew BK191.out)
          replace HB := Aside0.mk (below_drew1 HB.out)
          obtain ⟨Ao57, co57, eo57⟩ := Kd.R_slice HO_10.out
          (first | subst eo57 | (injection eo57 with f1_ f2_ f3_; have f4_ := f1_.symm; have f5_ := f3_.symm; clear f1_ f2_ f3_; subst f4_; subst f5_))
          have p206 : 0 ≤ (x13_4 : Int) := of_decide_eq_true (by first | (with_reducible assumption) | assumption)
          have q206 : x13_4 < (x10_3.length : Int) := of_decide_eq_true (by first | (with_reducible assumption) | assumption)
          obtain ⟨ad206, e206, hx206_0⟩ := Kd.at_bool (Kd.R_reads' HO_10.out).2.2 x13_4 p206 q206
          (try rw [← Nbq53.out] at hx206_0)
          cases e206
          replace p206 := eq_true p206
          replace q206 := eq_true q206
          refine start_ (n := 36) (S := fun w' => w'.cell? (ad206.add (x13_4).toNat) = some (.bool true)) (ds := []) ba6_0 (by kernel_rfl) rfl rfl (hx206_0) (fun hHeld => ?_); refine with_tabW spec_Shares.tab15 spec_Shares.bits15 (fun HT_ HW_ => ?_)
          generalize wr.drew = w56 at HO_9 HO_10 BK191 HB hx206_0 hHeld ⊢
          refine pz_ 0 70 ba6_1 HT_ ?_
          refine pz_ 1 71 ba6_2 HT_ ?_
          refine pz_ 2 72 ba6_3 HT_ ?_
          refine take_ (i := 3) (N := some 73) (v := ?_) (a' := ?_) ba6_4 rfl rfl (take_ofW HT_.out HW_.out (by kernel_rfl)) (fun _ _ _ h => h) (Or.inl ⟨by rfl, ?_⟩) hHeld ?_ ?_
          rotate_left; · intro w' s0; go_simp; with_reducible rfl
          rotate_left; · simp only [Act.put, List.setIfInBounds_toArray, List.set_cons_zero, List.set_cons_succ, i64_w, i32_w]; rfl
          refine pz_ 4 74 ba6_5 HT_ ?_
          refine pz_ 5 75 ba6_6 HT_ ?_
          refine pu_ 6 76 ba6_7 HT_ ?_
          refine pu_ 7 77 ba6_8 HT_ ?_
          refine pu_ 8 78 ba6_9 HT_ ?_
          refine pz_ 9 79 ba6_10 HT_ ?_
          refine pz_ 10 80 ba6_11 HT_ ?_
          refine pu_ 11 81 ba6_12 HT_ ?_
          refine pu_ 12 82 ba6_13 HT_ ?_
          refine pu_ 13 83 ba6_14 HT_ ?_
          refine pu_ 14 84 ba6_15 HT_ ?_
          refine pu_ 15 85 ba6_16 HT_ ?_
          refine pz_ 16 86 ba6_17 HT_ ?_
          refine pz_ 17 87 ba6_18 HT_ ?_
          refine pu_ 18 88 ba6_19 HT_ ?_
          refine pu_ 19 89 ba6_20 HT_ ?_
          refine pu_ 20 90 ba6_21 HT_ ?_
          refine pu_ 21 91 ba6_22 HT_ ?_
          refine pu_ 22 92 ba6_23 HT_ ?_
          refine pu_ 23 93 ba6_24 HT_ ?_
          refine pu_ 24 94 ba6_25 HT_ ?_
          refine pu_ 25 95 ba6_26 HT_ ?_
          refine pu_ 26 96 ba6_27 HT_ ?_
          refine pu_ 27 97 ba6_28 HT_ ?_
          refine pu_ 28 98 ba6_29 HT_ ?_
          refine pu_ 29 99 ba6_30 HT_ ?_
          refine pu_ 30 100 ba6_31 HT_ ?_
          refine pu_ 31 101 ba6_32 HT_ ?_
          refine pu_ 32 102 ba6_33 HT_ ?_
          refine pu_ 33 103 ba6_34 HT_ ?_
          refine pu_ 34 104 ba6_35 HT_ ?_
          refine pz_ 35 105 ba6_36 HT_ ?_
          refine done_ (done_of HT_.out (by kernel_rfl)) ?_
          try go_wp2
          go_roundg k4
          case measure => have := HJ4.out; have := HJ26.out; have := HK3.out; have := HK4.out; omega
          case rel => exact ⟨(x12_4), (wrap64 (x13_4 + 1)), (by first | rfl | (simp; done) | (simp [*]; done)), (by first | rfl | (simp; done) | (simp [*]; done)), H', ⟨by have := HJ4.out; have := HJ26.out; have := HK3.out; have := HK4.out; omega⟩, ⟨by (try simp only [hl9_3]); (with_reducible repeat (first | apply Kd.R_alloc | apply Kd.R_drewN | apply Kd.R_drew)); exact HO_9.out⟩, ⟨by (try simp only [hl9_3]); (with_reducible repeat (first | apply Kd.R_alloc | apply Kd.R_drewN | apply Kd.R_drew)); exact HO_10.out⟩, ⟨by (try simp only [hl9_3]); (with_reducible repeat (first | refine blk_drewN ?_ _ | refine blk_drew ?_ | refine blk_alloc ?_ _)); exact BK191.out⟩, ⟨by repeat (first | (with_reducible first | exact HB.out | apply below_alloc | apply pw_below_drewN | apply below_drew1 | refine below_set ?_ GE191.out) | exact HB.out)⟩⟩
         replace c54 := Bool.eq_false_iff.mpr c54
         subst c54
         rw [if_neg (show ¬ (false = true) by decide)] at H
         by_cases c58 : x13_4 = a2
         ·rw [if_pos c58] at H
          have c58b0 : (x13_4 == a2) = true := beq_iff_eq.mpr c58
          have c58b1 : (x13_4 != a2) = false := bne_eq_false_iff_eq.mpr c58
          clear c58
          have H' := Aside0.mk H
          clear H
          have hcz59_0 := cz_ BK191 0 (.int .i64 a0_0)
          have hcz59_1 := cz_ BK191 1 (.slice A0_1 l0_1.length c0_1)
          have hfz59_0 := blk_frozen BK191.out 0
          have hfz59_1 := blk_frozen BK191.out 1
          try go_wp2
          replace HO_9 := Aside0.mk (Kd.R_drew HO_9.out)
          replace HO_10 := Aside0.mk (Kd.R_drew HO_10.out)
          replace BK191 := Aside0.mk (blk_drew BK191.out)
          replace HB := Aside0.mk (below_drew1 HB.out)
          obtain ⟨Ao61, co61, eo61⟩ := Kd.R_slice HO_10.out
          (first | subst eo61 | (injection eo61 with f1_ f2_ f3_; have f4_ := f1_.symm; have f5_ := f3_.symm; clear f1_ f2_ f3_; subst f4_; subst f5_))
          have p206 : 0 ≤ (x13_4 : Int) := of_decide_eq_true (by first | (with_reducible assumption) | assumption)
          have q206 : x13_4 < (x10_3.length : Int) := of_decide_eq_true (by first | (with_reducible assumption) | assumption)
          obtain ⟨ad206, e206, hx206_0⟩ := Kd.at_bool (Kd.R_reads' HO_10.out).2.2 x13_4 p206 q206
          (try rw [← Nbq53.out] at hx206_0)
          cases e206
          replace p206 := eq_true p206
          replace q206 := eq_true q206
          refine start_ (n := 36) (S := fun w' => w'.cell? (ad206.add (x13_4).toNat) = some (.bool false)) (ds := []) ba6_0 (by kernel_rfl) rfl rfl (hx206_0) (fun hHeld => ?_); refine with_tabW spec_Shares.tab15 spec_Shares.bits15 (fun HT_ HW_ => ?_)
          generalize wr.drew = w60 at HO_9 HO_10 BK191 HB hx206_0 hHeld ⊢
          refine pz_ 0 70 ba6_1 HT_ ?_
          refine pz_ 1 71 ba6_2 HT_ ?_
          refine pz_ 2 72 ba6_3 HT_ ?_
          refine take_ (i := 3) (N := some 73) (v := ?_) (a' := ?_) ba6_4 rfl rfl (take_ofW HT_.out HW_.out (by kernel_rfl)) (fun _ _ _ h => h) (Or.inl ⟨by rfl, ?_⟩) hHeld ?_ ?_
          rotate_left; · intro w' s0; go_simp; with_reducible rfl
          rotate_left; · simp only [Act.put, List.setIfInBounds_toArray, List.set_cons_zero, List.set_cons_succ, i64_w, i32_w]; rfl
          refine pz_ 4 74 ba6_5 HT_ ?_
          refine pz_ 5 75 ba6_6 HT_ ?_
          refine pz_ 6 76 ba6_7 HT_ ?_
          refine pz_ 7 77 ba6_8 HT_ ?_
          refine pz_ 8 78 ba6_9 HT_ ?_
          refine pz_ 9 79 ba6_10 HT_ ?_
          refine pz_ 10 80 ba6_11 HT_ ?_
          refine pu_ 11 81 ba6_12 HT_ ?_
          refine pu_ 12 82 ba6_13 HT_ ?_
          refine pu_ 13 83 ba6_14 HT_ ?_
          refine pu_ 14 84 ba6_15 HT_ ?_
          refine pu_ 15 85 ba6_16 HT_ ?_
          refine pz_ 16 86 ba6_17 HT_ ?_
          refine pz_ 17 87 ba6_18 HT_ ?_
          refine pu_ 18 88 ba6_19 HT_ ?_
          refine pu_ 19 89 ba6_20 HT_ ?_
          refine pu_ 20 90 ba6_21 HT_ ?_
          refine pu_ 21 91 ba6_22 HT_ ?_
          refine pu_ 22 92 ba6_23 HT_ ?_
          refine pu_ 23 93 ba6_24 HT_ ?_
          refine pu_ 24 94 ba6_25 HT_ ?_
          refine pu_ 25 95 ba6_26 HT_ ?_
          refine pu_ 26 96 ba6_27 HT_ ?_
          refine pu_ 27 97 ba6_28 HT_ ?_
          refine pu_ 28 98 ba6_29 HT_ ?_
          refine pu_ 29 99 ba6_30 HT_ ?_
          refine pu_ 30 100 ba6_31 HT_ ?_
          refine pu_ 31 101 ba6_32 HT_ ?_
          refine pu_ 32 102 ba6_33 HT_ ?_
          refine pu_ 33 103 ba6_34 HT_ ?_
          refine pu_ 34 104 ba6_35 HT_ ?_
          refine pz_ 35 105 ba6_36 HT_ ?_
          refine done_ (done_of HT_.out (by kernel_rfl)) ?_
          try go_wp2
          go_roundg k4
          case measure => have := HJ4.out; have := HJ26.out; have := HK3.out; have := HK4.out; omega
          case rel => exact ⟨(x12_4), (wrap64 (x13_4 + 1)), (by first | rfl | (simp; done) | (simp [*]; done)), (by first | rfl | (simp; done) | (simp [*]; done)), H', ⟨by have := HJ4.out; have := HJ26.out; have := HK3.out; have := HK4.out; omega⟩, ⟨by (try simp only [hl9_3]); (with_reducible repeat (first | apply Kd.R_alloc | apply Kd.R_drewN | apply Kd.R_drew)); exact HO_9.out⟩, ⟨by (try simp only [hl9_3]); (with_reducible repeat (first | apply Kd.R_alloc | apply Kd.R_drewN | apply Kd.R_drew)); exact HO_10.out⟩, ⟨by (try simp only [hl9_3]); (with_reducible repeat (first | refine blk_drewN ?_ _ | refine blk_drew ?_ | refine blk_alloc ?_ _)); exact BK191.out⟩, ⟨by repeat (first | (with_reducible first | exact HB.out | apply below_alloc | apply pw_below_drewN | apply below_drew1 | refine below_set ?_ GE191.out) | exact HB.out)⟩⟩
         rw [if_neg c58] at H
         have c58b0 : (x13_4 == a2) = false := beq_eq_false_iff_ne.mpr c58
         have c58b1 : (x13_4 != a2) = true := bne_iff_ne.mpr c58
         by_cases c62 : x13_4 < (x9_3.length : Int)
         rotate_left
         ·rw [if_neg c62] at H
          exact absurd H (by simp)
         rw [if_pos c62] at H
         have c62b0 : decide (x13_4 < (x9_3.length : Int)) = true := decide_eq_true c62
         clear c62
         by_cases c63 : (rd x9_3 x13_4) > 0
         rotate_left
         ·rw [if_neg c63] at H
          have c63b0 : decide (0 < (rd x9_3 x13_4)) = false := decide_eq_false c63
          clear c63
          have H' := Aside0.mk H
          clear H
          have hcz88_0 := cz_ BK191 0 (.int .i64 a0_0)
          have hcz88_1 := cz_ BK191 1 (.slice A0_1 l0_1.length c0_1)
          have hfz88_0 := blk_frozen BK191.out 0
          have hfz88_1 := blk_frozen BK191.out 1
          try go_wp2
          replace HO_9 := Aside0.mk (Kd.R_drew HO_9.out)
          replace HO_10 := Aside0.mk (Kd.R_drew HO_10.out)
          replace BK191 := Aside0.mk (blk_drew BK191.out)
          replace HB := Aside0.mk (below_drew1 HB.out)
          obtain ⟨Ao90, co90, eo90⟩ := Kd.R_slice HO_10.out
          (first | subst eo90 | (injection eo90 with f1_ f2_ f3_; have f4_ := f1_.symm; have f5_ := f3_.symm; clear f1_ f2_ f3_; subst f4_; subst f5_))
          have p206 : 0 ≤ (x13_4 : Int) := of_decide_eq_true (by first | (with_reducible assumption) | assumption)
          have q206 : x13_4 < (x10_3.length : Int) := of_decide_eq_true (by first | (with_reducible assumption) | assumption)
          obtain ⟨ad206, e206, hx206_0⟩ := Kd.at_bool (Kd.R_reads' HO_10.out).2.2 x13_4 p206 q206
          (try rw [← Nbq53.out] at hx206_0)
          cases e206
          replace p206 := eq_true p206
          replace q206 := eq_true q206
          have p207 : 0 ≤ (x13_4 : Int) := of_decide_eq_true (by first | (with_reducible assumption) | assumption)
          have q207 : x13_4 < (x9_3.length : Int) := of_decide_eq_true (by first | (with_reducible assumption) | assumption)
          obtain ⟨ad207, e207, hx207_0⟩ := Kd.at_int (Kd.R_reads' HO_9.out).2.2 x13_4 p207 q207
          obtain rfl : (⟨go38, 0, none⟩ : Addr) = ad207 := (by injection e207)
          (first | simp only [add_plain] at hx207_0 | simp only [add_at] at hx207_0 | simp only [Addr.add, Nat.zero_add] at hx207_0 | skip)
          replace p207 := eq_true p207
          replace q207 := eq_true q207
          refine start_ (n := 36) (S := fun w' => w'.cell? (ad206.add (x13_4).toNat) = some (.bool false) ∧ w'.cell? ⟨go38, (x13_4).toNat, none⟩ = some (.int .i64 (rd x9_3 x13_4))) (ds := []) ba6_0 (by kernel_rfl) rfl rfl ⟨hx206_0, hx207_0⟩ (fun hHeld => ?_); refine with_tabW spec_Shares.tab15 spec_Shares.bits15 (fun HT_ HW_ => ?_)
          generalize wr.drew = w89 at HO_9 HO_10 BK191 HB hx206_0 hx207_0 hHeld ⊢
          refine pz_ 0 70 ba6_1 HT_ ?_
          refine pz_ 1 71 ba6_2 HT_ ?_
          refine pz_ 2 72 ba6_3 HT_ ?_
          refine pt_ 3 73 ba6_4 HT_ HW_ hHeld ?_
          refine pz_ 4 74 ba6_5 HT_ ?_
          refine pz_ 5 75 ba6_6 HT_ ?_
          refine pz_ 6 76 ba6_7 HT_ ?_
          refine pz_ 7 77 ba6_8 HT_ ?_
          refine pz_ 8 78 ba6_9 HT_ ?_
          refine pz_ 9 79 ba6_10 HT_ ?_
          refine pz_ 10 80 ba6_11 HT_ ?_
          refine pz_ 11 81 ba6_12 HT_ ?_
          refine pz_ 12 82 ba6_13 HT_ ?_
          refine pz_ 13 83 ba6_14 HT_ ?_
          refine pt_ 14 84 ba6_15 HT_ HW_ hHeld ?_
          refine pz_ 15 85 ba6_16 HT_ ?_
          refine pz_ 16 86 ba6_17 HT_ ?_
          refine pz_ 17 87 ba6_18 HT_ ?_
          refine pu_ 18 88 ba6_19 HT_ ?_
          refine pu_ 19 89 ba6_20 HT_ ?_
          refine pu_ 20 90 ba6_21 HT_ ?_
          refine pu_ 21 91 ba6_22 HT_ ?_
          refine pu_ 22 92 ba6_23 HT_ ?_
          refine pu_ 23 93 ba6_24 HT_ ?_
          refine pu_ 24 94 ba6_25 HT_ ?_
          refine pu_ 25 95 ba6_26 HT_ ?_
          refine pu_ 26 96 ba6_27 HT_ ?_
          refine pu_ 27 97 ba6_28 HT_ ?_
          refine pu_ 28 98 ba6_29 HT_ ?_
          refine pu_ 29 99 ba6_30 HT_ ?_
          refine pu_ 30 100 ba6_31 HT_ ?_
          refine pu_ 31 101 ba6_32 HT_ ?_
          refine pu_ 32 102 ba6_33 HT_ ?_
          refine pu_ 33 103 ba6_34 HT_ ?_
          refine pu_ 34 104 ba6_35 HT_ ?_
          refine pz_ 35 105 ba6_36 HT_ ?_
          refine done_ (done_of HT_.out (by kernel_rfl)) ?_
          try go_wp2
          go_roundg k4
          case measure => have := HJ4.out; have := HJ26.out; have := HK3.out; have := HK4.out; omega
          case rel => exact ⟨(x12_4), (wrap64 (x13_4 + 1)), (by first | rfl | (simp; done) | (simp [*]; done)), (by first | rfl | (simp; done) | (simp [*]; done)), H', ⟨by have := HJ4.out; have := HJ26.out; have := HK3.out; have := HK4.out; omega⟩, ⟨by (try simp only [hl9_3]); (with_reducible repeat (first | apply Kd.R_alloc | apply Kd.R_drewN | apply Kd.R_drew)); exact HO_9.out⟩, ⟨by (try simp only [hl9_3]); (with_reducible repeat (first | apply Kd.R_alloc | apply Kd.R_drewN | apply Kd.R_drew)); exact HO_10.out⟩, ⟨by (try simp only [hl9_3]); (with_reducible repeat (first | refine blk_drewN ?_ _ | refine blk_drew ?_ | refine blk_alloc ?_ _)); exact BK191.out⟩, ⟨by repeat (first | (with_reducible first | exact HB.out | apply below_alloc | apply pw_below_drewN | apply below_drew1 | refine below_set ?_ GE191.out) | exact HB.out)⟩⟩
         rw [if_pos c63] at H
         have c63b0 : decide (0 < (rd x9_3 x13_4)) = true := decide_eq_true c63
         clear c63
         by_cases c64 : x12_4 < 0
         ·rw [if_pos c64] at H
          have c64b0 : decide (x12_4 < 0) = true := decide_eq_true c64
          clear c64
          have H' := Aside0.mk H
          clear H
          have hcz65_0 := cz_ BK191 0 (.int .i64 a0_0)
          have hcz65_1 := cz_ BK191 1 (.slice A0_1 l0_1.length c0_1)
          have hfz65_0 := blk_frozen BK191.out 0
          have hfz65_1 := blk_frozen BK191.out 1
          try go_wp2
          replace HO_9 := Aside0.mk (Kd.R_drew HO_9.out)
          replace HO_10 := Aside0.mk (Kd.R_drew HO_10.out)
          replace BK191 := Aside0.mk (blk_drew BK191.out)
          replace HB := Aside0.mk (below_drew1 HB.out)
          obtain ⟨Ao67, co67, eo67⟩ := Kd.R_slice HO_10.out
          (first | subst eo67 | (injection eo67 with f1_ f2_ f3_; have f4_ := f1_.symm; have f5_ := f3_.symm; clear f1_ f2_ f3_; subst f4_; subst f5_))
          have p206 : 0 ≤ (x13_4 : Int) := of_decide_eq_true (by first | (with_reducible assumption) | assumption)
          have q206 : x13_4 < (x10_3.length : Int) := of_decide_eq_true (by first | (with_reducible assumption) | assumption)
          obtain ⟨ad206, e206, hx206_0⟩ := Kd.at_bool (Kd.R_reads' HO_10.out).2.2 x13_4 p206 q206
          (try rw [← Nbq53.out] at hx206_0)
          cases e206
          replace p206 := eq_true p206
          replace q206 := eq_true q206
          have p207 : 0 ≤ (x13_4 : Int) := of_decide_eq_true (by first | (with_reducible assumption) | assumption)
          have q207 : x13_4 < (x9_3.length : Int) := of_decide_eq_true (by first | (with_reducible assumption) | assumption)
          obtain ⟨ad207, e207, hx207_0⟩ := Kd.at_int (Kd.R_reads' HO_9.out).2.2 x13_4 p207 q207
          obtain rfl : (⟨go38, 0, none⟩ : Addr) = ad207 := (by injection e207)
          (first | simp only [add_plain] at hx207_0 | simp only [add_at] at hx207_0 | simp only [Addr.add, Nat.zero_add] at hx207_0 | skip)
          replace p207 := eq_true p207
          replace q207 := eq_true q207
          refine start_ (n := 36) (S := fun w' => w'.cell? (ad206.add (x13_4).toNat) = some (.bool false) ∧ w'.cell? ⟨go38, (x13_4).toNat, none⟩ = some (.int .i64 (rd x9_3 x13_4))) (ds := []) ba6_0 (by kernel_rfl) rfl rfl ⟨hx206_0, hx207_0⟩ (fun hHeld => ?_); refine with_tabW spec_Shares.tab15 spec_Shares.bits15 (fun HT_ HW_ => ?_)
          generalize wr.drew = w66 at HO_9 HO_10 BK191 HB hx206_0 hx207_0 hHeld ⊢
          refine pz_ 0 70 ba6_1 HT_ ?_
          refine pz_ 1 71 ba6_2 HT_ ?_
          refine pz_ 2 72 ba6_3 HT_ ?_
          refine pt_ 3 73 ba6_4 HT_ HW_ hHeld ?_
          refine pz_ 4 74 ba6_5 HT_ ?_
          refine pz_ 5 75 ba6_6 HT_ ?_
          refine pz_ 6 76 ba6_7 HT_ ?_
          refine pz_ 7 77 ba6_8 HT_ ?_
          refine pz_ 8 78 ba6_9 HT_ ?_
          refine pz_ 9 79 ba6_10 HT_ ?_
          refine pz_ 10 80 ba6_11 HT_ ?_
          refine pz_ 11 81 ba6_12 HT_ ?_
          refine pz_ 12 82 ba6_13 HT_ ?_
          refine pz_ 13 83 ba6_14 HT_ ?_
          refine pt_ 14 84 ba6_15 HT_ HW_ hHeld ?_
          refine pz_ 15 85 ba6_16 HT_ ?_
          refine pz_ 16 86 ba6_17 HT_ ?_
          refine pz_ 17 87 ba6_18 HT_ ?_
          refine pz_ 18 88 ba6_19 HT_ ?_
          refine pz_ 19 89 ba6_20 HT_ ?_
          refine pz_ 20 90 ba6_21 HT_ ?_
          refine pu_ 21 91 ba6_22 HT_ ?_
          refine pu_ 22 92 ba6_23 HT_ ?_
          refine pu_ 23 93 ba6_24 HT_ ?_
          refine pu_ 24 94 ba6_25 HT_ ?_
          refine pu_ 25 95 ba6_26 HT_ ?_
          refine pu_ 26 96 ba6_27 HT_ ?_
          refine pu_ 27 97 ba6_28 HT_ ?_
          refine pu_ 28 98 ba6_29 HT_ ?_
          refine pu_ 29 99 ba6_30 HT_ ?_
          refine pu_ 30 100 ba6_31 HT_ ?_
          refine pu_ 31 101 ba6_32 HT_ ?_
          refine pu_ 32 102 ba6_33 HT_ ?_
          refine pu_ 33 103 ba6_34 HT_ ?_
          refine pz_ 34 104 ba6_35 HT_ ?_
          refine pz_ 35 105 ba6_36 HT_ ?_
          refine done_ (done_of HT_.out (by kernel_rfl)) ?_
          try go_wp2
          go_roundg k4
          case measure => have := HJ4.out; have := HJ26.out; have := HK3.out; have := HK4.out; omega
          case rel => exact ⟨(x13_4), (wrap64 (x13_4 + 1)), (by first | rfl | (simp; done) | (simp [*]; done)), (by first | rfl | (simp; done) | (simp [*]; done)), H', ⟨by have := HJ4.out; have := HJ26.out; have := HK3.out; have := HK4.out; omega⟩, ⟨by (try simp only [hl9_3]); (with_reducible repeat (first | apply Kd.R_alloc | apply Kd.R_drewN | apply Kd.R_drew)); exact HO_9.out⟩, ⟨by (try simp only [hl9_3]); (with_reducible repeat (first | apply Kd.R_alloc | apply Kd.R_drewN | apply Kd.R_drew)); exact HO_10.out⟩, ⟨by (try simp only [hl9_3]); (with_reducible repeat (first | refine blk_drewN ?_ _ | refine blk_drew ?_ | refine blk_alloc ?_ _)); exact BK191.out⟩, ⟨by repeat (first | (with_reducible first | exact HB.out | apply below_alloc | apply pw_below_drewN | apply below_drew1 | refine below_set ?_ GE191.out) | exact HB.out)⟩⟩
         rw [if_neg c64] at H
         have c64b0 : decide (x12_4 < 0) = false := decide_eq_false c64
         clear c64
         replace H := Option.bind_eq_some_iff.mp H
         obtain ⟨t208, A680, H⟩ := H
         have A68 := Aside0.mk A680
         clear A680
         by_cases c69 : 0 ≤ a2
         rotate_left
         ·rw [if_neg c69] at H
          exact absurd H (by simp)
         rw [if_pos c69] at H
         have c69b0 : decide (0 ≤ a2) = true := decide_eq_true c69
         clear c69
         by_cases c70 : a2 < (t208.length : Int)
         rotate_left
         ·rw [if_neg c70] at H
          exact absurd H (by simp)
         rw [if_pos c70] at H
         have c70b0 : decide (a2 < (t208.length : Int)) = true := decide_eq_true c70
         clear c70
         replace H := Option.bind_eq_some_iff.mp H
         obtain ⟨t212, A710, H⟩ := H
         have A71 := Aside0.mk A710
         clear A710
         by_cases c72 : a2 < (t212.length : Int)
         rotate_left
         ·rw [if_neg c72] at H
          exact absurd H (by simp)
         rw [if_pos c72] at H
         have c72b0 : decide (a2 < (t212.length : Int)) = true := decide_eq_true c72
         clear c72
         by_cases c73 : (rd t208 a2) > (rd t212 a2)
         ·rw [if_pos c73] at H
          have c73b0 : decide ((rd t212 a2) < (rd t208 a2)) = true := decide_eq_true c73
          clear c73
          have H' := Aside0.mk H
          clear H
          have hcz74_0 := cz_ BK191 0 (.int .i64 a0_0)
          have hcz74_1 := cz_ BK191 1 (.slice A0_1 l0_1.length c0_1)
          have hfz74_0 := blk_frozen BK191.out 0
          have hfz74_1 := blk_frozen BK191.out 1
          try go_wp2
          replace HO_9 := Aside0.mk (Kd.R_drew HO_9.out)
          replace HO_10 := Aside0.mk (Kd.R_drew HO_10.out)
          replace BK191 := Aside0.mk (blk_drew BK191.out)
          replace HB := Aside0.mk (below_drew1 HB.out)
          obtain ⟨Ao76, co76, eo76⟩ := Kd.R_slice HO_10.out
          (first | subst eo76 | (injection eo76 with f1_ f2_ f3_; have f4_ := f1_.symm; have f5_ := f3_.symm; clear f1_ f2_ f3_; subst f4_; subst f5_))
          have p206 : 0 ≤ (x13_4 : Int) := of_decide_eq_true (by first | (with_reducible assumption) | assumption)
          have q206 : x13_4 < (x10_3.length : Int) := of_decide_eq_true (by first | (with_reducible assumption) | assumption)
          obtain ⟨ad206, e206, hx206_0⟩ := Kd.at_bool (Kd.R_reads' HO_10.out).2.2 x13_4 p206 q206
          (try rw [← Nbq53.out] at hx206_0)
          cases e206
          replace p206 := eq_true p206
          replace q206 := eq_true q206
          have p207 : 0 ≤ (x13_4 : Int) := of_decide_eq_true (by first | (with_reducible assumption) | assumption)
          have q207 : x13_4 < (x9_3.length : Int) := of_decide_eq_true (by first | (with_reducible assumption) | assumption)
          obtain ⟨ad207, e207, hx207_0⟩ := Kd.at_int (Kd.R_reads' HO_9.out).2.2 x13_4 p207 q207
          obtain rfl : (⟨go38, 0, none⟩ : Addr) = ad207 := (by injection e207)
          (first | simp only [add_plain] at hx207_0 | simp only [add_at] at hx207_0 | simp only [Addr.add, Nat.zero_add] at hx207_0 | skip)
          replace p207 := eq_true p207
          replace q207 := eq_true q207
          refine start_ (n := 36) (S := fun w' => w'.cell? ⟨gb191, 0, none⟩ = some (.int .i64 a0_0) ∧ w'.cell? ⟨gb191, 1, none⟩ = some (.slice A0_1 l0_1.length c0_1) ∧ w'.cell? (ad206.add (x13_4).toNat) = some (.bool false) ∧ w'.cell? ⟨go38, (x13_4).toNat, none⟩ = some (.int .i64 (rd x9_3 x13_4))) (ds := []) ba6_0 (by kernel_rfl) rfl rfl ⟨(blk_cell BK191.out 0).trans rfl, (blk_cell BK191.out 1).trans rfl, hx206_0, hx207_0⟩ (fun hHeld => ?_); refine with_tabW spec_Shares.tab15 spec_Shares.bits15 (fun HT_ HW_ => ?_)
          generalize wr.drew = w75 at HO_9 HO_10 BK191 HB hx206_0 hx207_0 hHeld ⊢
          refine pz_ 0 70 ba6_1 HT_ ?_
          refine pz_ 1 71 ba6_2 HT_ ?_
          refine pz_ 2 72 ba6_3 HT_ ?_
          refine pt_ 3 73 ba6_4 HT_ HW_ hHeld ?_
          refine pz_ 4 74 ba6_5 HT_ ?_
          refine pz_ 5 75 ba6_6 HT_ ?_
          refine pz_ 6 76 ba6_7 HT_ ?_
          refine pz_ 7 77 ba6_8 HT_ ?_
          refine pz_ 8 78 ba6_9 HT_ ?_
          refine pz_ 9 79 ba6_10 HT_ ?_
          refine pz_ 10 80 ba6_11 HT_ ?_
          refine pz_ 11 81 ba6_12 HT_ ?_
          refine pz_ 12 82 ba6_13 HT_ ?_
          refine pz_ 13 83 ba6_14 HT_ ?_
          refine pt_ 14 84 ba6_15 HT_ HW_ hHeld ?_
          refine pz_ 15 85 ba6_16 HT_ ?_
          refine pz_ 16 86 ba6_17 HT_ ?_
          refine pz_ 17 87 ba6_18 HT_ ?_
          refine pz_ 18 88 ba6_19 HT_ ?_
          refine pz_ 19 89 ba6_20 HT_ ?_
          refine pz_ 20 90 ba6_21 HT_ ?_
          refine pz_ 22 92 ba6_37 HT_ ?_
          refine pz_ 24 94 ba6_38 HT_ ?_
          refine pz_ 28 98 ba6_39 HT_ ?_
          refine pz_ 30 100 ba6_40 HT_ ?_
          refine pt_ 21 91 ba6_41 HT_ HW_ hHeld ?_
          refine pt_ 27 97 ba6_42 HT_ HW_ hHeld ?_
          refine one_ (i := 23) (N := some 93) ba6_43 rfl rfl (one_of HT_.out (by kernel_rfl)) (by decide) (fun K hK => ?_)
          refine gz_ Try.func33 #[.agg #[.int .i64 a0_0, .slice A0_1 l0_1.length c0_1], .int .i64 x13_4] ?_
          with_reducible refine (spec_Distances.calls k4 a0_0 _ _ l0_1 x13_4 t208 _ ?side1 ?side2 A68.out).mono ?_
          (case side1 => exact cb_ HR0_1 HB)
          (case side2 => exact HC0_1.out)
          rintro e w77 ⟨v209, rfl, ho0, hb⟩
          have HS2_ := (hb.cell (World.block_lt_of_cell? _ _ (hHeld.2.2.1))).trans (hHeld.2.2.1)
          have HS3_ := (hb.cell (World.block_lt_of_cell? _ _ (hHeld.2.2.2))).trans (hHeld.2.2.2)
          refine ⟨_, rfl, ?_⟩
          have HO210 := Aside0.mk (Kd.R_lower (Kd.R_new' ho0 (Kd.R_lt (hd_ HO_9))) (bz_ HB))
          replace HO_10 := rb_ HO_10 hb
          replace HO_9 := Aside0.mk (Kd.R_elder' (hd_ HO_9) (Kd.R_base ho0) hb)
          replace BK191 := Aside0.mk (bb_ BK191 hb)
          replace HB := Aside0.mk (bt_ HB hb)
          (try clear hb)
          (try clear hb2)
          (try clear hk)
          (try clear hi)
          (try clear ho0)
          obtain ⟨Ao78, co78, eo78⟩ := Kd.R_slice HO210.out
          (first | subst eo78 | (injection eo78 with f1_ f2_ f3_; have f4_ := f1_.symm; have f5_ := f3_.symm; clear f1_ f2_ f3_; subst f4_; subst f5_))
          have p211 : 0 ≤ (a2 : Int) := of_decide_eq_true (by first | (with_reducible assumption) | assumption)
          have q211 : a2 < (t208.length : Int) := of_decide_eq_true (by first | (with_reducible assumption) | assumption)
          obtain ⟨ad211, e211, hx211_0⟩ := Kd.at_int (Kd.R_reads' HO210.out).2.2 a2 p211 q211
          cases e211
          replace p211 := eq_true p211
          replace q211 := eq_true q211
          refine hK.out _ _ ⟨(blk_cell BK191.out 0).trans rfl, (blk_cell BK191.out 1).trans rfl, HS2_, HS3_⟩ (fun hHeld => ?_)
          refine str_ (S' := fun w' => w'.cell? ⟨gb191, 0, none⟩ = some (.int .i64 a0_0) ∧ w'.cell? ⟨gb191, 1, none⟩ = some (.slice A0_1 l0_1.length c0_1) ∧ w'.cell? (ad206.add (x13_4).toNat) = some (.bool false) ∧ w'.cell? ⟨go38, (x13_4).toNat, none⟩ = some (.int .i64 (rd x9_3 x13_4)) ∧ w'.cell? (ad211.add (a2).toNat) = some (.int .i64 (rd t208 a2))) (fun _ h_ => ⟨h_.1, h_.2.1, h_.2.2.1, h_.2.2.2.1⟩) ⟨hHeld.1, hHeld.2.1, hHeld.2.2.1, hHeld.2.2.2, hx211_0⟩ ?_
          replace hHeld := (show (fun w' : World => w'.cell? ⟨gb191, 0, none⟩ = some (.int .i64 a0_0) ∧ w'.cell? ⟨gb191, 1, none⟩ = some (.slice A0_1 l0_1.length c0_1) ∧ w'.cell? (ad206.add (x13_4).toNat) = some (.bool false) ∧ w'.cell? ⟨go38, (x13_4).toNat, none⟩ = some (.int .i64 (rd x9_3 x13_4)) ∧ w'.cell? (ad211.add (a2).toNat) = some (.int .i64 (rd t208 a2))) _ from ⟨hHeld.1, hHeld.2.1, hHeld.2.2.1, hHeld.2.2.2, hx211_0⟩)
          clear hK K
          refine nz_ 93 ?_
          refine pz_ 25 95 ba6_44 HT_ ?_
          refine pt_ 26 96 ba6_45 HT_ HW_ hHeld ?_
          refine one_ (i := 29) (N := some 99) ba6_31 rfl rfl (one_of HT_.out (by kernel_rfl)) (by decide) (fun K hK => ?_)
          refine gz_ Try.func33 #[.agg #[.int .i64 a0_0, .slice A0_1 l0_1.length c0_1], .int .i64 x12_4] ?_
          with_reducible refine (spec_Distances.calls k4 a0_0 _ _ l0_1 x12_4 t212 _ ?side1 ?side2 A71.out).mono ?_
          (case side1 => exact cb_ HR0_1 HB)
          (case side2 => exact HC0_1.out)
          rintro e w79 ⟨v213, rfl, ho0, hb⟩
          replace hx211_0 := (hb.cell (World.block_lt_of_cell? _ _ hx211_0)).trans hx211_0
          have HS2_ := (hb.cell (World.block_lt_of_cell? _ _ (hHeld.2.2.1))).trans (hHeld.2.2.1)
          have HS3_ := (hb.cell (World.block_lt_of_cell? _ _ (hHeld.2.2.2.1))).trans (hHeld.2.2.2.1)
          refine ⟨_, rfl, ?_⟩
          have HO214 := Aside0.mk (Kd.R_lower (Kd.R_new' (Kd.R_new' ho0 (Kd.R_lt (hd_ HO_9))) (Kd.R_lt (hd_ HO210))) (bz_ HB))
          replace HO_10 := rb_ HO_10 hb
          replace HO_9 := Aside0.mk (Kd.R_elder' (hd_ HO_9) (Kd.R_base ho0) hb)
          replace HO210 := Aside0.mk (Kd.R_elder' (hd_ HO210) (Kd.R_base ho0) hb)
          replace BK191 := Aside0.mk (bb_ BK191 hb)
          replace HB := Aside0.mk (bt_ HB hb)
          (try clear hb)
          (try clear hb2)
          (try clear hk)
          (try clear hi)
          (try clear ho0)
          obtain ⟨Ao80, co80, eo80⟩ := Kd.R_slice HO214.out
          (first | subst eo80 | (injection eo80 with f1_ f2_ f3_; have f4_ := f1_.symm; have f5_ := f3_.symm; clear f1_ f2_ f3_; subst f4_; subst f5_))
          have p215 : 0 ≤ (a2 : Int) := of_decide_eq_true (by first | (with_reducible assumption) | assumption)
          have q215 : a2 < (t212.length : Int) := of_decide_eq_true (by first | (with_reducible assumption) | assumption)
          obtain ⟨ad215, e215, hx215_0⟩ := Kd.at_int (Kd.R_reads' HO214.out).2.2 a2 p215 q215
          cases e215
          replace p215 := eq_true p215
          replace q215 := eq_true q215
          refine hK.out _ _ ⟨(blk_cell BK191.out 0).trans rfl, (blk_cell BK191.out 1).trans rfl, HS2_, HS3_, hx211_0⟩ (fun hHeld => ?_)
          clear hK K
          refine nz_ 99 ?_
          refine pz_ 31 101 ba6_32 HT_ ?_
          refine po_ 32 102 ba6_33 HT_ (fun w' => w'.cell? ⟨gb191, 0, none⟩ = some (.int .i64 a0_0) ∧ w'.cell? ⟨gb191, 1, none⟩ = some (.slice A0_1 l0_1.length c0_1) ∧ w'.cell? (ad206.add (x13_4).toNat) = some (.bool false) ∧ w'.cell? ⟨go38, (x13_4).toNat, none⟩ = some (.int .i64 (rd x9_3 x13_4)) ∧ w'.cell? (ad211.add (a2).toNat) = some (.int .i64 (rd t208 a2)) ∧ w'.cell? (ad215.add (a2).toNat) = some (.int .i64 (rd t212 a2))) ⟨hHeld.1, hHeld.2.1, hHeld.2.2.1, hHeld.2.2.2.1, hHeld.2.2.2.2, hx215_0⟩ ?_
          refine pz_ 33 103 ba6_34 HT_ ?_
          refine pz_ 34 104 ba6_35 HT_ ?_
          refine pz_ 35 105 ba6_36 HT_ ?_
          refine done_ (done_of HT_.out (by kernel_rfl)) ?_
          try go_wp2
          go_roundg k4
          case measure => have := HJ4.out; have := HJ26.out; have := HK3.out; have := HK4.out; omega
          case rel => exact ⟨(x13_4), (wrap64 (x13_4 + 1)), (by first | rfl | (simp; done) | (simp [*]; done)), (by first | rfl | (simp; done) | (simp [*]; done)), H', ⟨by have := HJ4.out; have := HJ26.out; have := HK3.out; have := HK4.out; omega⟩, ⟨by (try simp only [hl9_3]); (with_reducible repeat (first | apply Kd.R_alloc | apply Kd.R_drewN | apply Kd.R_drew)); exact Kd.R_mono HO_9.out (fun _ hk => trivial)⟩, ⟨by (try simp only [hl9_3]); (with_reducible repeat (first | apply Kd.R_alloc | apply Kd.R_drewN | apply Kd.R_drew)); exact HO_10.out⟩, ⟨by (try simp only [hl9_3]); (with_reducible repeat (first | refine blk_drewN ?_ _ | refine blk_drew ?_ | refine blk_alloc ?_ _)); exact BK191.out⟩, ⟨by repeat (first | (with_reducible first | exact HB.out | apply below_alloc | apply pw_below_drewN | apply below_drew1 | refine below_set ?_ GE191.out) | exact HB.out)⟩⟩
         rw [if_neg c73] at H
         have c73b0 : decide ((rd t212 a2) < (rd t208 a2)) = false := decide_eq_false c73
         clear c73
         have H' := Aside0.mk H
         clear H
         have hcz81_0 := cz_ BK191 0 (.int .i64 a0_0)
         have hcz81_1 := cz_ BK191 1 (.slice A0_1 l0_1.length c0_1)
         have hfz81_0 := blk_frozen BK191.out 0
         have hfz81_1 := blk_frozen BK191.out 1
         try go_wp2
         replace HO_9 := Aside0.mk (Kd.R_drew HO_9.out)
         replace HO_10 := Aside0.mk (Kd.R_drew HO_10.out)
         replace BK191 := Aside0.mk (blk_drew BK191.out)
         replace HB := Aside0.mk (below_drew1 HB.out)
         obtain ⟨Ao83, co83, eo83⟩ := Kd.R_slice HO_10.out
         (first | subst eo83 | (injection eo83 with f1_ f2_ f3_; have f4_ := f1_.symm; have f5_ := f3_.symm; clear f1_ f2_ f3_; subst f4_; subst f5_))
         have p206 : 0 ≤ (x13_4 : Int) := of_decide_eq_true (by first | (with_reducible assumption) | assumption)
         have q206 : x13_4 < (x10_3.length : Int) := of_decide_eq_true (by first | (with_reducible assumption) | assumption)
         obtain ⟨ad206, e206, hx206_0⟩ := Kd.at_bool (Kd.R_reads' HO_10.out).2.2 x13_4 p206 q206
         (try rw [← Nbq53.out] at hx206_0)
         cases e206
         replace p206 := eq_true p206
         replace q206 := eq_true q206
         have p207 : 0 ≤ (x13_4 : Int) := of_decide_eq_true (by first | (with_reducible assumption) | assumption)
         have q207 : x13_4 < (x9_3.length : Int) := of_decide_eq_true (by first | (with_reducible assumption) | assumption)
         obtain ⟨ad207, e207, hx207_0⟩ := Kd.at_int (Kd.R_reads' HO_9.out).2.2 x13_4 p207 q207
         obtain rfl : (⟨go38, 0, none⟩ : Addr) = ad207 := (by injection e207)
         (first | simp only [add_plain] at hx207_0 | simp only [add_at] at hx207_0 | simp only [Addr.add, Nat.zero_add] at hx207_0 | skip)
         replace p207 := eq_true p207
         replace q207 := eq_true q207
         refine start_ (n := 36) (S := fun w' => w'.cell? ⟨gb191, 0, none⟩ = some (.int .i64 a0_0) ∧ w'.cell? ⟨gb191, 1, none⟩ = some (.slice A0_1 l0_1.length c0_1) ∧ w'.cell? (ad206.add (x13_4).toNat) = some (.bool false) ∧ w'.cell? ⟨go38, (x13_4).toNat, none⟩ = some (.int .i64 (rd x9_3 x13_4))) (ds := []) ba6_0 (by kernel_rfl) rfl rfl ⟨(blk_cell BK191.out 0).trans rfl, (blk_cell BK191.out 1).trans rfl, hx206_0, hx207_0⟩ (fun hHeld => ?_); refine with_tabW spec_Shares.tab15 spec_Shares.bits15 (fun HT_ HW_ => ?_)
         generalize wr.drew = w82 at HO_9 HO_10 BK191 HB hx206_0 hx207_0 hHeld ⊢
         refine pz_ 0 70 ba6_1 HT_ ?_
         refine pz_ 1 71 ba6_2 HT_ ?_
         refine pz_ 2 72 ba6_3 HT_ ?_
         refine pt_ 3 73 ba6_4 HT_ HW_ hHeld ?_
         refine pz_ 4 74 ba6_5 HT_ ?_
         refine pz_ 5 75 ba6_6 HT_ ?_
         refine pz_ 6 76 ba6_7 HT_ ?_
         refine pz_ 7 77 ba6_8 HT_ ?_
         refine pz_ 8 78 ba6_9 HT_ ?_
         refine pz_ 9 79 ba6_10 HT_ ?_
         refine pz_ 10 80 ba6_11 HT_ ?_
         refine pz_ 11 81 ba6_12 HT_ ?_
         refine pz_ 12 82 ba6_13 HT_ ?_
         refine pz_ 13 83 ba6_14 HT_ ?_
         refine pt_ 14 84 ba6_15 HT_ HW_ hHeld ?_
         refine pz_ 15 85 ba6_16 HT_ ?_
         refine pz_ 16 86 ba6_17 HT_ ?_
         refine pz_ 17 87 ba6_18 HT_ ?_
         refine pz_ 18 88 ba6_19 HT_ ?_
         refine pz_ 19 89 ba6_20 HT_ ?_
         refine pz_ 20 90 ba6_21 HT_ ?_
         refine pz_ 22 92 ba6_37 HT_ ?_
         refine pz_ 24 94 ba6_38 HT_ ?_
         refine pz_ 28 98 ba6_39 HT_ ?_
         refine pz_ 30 100 ba6_40 HT_ ?_
         refine pt_ 21 91 ba6_41 HT_ HW_ hHeld ?_
         refine pt_ 27 97 ba6_42 HT_ HW_ hHeld ?_
         refine one_ (i := 23) (N := some 93) ba6_43 rfl rfl (one_of HT_.out (by kernel_rfl)) (by decide) (fun K hK => ?_)
         refine gz_ Try.func33 #[.agg #[.int .i64 a0_0, .slice A0_1 l0_1.length c0_1], .int .i64 x13_4] ?_
         with_reducible refine (spec_Distances.calls k4 a0_0 _ _ l0_1 x13_4 t208 _ ?side1 ?side2 A68.out).mono ?_
         (case side1 => exact cb_ HR0_1 HB)
         (case side2 => exact HC0_1.out)
         rintro e w84 ⟨v209, rfl, ho0, hb⟩
         have HS2_ := (hb.cell (World.block_lt_of_cell? _ _ (hHeld.2.2.1))).trans (hHeld.2.2.1)
         have HS3_ := (hb.cell (World.block_lt_of_cell? _ _ (hHeld.2.2.2))).trans (hHeld.2.2.2)
         refine ⟨_, rfl, ?_⟩
         have HO210 := Aside0.mk (Kd.R_lower (Kd.R_new' ho0 (Kd.R_lt (hd_ HO_9))) (bz_ HB))
         replace HO_10 := rb_ HO_10 hb
         replace HO_9 := Aside0.mk (Kd.R_elder' (hd_ HO_9) (Kd.R_base ho0) hb)
         replace BK191 := Aside0.mk (bb_ BK191 hb)
         replace HB := Aside0.mk (bt_ HB hb)
         (try clear hb)
         (try clear hb2)
         (try clear hk)
         (try clear hi)
         (try clear ho0)
         obtain ⟨Ao85, co85, eo85⟩ := Kd.R_slice HO210.out
         (first | subst eo85 | (injection eo85 with f1_ f2_ f3_; have f4_ := f1_.symm; have f5_ := f3_.symm; clear f1_ f2_ f3_; subst f4_; subst f5_))
         have p211 : 0 ≤ (a2 : Int) := of_decide_eq_true (by first | (with_reducible assumption) | assumption)
         have q211 : a2 < (t208.length : Int) := of_decide_eq_true (by first | (with_reducible assumption) | assumption)
         obtain ⟨ad211, e211, hx211_0⟩ := Kd.at_int (Kd.R_reads' HO210.out).2.2 a2 p211 q211
         cases e211
         replace p211 := eq_true p211
         replace q211 := eq_true q211
         refine hK.out _ _ ⟨(blk_cell BK191.out 0).trans rfl, (blk_cell BK191.out 1).trans rfl, HS2_, HS3_⟩ (fun hHeld => ?_)
         refine str_ (S' := fun w' => w'.cell? ⟨gb191, 0, none⟩ = some (.int .i64 a0_0) ∧ w'.cell? ⟨gb191, 1, none⟩ = some (.slice A0_1 l0_1.length c0_1) ∧ w'.cell? (ad206.add (x13_4).toNat) = some (.bool false) ∧ w'.cell? ⟨go38, (x13_4).toNat, none⟩ = some (.int .i64 (rd x9_3 x13_4)) ∧ w'.cell? (ad211.add (a2).toNat) = some (.int .i64 (rd t208 a2))) (fun _ h_ => ⟨h_.1, h_.2.1, h_.2.2.1, h_.2.2.2.1⟩) ⟨hHeld.1, hHeld.2.1, hHeld.2.2.1, hHeld.2.2.2, hx211_0⟩ ?_
         replace hHeld := (show (fun w' : World => w'.cell? ⟨gb191, 0, none⟩ = some (.int .i64 a0_0) ∧ w'.cell? ⟨gb191, 1, none⟩ = some (.slice A0_1 l0_1.length c0_1) ∧ w'.cell? (ad206.add (x13_4).toNat) = some (.bool false) ∧ w'.cell? ⟨go38, (x13_4).toNat, none⟩ = some (.int .i64 (rd x9_3 x13_4)) ∧ w'.cell? (ad211.add (a2).toNat) = some (.int .i64 (rd t208 a2))) _ from ⟨hHeld.1, hHeld.2.1, hHeld.2.2.1, hHeld.2.2.2, hx211_0⟩)
         clear hK K
         refine nz_ 93 ?_
         refine pz_ 25 95 ba6_44 HT_ ?_
         refine pt_ 26 96 ba6_45 HT_ HW_ hHeld ?_
         refine one_ (i := 29) (N := some 99) ba6_31 rfl rfl (one_of HT_.out (by kernel_rfl)) (by decide) (fun K hK => ?_)
         refine gz_ Try.func33 #[.agg #[.int .i64 a0_0, .slice A0_1 l0_1.length c0_1], .int .i64 x12_4] ?_
         with_reducible refine (spec_Distances.calls k4 a0_0 _ _ l0_1 x12_4 t212 _ ?side1 ?side2 A71.out).mono ?_
         (case side1 => exact cb_ HR0_1 HB)
         (case side2 => exact HC0_1.out)
         rintro e w86 ⟨v213, rfl, ho0, hb⟩
         replace hx211_0 := (hb.cell (World.block_lt_of_cell? _ _ hx211_0)).trans hx211_0
         have HS2_ := (hb.cell (World.block_lt_of_cell? _ _ (hHeld.2.2.1))).trans (hHeld.2.2.1)
         have HS3_ := (hb.cell (World.block_lt_of_cell? _ _ (hHeld.2.2.2.1))).trans (hHeld.2.2.2.1)
         refine ⟨_, rfl, ?_⟩
         have HO214 := Aside0.mk (Kd.R_lower (Kd.R_new' (Kd.R_new' ho0 (Kd.R_lt (hd_ HO_9))) (Kd.R_lt (hd_ HO210))) (bz_ HB))
         replace HO_10 := rb_ HO_10 hb
         replace HO_9 := Aside0.mk (Kd.R_elder' (hd_ HO_9) (Kd.R_base ho0) hb)
         replace HO210 := Aside0.mk (Kd.R_elder' (hd_ HO210) (Kd.R_base ho0) hb)
         replace BK191 := Aside0.mk (bb_ BK191 hb)
         replace HB := Aside0.mk (bt_ HB hb)
         (try clear hb)
         (try clear hb2)
         (try clear hk)
         (try clear hi)
         (try clear ho0)
         obtain ⟨Ao87, co87, eo87⟩ := Kd.R_slice HO214.out
         (first | subst eo87 | (injection eo87 with f1_ f2_ f3_; have f4_ := f1_.symm; have f5_ := f3_.symm; clear f1_ f2_ f3_; subst f4_; subst f5_))
         have p215 : 0 ≤ (a2 : Int) := of_decide_eq_true (by first | (with_reducible assumption) | assumption)
         have q215 : a2 < (t212.length : Int) := of_decide_eq_true (by first | (with_reducible assumption) | assumption)
         obtain ⟨ad215, e215, hx215_0⟩ := Kd.at_int (Kd.R_reads' HO214.out).2.2 a2 p215 q215
         cases e215
         replace p215 := eq_true p215
         replace q215 := eq_true q215
         refine hK.out _ _ ⟨(blk_cell BK191.out 0).trans rfl, (blk_cell BK191.out 1).trans rfl, HS2_, HS3_, hx211_0⟩ (fun hHeld => ?_)
         clear hK K
         refine nz_ 99 ?_
         refine pz_ 31 101 ba6_32 HT_ ?_
         refine po_ 32 102 ba6_33 HT_ (fun w' => w'.cell? ⟨gb191, 0, none⟩ = some (.int .i64 a0_0) ∧ w'.cell? ⟨gb191, 1, none⟩ = some (.slice A0_1 l0_1.length c0_1) ∧ w'.cell? (ad206.add (x13_4).toNat) = some (.bool false) ∧ w'.cell? ⟨go38, (x13_4).toNat, none⟩ = some (.int .i64 (rd x9_3 x13_4)) ∧ w'.cell? (ad211.add (a2).toNat) = some (.int .i64 (rd t208 a2)) ∧ w'.cell? (ad215.add (a2).toNat) = some (.int .i64 (rd t212 a2))) ⟨hHeld.1, hHeld.2.1, hHeld.2.2.1, hHeld.2.2.2.1, hHeld.2.2.2.2, hx215_0⟩ ?_
         refine pz_ 33 103 ba6_34 HT_ ?_
         refine pz_ 34 104 ba6_35 HT_ ?_
         refine pz_ 35 105 ba6_36 HT_ ?_
         refine done_ (done_of HT_.out (by kernel_rfl)) ?_
         try go_wp2
         go_roundg k4
         case measure => have := HJ4.out; have := HJ26.out; have := HK3.out; have := HK4.out; omega
         case rel => exact ⟨(x12_4), (wrap64 (x13_4 + 1)), (by first | rfl | (simp; done) | (simp [*]; done)), (by first | rfl | (simp; done) | (simp [*]; done)), H', ⟨by have := HJ4.out; have := HJ26.out; have := HK3.out; have := HK4.out; omega⟩, ⟨by (try simp only [hl9_3]); (with_reducible repeat (first | apply Kd.R_alloc | apply Kd.R_drewN | apply Kd.R_drew)); exact Kd.R_mono HO_9.out (fun _ hk => trivial)⟩, ⟨by (try simp only [hl9_3]); (with_reducible repeat (first | apply Kd.R_alloc | apply Kd.R_drewN | apply Kd.R_drew)); exact HO_10.out⟩, ⟨by (try simp only [hl9_3]); (with_reducible repeat (first | refine blk_drewN ?_ _ | refine blk_drew ?_ | refine blk_alloc ?_ _)); exact BK191.out⟩, ⟨by repeat (first | (with_reducible first | exact HB.out | apply below_alloc | apply pw_below_drewN | apply below_drew1 | refine below_set ?_ GE191.out) | exact HB.out)⟩⟩

end Go.Proofs.Ythmahcohcphljaa.QFnExactShares
