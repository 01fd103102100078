/- Contracts of functions that the law reaches: what each call returns and what it leaves in memory. Made by this session over the print of the kit. -/
import Derived.Test.YtiikcfaodkiakaaQFnExactAgeLsax0
import Derived.Test.YtiikcfaodkiakaaQFnExactAgeLsax3
import Derived.Test.YtiikcfaodkiakaaQFnExactAgeLsax4
namespace Go.Proofs.Ytiikcfaodkiakaa.QFnExactAgeLsa
open Go.RowKit Go.Proofs.YtiikcfaodkiakaaU.PrintWords Go.Proofs.YtiikcfaodkiakaaU.PrintLast Go.Proofs.YtiikcfaodkiakaaU.PrintMore
attribute [local go_sem] max2_int min2_int max_two min_two max_three min_three max_four min_four   -- for this text's walks alone
set_option linter.unusedVariables false
set_option linter.unusedSimpArgs false
def ba5_0 : Array Bool := #[false, false, false, false, false, false, false, false, false, false, false, false, false, false, false, false, false, false, false, false, false, false, false, false, false, false, false, false, false, false, false, false, false]
def ba5_1 : Array Bool := #[true, false, false, false, false, false, false, false, false, false, false, false, false, false, false, false, false, false, false, false, false, false, false, false, false, false, false, false, false, false, false, false, false]
def ba5_2 : Array Bool := #[true, true, false, false, false, false, false, false, false, false, false, false, false, false, false, false, false, false, false, false, false, false, false, false, false, false, false, false, false, false, false, false, false]
def ba5_3 : Array Bool := #[true, true, true, false, false, false, false, false, false, false, false, false, false, false, false, false, false, false, false, false, false, false, false, false, false, false, false, false, false, false, false, false, false]
def ba5_4 : Array Bool := #[true, true, true, true, false, false, false, false, false, false, false, false, false, false, false, false, false, false, false, false, false, false, false, false, false, false, false, false, false, false, false, false, false]
def ba5_5 : Array Bool := #[true, true, true, true, true, false, false, false, false, false, false, false, false, false, false, false, false, false, false, false, false, false, false, false, false, false, false, false, false, false, false, false, false]
def ba5_6 : Array Bool := #[true, true, true, true, true, true, false, false, false, false, false, false, false, false, false, false, false, false, false, false, false, false, false, false, false, false, false, false, false, false, false, false, false]
def ba5_7 : Array Bool := #[true, true, true, true, true, true, false, true, false, false, false, false, false, false, false, false, false, false, false, false, false, false, false, false, false, false, false, false, false, false, false, false, false]
def ba5_8 : Array Bool := #[true, true, true, true, true, true, true, true, false, false, false, false, false, false, false, false, false, false, false, false, false, false, false, false, false, false, false, false, false, false, false, false, false]
def ba5_9 : Array Bool := #[true, true, true, true, true, true, true, true, true, false, false, false, false, false, false, false, false, false, false, false, false, false, false, false, false, false, false, false, false, false, false, false, false]
def ba5_10 : Array Bool := #[true, true, true, true, true, true, true, true, true, true, false, false, false, false, false, false, false, false, false, false, false, false, false, false, false, false, false, false, false, false, false, false, false]
def ba5_11 : Array Bool := #[true, true, true, true, true, true, true, true, true, true, true, false, false, false, false, false, false, false, false, false, false, false, false, false, false, false, false, false, false, false, false, false, false]
def ba5_12 : Array Bool := #[true, true, true, true, true, true, true, true, true, true, true, true, false, false, false, false, false, false, false, false, false, false, false, false, false, false, false, false, false, false, false, false, false]
def ba5_13 : Array Bool := #[true, true, true, true, true, true, true, true, true, true, true, true, true, false, false, false, false, false, false, false, false, false, false, false, false, false, false, false, false, false, false, false, false]
def ba5_14 : Array Bool := #[true, true, true, true, true, true, true, true, true, true, true, true, true, true, false, false, false, false, false, false, false, false, false, false, false, false, false, false, false, false, false, false, false]
def ba5_15 : Array Bool := #[true, true, true, true, true, true, true, true, true, true, true, true, true, true, true, false, false, false, false, false, false, false, false, false, false, false, false, false, false, false, false, false, false]
def ba5_16 : Array Bool := #[true, true, true, true, true, true, true, true, true, true, true, true, true, true, true, true, false, false, false, false, false, false, false, false, false, false, false, false, false, false, false, false, false]
def ba5_17 : Array Bool := #[true, true, true, true, true, true, true, true, true, true, true, true, true, true, true, true, true, false, false, false, false, false, false, false, false, false, false, false, false, false, false, false, false]
def ba5_18 : Array Bool := #[true, true, true, true, true, true, true, true, true, true, true, true, true, true, true, true, true, true, false, false, false, false, false, false, false, false, false, false, false, false, false, false, false]
def ba5_19 : Array Bool := #[true, true, true, true, true, true, true, true, true, true, true, true, true, true, true, true, true, true, true, false, false, false, false, false, false, false, false, false, false, false, false, false, false]
def ba5_20 : Array Bool := #[true, true, true, true, true, true, true, true, true, true, true, true, true, true, true, true, true, true, true, true, false, false, false, false, false, false, false, false, false, false, false, false, false]
def ba5_21 : Array Bool := #[true, true, true, true, true, true, true, true, true, true, true, true, true, true, true, true, true, true, true, true, true, false, false, false, false, false, false, false, false, false, false, false, false]
def ba5_22 : Array Bool := #[true, true, true, true, true, true, true, true, true, true, true, true, true, true, true, true, true, true, true, true, true, true, false, false, false, false, false, false, false, false, false, false, false]
def ba5_23 : Array Bool := #[true, true, true, true, true, true, true, true, true, true, true, true, true, true, true, true, true, true, true, true, true, true, true, false, false, false, false, false, false, false, false, false, false]
def ba5_24 : Array Bool := #[true, true, true, true, true, true, true, true, true, true, true, true, true, true, true, true, true, true, true, true, true, true, true, true, false, false, false, false, false, false, false, false, false]
def ba5_25 : Array Bool := #[true, true, true, true, true, true, true, true, true, true, true, true, true, true, true, true, true, true, true, true, true, true, true, true, true, false, false, false, false, false, false, false, false]
def ba5_26 : Array Bool := #[true, true, true, true, true, true, true, true, true, true, true, true, true, true, true, true, true, true, true, true, true, true, true, true, true, true, false, false, false, false, false, false, false]
def ba5_27 : Array Bool := #[true, true, true, true, true, true, true, true, true, true, true, true, true, true, true, true, true, true, true, true, true, true, true, true, true, true, true, false, false, false, false, false, false]
def ba5_28 : Array Bool := #[true, true, true, true, true, true, true, true, true, true, true, true, true, true, true, true, true, true, true, true, true, true, true, true, true, true, true, true, false, false, false, false, false]
def ba5_29 : Array Bool := #[true, true, true, true, true, true, true, true, true, true, true, true, true, true, true, true, true, true, true, true, true, true, true, true, true, true, true, true, true, false, false, false, false]
def ba5_30 : Array Bool := #[true, true, true, true, true, true, true, true, true, true, true, true, true, true, true, true, true, true, true, true, true, true, true, true, true, true, true, true, true, true, false, false, false]
def ba5_31 : Array Bool := #[true, true, true, true, true, true, true, true, true, true, true, true, true, true, true, true, true, true, true, true, true, true, true, true, true, true, true, true, true, true, true, false, false]
def ba5_32 : Array Bool := #[true, true, true, true, true, true, true, true, true, true, true, true, true, true, true, true, true, true, true, true, true, true, true, true, true, true, true, true, true, true, true, true, false]
def ba5_33 : Array Bool := #[true, true, true, true, true, true, true, true, true, true, true, true, true, true, true, true, true, true, true, true, true, true, true, true, true, true, true, true, true, true, true, true, true]
def ba5_34 : Array Bool := #[true, true, true, true, true, true, true, true, true, true, true, true, true, true, true, true, true, true, true, true, true, true, false, true, false, false, false, false, false, false, false, false, false]
def ba5_35 : Array Bool := #[true, true, true, true, true, true, true, true, true, true, true, true, true, true, true, true, true, true, true, true, true, true, false, true, true, false, false, false, false, false, false, false, false]
def ba5_36 : Array Bool := #[true, true, true, true, true, true, true, true, true, true, true, true, true, true, true, true, true, true, true, true, true, true, false, true, true, false, false, false, true, false, false, false, false]
def ba5_37 : Array Bool := #[true, true, true, true, true, true, true, true, true, true, true, true, true, true, true, true, true, true, true, true, true, true, true, true, true, false, false, false, true, false, false, false, false]
def ba5_38 : Array Bool := #[true, true, true, true, true, true, true, true, true, true, true, true, true, true, true, true, true, true, true, true, true, true, true, true, true, true, false, false, true, false, false, false, false]
def ba5_39 : Array Bool := #[true, true, true, true, true, true, true, true, true, true, true, true, true, true, true, true, true, true, true, true, true, true, true, true, true, true, true, false, true, false, false, false, false]
def ba5_40 : Array Bool := #[true, true, true, true, true, true, true, false, false, false, false, false, false, false, false, false, false, false, false, false, false, false, false, false, false, false, false, false, false, false, false, false, false]
def ba5_41 : Array Bool := #[false, false, false, false, false, false, false, false, false, false, false, false, false, false, false, false, false, false, false, false, false, false, false, false, false, false, false]
def ba5_42 : Array Bool := #[true, false, false, false, false, false, false, false, false, false, false, false, false, false, false, false, false, false, false, false, false, false, false, false, false, false, false]
def ba5_43 : Array Bool := #[true, true, false, false, false, false, false, false, false, false, false, false, false, false, false, false, false, false, false, false, false, false, false, false, false, false, false]
def ba5_44 : Array Bool := #[true, true, true, false, false, false, false, false, false, false, false, false, false, false, false, false, false, false, false, false, false, false, false, false, false, false, false]
def ba5_45 : Array Bool := #[true, true, true, true, false, false, false, false, false, false, false, false, false, false, false, false, false, false, false, false, false, false, false, false, false, false, false]
def ba5_46 : Array Bool := #[true, true, true, true, true, false, false, false, false, false, false, false, false, false, false, false, false, false, false, false, false, false, false, false, false, false, false]
def ba5_47 : Array Bool := #[true, true, true, true, true, true, false, false, false, false, false, false, false, false, false, false, false, false, false, false, false, false, false, false, false, false, false]
def ba5_48 : Array Bool := #[true, true, true, true, true, true, true, false, false, false, false, false, false, false, false, false, false, false, false, false, false, false, false, false, false, false, false]
def ba5_49 : Array Bool := #[true, true, true, true, true, true, true, true, false, false, false, false, false, false, false, false, false, false, false, false, false, false, false, false, false, false, false]
def ba5_50 : Array Bool := #[true, true, true, true, true, true, true, true, true, false, false, false, false, false, false, false, false, false, false, false, false, false, false, false, false, false, false]
def ba5_51 : Array Bool := #[true, true, true, true, true, true, true, true, true, true, false, false, false, false, false, false, false, false, false, false, false, false, false, false, false, false, false]
def ba5_52 : Array Bool := #[true, true, true, true, true, true, true, true, true, true, true, false, false, false, false, false, false, false, false, false, false, false, false, false, false, false, false]
def ba5_53 : Array Bool := #[true, true, true, true, true, true, true, true, true, true, true, true, false, false, false, false, false, false, false, false, false, false, false, false, false, false, false]
def ba5_54 : Array Bool := #[true, true, true, true, true, true, true, true, true, true, true, true, true, false, false, false, false, false, false, false, false, false, false, false, false, false, false]
def ba5_55 : Array Bool := #[true, true, true, true, true, true, true, true, true, true, true, true, true, true, false, false, false, false, false, false, false, false, false, false, false, false, false]
def ba5_56 : Array Bool := #[true, true, true, true, true, true, true, true, true, true, true, true, true, true, true, false, false, false, false, false, false, false, false, false, false, false, false]
def ba5_57 : Array Bool := #[true, true, true, true, true, true, true, true, true, true, true, true, true, true, true, false, true, false, false, false, false, false, false, false, false, false, false]
def ba5_58 : Array Bool := #[true, true, true, true, true, true, true, true, true, true, true, true, true, true, true, false, true, true, false, false, false, false, false, false, false, false, false]
def ba5_59 : Array Bool := #[true, true, true, true, true, true, true, true, true, true, true, true, true, true, true, false, true, true, false, false, false, true, false, false, false, false, false]
def ba5_60 : Array Bool := #[true, true, true, true, true, true, true, true, true, true, true, true, true, true, true, true, true, true, false, false, false, true, false, false, false, false, false]
def ba5_61 : Array Bool := #[true, true, true, true, true, true, true, true, true, true, true, true, true, true, true, true, true, true, true, false, false, true, false, false, false, false, false]
def ba5_62 : Array Bool := #[true, true, true, true, true, true, true, true, true, true, true, true, true, true, true, true, true, true, true, true, false, true, false, false, false, false, false]
def ba5_63 : Array Bool := #[true, true, true, true, true, true, true, true, true, true, true, true, true, true, true, true, true, true, true, true, true, true, false, false, false, false, false]
def ba5_64 : Array Bool := #[true, true, true, true, true, true, true, true, true, true, true, true, true, true, true, true, true, true, true, true, true, true, true, false, false, false, false]
def ba5_65 : Array Bool := #[true, true, true, true, true, true, true, true, true, true, true, true, true, true, true, true, true, true, true, true, true, true, true, true, false, false, false]
def ba5_66 : Array Bool := #[true, true, true, true, true, true, true, true, true, true, true, true, true, true, true, true, true, true, true, true, true, true, true, true, true, false, false]
def ba5_67 : Array Bool := #[true, true, true, true, true, true, true, true, true, true, true, true, true, true, true, true, true, true, true, true, true, true, true, true, true, true, false]
def ba5_68 : Array Bool := #[true, true, true, true, true, true, true, true, true, true, true, true, true, true, true, true, true, true, true, true, true, true, true, true, true, true, true]
def ba5_69 : Array Bool := #[true, true, true, true, true, true, true, true, true, true, true, true, true, true, true, true, false, false, false, false, false, false, false, false, false, false, false]
def ba5_70 : Array Bool := #[true, true, true, true, true, true, true, true, true, true, true, true, true, true, true, true, true, false, false, false, false, false, false, false, false, false, false]
def ba5_71 : Array Bool := #[true, true, true, true, true, true, true, true, true, true, true, true, true, true, true, true, true, true, false, false, false, false, false, false, false, false, false]
def ba5_72 : Array Bool := #[true, true, true, true, true, true, true, true, true, true, true, true, true, true, true, true, true, true, true, false, false, false, false, false, false, false, false]
def ba5_73 : Array Bool := #[true, true, true, true, true, true, true, true, true, true, true, true, true, true, true, true, true, true, true, true, false, false, false, false, false, false, false]
def ba5_74 : Array Bool := #[true, true, true, true, true, true, true, true, true, true, true, true, true, true, true, true, true, true, true, true, true, false, false, false, false, false, false]

/-! ### spec_LsaOk: function 14 -/
mutual
def spec_LsaOk.j0 : Nat → Bool → Int → Int → Int → List (S70) → List (S74) → Option (Bool)
 | 0, _, _, _, _, _, _ => none
 | k + 1, x34, x182000, x182001, x182002, x182003, x182004 => if x34 = true then (some false) else (spec_LsaOk.l0 k 0 x182000 x182001 x182002 x182003 x182004)
def spec_LsaOk.l0 : Nat → Int → Int → Int → Int → List (S70) → List (S74) → Option (Bool)
 | 0, _, _, _, _, _, _ => none
 | k + 1, x3, x182000, x182001, x182002, x182003, x182004 => if x3 < (x182003.length : Int) then (if 0 ≤ x3 then ((spec_l01In.f ((rd_T70 x182003 x3).f0) 0 9).bind fun t187 => (if t187 = true then (if ((rd_T70 x182003 x3).f0) = x182000 then (some false) else ((spec_l01In.f ((rd_T70 x182003 x3).f1) 1 1000).bind fun t188 => (if t188 = true then (if x3 > 0 then (if 0 ≤ (wrap64 (x3 - 1)) then (if (wrap64 (x3 - 1)) < (x182003.length : Int) then (if ((rd_T70 x182003 (wrap64 (x3 - 1))).f0) ≥ ((rd_T70 x182003 x3).f0) then (some false) else (spec_LsaOk.l0 k (wrap64 (x3 + 1)) x182000 x182001 x182002 x182003 x182004)) else (none)) else (none)) else (spec_LsaOk.l0 k (wrap64 (x3 + 1)) x182000 x182001 x182002 x182003 x182004)) else (some false)))) else (some false))) else (none)) else (spec_LsaOk.l1 k 0 x182000 x182001 x182002 x182003 x182004)
def spec_LsaOk.l1 : Nat → Int → Int → Int → Int → List (S70) → List (S74) → Option (Bool)
 | 0, _, _, _, _, _, _ => none
 | k + 1, x5, x182000, x182001, x182002, x182003, x182004 => if x5 < (x182004.length : Int) then (if 0 ≤ x5 then ((spec_PrefixOk.f ((rd_T74 x182004 x5).f0.f0) ((rd_T74 x182004 x5).f0.f1)).bind fun t192 => (if t192 = true then ((spec_l01In.f ((rd_T74 x182004 x5).f1) 1 1000).bind fun t193 => (if t193 = true then (if x5 > 0 then (if 0 ≤ (wrap64 (x5 - 1)) then (if (wrap64 (x5 - 1)) < (x182004.length : Int) then ((spec_l02Ahead.f ((rd_T74 x182004 (wrap64 (x5 - 1))).f0.f0) ((rd_T74 x182004 (wrap64 (x5 - 1))).f0.f1) ((rd_T74 x182004 x5).f0.f0) ((rd_T74 x182004 x5).f0.f1)).bind fun t195 => (if t195 = true then (spec_LsaOk.l1 k (wrap64 (x5 + 1)) x182000 x182001 x182002 x182003 x182004) else (some false))) else (none)) else (none)) else (spec_LsaOk.l1 k (wrap64 (x5 + 1)) x182000 x182001 x182002 x182003 x182004)) else (some false))) else (some false))) else (none)) else (some true)
end
def spec_LsaOk.f (k : Nat) (a0_0 : Int) (a0_1 : Int) (a0_2 : Int) (l0_3 : List (S70)) (l0_4 : List (S74)) : Option (Bool) := (spec_l01In.f a0_0 0 9).bind fun t182 => (if t182 = true then ((spec_l01In.f a0_1 1 1000000).bind fun t183 => (if t183 = true then ((spec_l01In.f a0_2 0 60).bind fun t184 => (if t184 = true then (if (l0_3.length : Int) > 10 then (spec_LsaOk.j0 k true a0_0 a0_1 a0_2 l0_3 l0_4) else (spec_LsaOk.j0 k (decide ((l0_4.length : Int) > 6)) a0_0 a0_1 a0_2 l0_3 l0_4)) else (spec_LsaOk.j0 k true a0_0 a0_1 a0_2 l0_3 l0_4))) else (spec_LsaOk.j0 k true a0_0 a0_1 a0_2 l0_3 l0_4))) else (spec_LsaOk.j0 k true a0_0 a0_1 a0_2 l0_3 l0_4))
theorem spec_LsaOk.mono_l : ∀ k, (∀ y0 y1 y2 y3 y4 y5, LeO (spec_LsaOk.j0 k y0 y1 y2 y3 y4 y5) (spec_LsaOk.j0 (k + 1) y0 y1 y2 y3 y4 y5)) ∧ (∀ y0 y1 y2 y3 y4 y5, LeO (spec_LsaOk.l0 k y0 y1 y2 y3 y4 y5) (spec_LsaOk.l0 (k + 1) y0 y1 y2 y3 y4 y5)) ∧ (∀ y0 y1 y2 y3 y4 y5, LeO (spec_LsaOk.l1 k y0 y1 y2 y3 y4 y5) (spec_LsaOk.l1 (k + 1) y0 y1 y2 y3 y4 y5))
 | 0 => ⟨fun _ _ _ _ _ _ r h => by simp [spec_LsaOk.j0] at h, fun _ _ _ _ _ _ r h => by simp [spec_LsaOk.l0] at h, fun _ _ _ _ _ _ r h => by simp [spec_LsaOk.l1] at h⟩
 | k + 1 => by
  obtain ⟨ih0, ih1, ih2⟩ := spec_LsaOk.mono_l k
  refine ⟨?_, ?_, ?_⟩
  ·intro y0 y1 y2 y3 y4 y5
   unfold spec_LsaOk.j0
   repeat' first
   | (with_reducible exact ih0 _ _ _ _ _ _)
   | (with_reducible exact ih1 _ _ _ _ _ _)
   | (with_reducible exact ih2 _ _ _ _ _ _)
   | (with_reducible exact LeO.refl _)
   | (with_reducible exact LeO.none _)
   | (with_reducible refine LeO.ite ?_ ?_)
   | (with_reducible refine LeO.bind ?_ (fun _ => ?_))
   | exact ih0 _ _ _ _ _ _
   | exact ih1 _ _ _ _ _ _
   | exact ih2 _ _ _ _ _ _
   | exact LeO.none _
   | refine LeO.ite ?_ ?_
   | refine LeO.bind ?_ (fun _ => ?_)
  ·intro y0 y1 y2 y3 y4 y5
   unfold spec_LsaOk.l0
   repeat' first
   | (with_reducible exact ih0 _ _ _ _ _ _)
   | (with_reducible exact ih1 _ _ _ _ _ _)
   | (with_reducible exact ih2 _ _ _ _ _ _)
   | (with_reducible exact LeO.refl _)
   | (with_reducible exact LeO.none _)
   | (with_reducible refine LeO.ite ?_ ?_)
   | (with_reducible refine LeO.bind ?_ (fun _ => ?_))
   | exact ih0 _ _ _ _ _ _
   | exact ih1 _ _ _ _ _ _
   | exact ih2 _ _ _ _ _ _
   | exact LeO.none _
   | refine LeO.ite ?_ ?_
   | refine LeO.bind ?_ (fun _ => ?_)
  ·intro y0 y1 y2 y3 y4 y5
   unfold spec_LsaOk.l1
   repeat' first
   | (with_reducible exact ih0 _ _ _ _ _ _)
   | (with_reducible exact ih1 _ _ _ _ _ _)
   | (with_reducible exact ih2 _ _ _ _ _ _)
   | (with_reducible exact LeO.refl _)
   | (with_reducible exact LeO.none _)
   | (with_reducible refine LeO.ite ?_ ?_)
   | (with_reducible refine LeO.bind ?_ (fun _ => ?_))
   | exact ih0 _ _ _ _ _ _
   | exact ih1 _ _ _ _ _ _
   | exact ih2 _ _ _ _ _ _
   | exact LeO.none _
   | refine LeO.ite ?_ ?_
   | refine LeO.bind ?_ (fun _ => ?_)
theorem spec_LsaOk.mono : ∀ a0 a1 a2 a3 a4 k, LeO (spec_LsaOk.f k a0 a1 a2 a3 a4) (spec_LsaOk.f (k + 1) a0 a1 a2 a3 a4) := by
 intro a0 a1 a2 a3 a4 k
 obtain ⟨ih0, ih1, ih2⟩ := spec_LsaOk.mono_l k
 unfold spec_LsaOk.f
 repeat' first
   | (with_reducible exact ih0 _ _ _ _ _ _)
   | (with_reducible exact ih1 _ _ _ _ _ _)
   | (with_reducible exact ih2 _ _ _ _ _ _)
   | (with_reducible exact LeO.refl _)
   | (with_reducible exact LeO.none _)
   | (with_reducible refine LeO.ite ?_ ?_)
   | (with_reducible refine LeO.bind ?_ (fun _ => ?_))
   | exact ih0 _ _ _ _ _ _
   | exact ih1 _ _ _ _ _ _
   | exact ih2 _ _ _ _ _ _
   | exact LeO.none _
   | refine LeO.ite ?_ ?_
   | refine LeO.bind ?_ (fun _ => ?_)
def spec_LsaOk.T7 : Bool × List (List Nat × List Nat) := (true, [([], []), ([0], [0]), ([1], [1]), ([2], [2]), ([3, 2], [3]), ([4], [4]), ([5, 4], [4, 5]), ([4], [4]), ([7, 4], [4, 7]), ([6, 8, 4], [4, 6, 8]), ([4, 9], [4, 9]), ([10, 4], [10]), ([11], [11]), ([12, 11], [11, 12]), ([13, 11, 11], [11, 13]), ([14, 11], [11, 14]), ([11, 15], [11, 15]), ([16, 14], [16]), ([17], [17]), ([18, 17], [17, 18]), ([19, 17, 17], [17, 19]), ([20], [20]), ([21, 20], [20, 21]), ([20], [20]), ([23, 20], [20, 23]), ([22, 24, 20], [20, 22, 24]), ([25, 20], [20, 25]), ([26, 20], [20, 26]), ([20], [20]), ([28, 20], [20, 28]), ([27, 29, 20], [20, 27, 29]), ([20, 30, 17], [17, 20, 30]), ([17, 31], [17, 31])])
def spec_LsaOk.B7 : List Nat := [0, 1, 3, 7, 15, 31, 63, 31, 159, 511, 1023, 2047, 4095, 8191, 16383, 32767, 65535, 131071, 262143, 524287, 1048575, 2097151, 4194303, 2097151, 10485759, 33554431, 67108863, 134217727, 2097151, 270532607, 1073741823, 2147483647, 4294967295]
theorem spec_LsaOk.tab7 : rtab .any (opsOf Try.f14 7) = spec_LsaOk.T7 := by kernel_rfl
theorem spec_LsaOk.bits7 : waitsOk spec_LsaOk.T7.2 spec_LsaOk.B7 = true := by kernel_rfl
def spec_LsaOk.T13 : Bool × List (List Nat × List Nat) := (true, [([], []), ([0], [0]), ([1], [1]), ([2], [2]), ([3, 2], [3]), ([4], [4]), ([5, 4], [4, 5]), ([6, 4, 4], [4, 6]), ([7, 4], [4, 7]), ([4, 8], [4, 8]), ([9, 7], [9]), ([10], [10]), ([11, 10], [10, 11]), ([12, 10, 10], [10, 12]), ([13], [13]), ([14, 13], [13, 14]), ([13], [13]), ([16, 13], [13, 16]), ([15, 17, 13], [13, 15, 17]), ([18, 13], [13, 18]), ([19, 13], [13, 19]), ([13], [13]), ([21, 13], [13, 21]), ([20, 22, 13, 13], [13, 20, 22]), ([23, 13], [13, 23]), ([13, 24, 10], [10, 13, 24]), ([10, 25], [10, 25])])
def spec_LsaOk.B13 : List Nat := [0, 1, 3, 7, 15, 31, 63, 127, 255, 511, 1023, 2047, 4095, 8191, 16383, 32767, 16383, 81919, 262143, 524287, 1048575, 16383, 2113535, 8388607, 16777215, 33554431, 67108863]
theorem spec_LsaOk.tab13 : rtab .any (opsOf Try.f14 13) = spec_LsaOk.T13 := by kernel_rfl
theorem spec_LsaOk.bits13 : waitsOk spec_LsaOk.T13.2 spec_LsaOk.B13 = true := by kernel_rfl
set_option maxHeartbeats 8000000 in
set_option maxRecDepth 100000 in
theorem spec_LsaOk.calls (k : Nat) (a0_0 : Int) (a0_1 : Int) (a0_2 : Int) (A0_3 : Option Addr) (c0_3 : Nat) (l0_3 : List (S70)) (A0_4 : Option Addr) (c0_4 : Nat) (l0_4 : List (S74)) (r : Bool) (w : World) (hr0_3 : Kd.C k70 w A0_3 l0_3.length l0_3) (hc0_3 : l0_3.length ≤ c0_3) (hr0_4 : Kd.C k74 w A0_4 l0_4.length l0_4) (hc0_4 : l0_4.length ≤ c0_4) (h : spec_LsaOk.f k a0_0 a0_1 a0_2 l0_3 l0_4 = some r) :
  Calls Try.prog 14 #[.agg #[.int .i64 a0_0, .int .i64 a0_1, .int .i64 a0_2, .slice A0_3 l0_3.length c0_3, .slice A0_4 l0_4.length c0_4]] w fun e w' => e = .returned (.bool r) ∧ Below w.heap.size w w' := by
 have hu31 := Try.underlying31
 have hu70 := Try.underlying70
 have hu74 := Try.underlying74
 have hu72 := Try.underlying72
 have HR0_3 := Aside0.mk hr0_3
 have HC0_3 := Aside0.mk hc0_3
 clear hr0_3 hc0_3
 have HR0_4 := Aside0.mk hr0_4
 have HC0_4 := Aside0.mk hc0_4
 clear hr0_4 hc0_4
 have HB := Aside0.mk (Below.refl w.heap.size w)
 have H : ((spec_l01In.f a0_0 0 9).bind fun t182 => (if t182 = true then ((spec_l01In.f a0_1 1 1000000).bind fun t183 => (if t183 = true then ((spec_l01In.f a0_2 0 60).bind fun t184 => (if t184 = true then (if (l0_3.length : Int) > 10 then (spec_LsaOk.j0 k true a0_0 a0_1 a0_2 l0_3 l0_4) else (spec_LsaOk.j0 k (decide ((l0_4.length : Int) > 6)) a0_0 a0_1 a0_2 l0_3 l0_4)) else (spec_LsaOk.j0 k true a0_0 a0_1 a0_2 l0_3 l0_4))) else (spec_LsaOk.j0 k true a0_0 a0_1 a0_2 l0_3 l0_4))) else (spec_LsaOk.j0 k true a0_0 a0_1 a0_2 l0_3 l0_4))) = some r := h
 clear h
 have HC2 := Aside0.mk H
 clear H
 go_enter Try.func14, Try.ntmps14
 go_upto_region 1 with (first | ((with_reducible refine gate_dst (N := 1) rfl ?_); refine box_event ?hg (N := 1) ?hd (cs := #[.int .i64 a0_0, .int .i64 a0_1, .int .i64 a0_2, .slice A0_3 l0_3.length c0_3, .slice A0_4 l0_4.length c0_4]) (t := 31) ?hr ?_; (case hd => rfl); (case hg => rfl); (case hr => first | (go_simp; done) | (go_simp; rfl)); intro gb181 hg w3 hbox hb; have BK181 := Aside0.mk hbox; have GW181 := ge_ HB hg; have GE181 := ge_ HB hg; replace HB := Aside0.mk (bt_ HB hb); clear hb hbox hg))
 (try simp only [Act.put, List.setIfInBounds_toArray, List.set_cons_zero, List.set_cons_succ])
 go_cut [34] (fun v34 wc => ∃ (kq : Nat) (x34_1 : Bool), v34 = .bool x34_1 ∧ Aside0 (spec_LsaOk.j0 kq x34_1 a0_0 a0_1 a0_2 l0_3 l0_4 = some r) ∧ Aside0 (kq ≤ k) ∧ Aside0 (wc.heap[gb181]? = some (.cells #[.int .i64 a0_0, .int .i64 a0_1, .int .i64 a0_2, (.slice A0_3 l0_3.length c0_3), (.slice A0_4 l0_4.length c0_4)] 31 (0, 0))) ∧ Aside0 (Below w.heap.size w wc))
 case first =>
  have H := HC2.out
  clear HC2
  replace H := Option.bind_eq_some_iff.mp H
  obtain ⟨t182, A40, H⟩ := H
  have A4 := Aside0.mk A40
  clear A40
  by_cases c5 : t182 = true
  ·subst c5
   rw [if_pos rfl] at H
   replace H := Option.bind_eq_some_iff.mp H
   obtain ⟨t183, A60, H⟩ := H
   have A6 := Aside0.mk A60
   clear A60
   by_cases c7 : t183 = true
   ·subst c7
    rw [if_pos rfl] at H
    replace H := Option.bind_eq_some_iff.mp H
    obtain ⟨t184, A80, H⟩ := H
    have A8 := Aside0.mk A80
    clear A80
    by_cases c9 : t184 = true
    ·subst c9
     rw [if_pos rfl] at H
     by_cases c10 : (l0_3.length : Int) > 10
     ·rw [if_pos c10] at H
      have c10b0 : decide (10 < (l0_3.length : Int)) = true := decide_eq_true c10
      have c10b1 : decide (10 < l0_3.length) = true := decide_eq_true (by omega)
      clear c10
      (first | rw [c10b0] | (simp only [i64_w, i32_w]; rw [c10b0]) | skip)
      have H' := Aside0.mk H
      clear H
      have hcz11_0 := cz_ BK181 0 (.int .i64 a0_0)
      have hcz11_1 := cz_ BK181 1 (.int .i64 a0_1)
      have hcz11_2 := cz_ BK181 2 (.int .i64 a0_2)
      have hcz11_3 := cz_ BK181 3 (.slice A0_3 l0_3.length c0_3)
      have hcz11_4 := cz_ BK181 4 (.slice A0_4 l0_4.length c0_4)
      have hfz11_0 := blk_frozen BK181.out 0
      have hfz11_1 := blk_frozen BK181.out 1
      have hfz11_2 := blk_frozen BK181.out 2
      have hfz11_3 := blk_frozen BK181.out 3
      have hfz11_4 := blk_frozen BK181.out 4
      go_wp2_with (first | ((with_reducible refine gate_callee (f := 52) rfl ?_); refine gl_ (some 9) Try.func52 #[.int .i64 a0_0, .int .i64 0, .int .i64 9] ?_; (with_reducible refine (spec_l01In.calls a0_0 0 9 true _ A4.out).mono ?_); rintro e w' ⟨rfl, ⟨nd, rfl⟩⟩; refine ⟨_, rfl, ?_⟩) | (go_at_call 52; (with_reducible refine (spec_l01In.calls a0_1 1 1000000 true _ A6.out).mono ?_); rintro e w' ⟨rfl, ⟨nd, rfl⟩⟩) | (go_at_call 52; (with_reducible refine (spec_l01In.calls a0_2 0 60 true _ A8.out).mono ?_); rintro e w' ⟨rfl, ⟨nd, rfl⟩⟩))
      go_meet
      case rel => exact ⟨_, (true), (by first | rfl | (simp; done) | (simp [*]; done)), H', ⟨by first | omega | exact Nat.le_refl _⟩, ⟨by (with_reducible repeat (first | refine blk_drewN ?_ _ | refine blk_drew ?_ | refine blk_alloc ?_ _)); exact BK181.out⟩, ⟨by repeat (first | (with_reducible first | exact HB.out | apply below_alloc | apply pw_below_drewN | apply below_drew1 | refine below_set ?_ GE181.out) | exact HB.out)⟩⟩
     ·rw [if_neg c10] at H
      have c10b0 : decide (10 < (l0_3.length : Int)) = false := decide_eq_false c10
      have c10b1 : decide (10 < l0_3.length) = false := decide_eq_false (by omega)
      clear c10
      (first | rw [c10b0] | (simp only [i64_w, i32_w]; rw [c10b0]) | skip)
      have H' := Aside0.mk H
      clear H
      have hcz12_0 := cz_ BK181 0 (.int .i64 a0_0)
      have hcz12_1 := cz_ BK181 1 (.int .i64 a0_1)
      have hcz12_2 := cz_ BK181 2 (.int .i64 a0_2)
      have hcz12_3 := cz_ BK181 3 (.slice A0_3 l0_3.length c0_3)
      have hcz12_4 := cz_ BK181 4 (.slice A0_4 l0_4.length c0_4)
      have hfz12_0 := blk_frozen BK181.out 0
      have hfz12_1 := blk_frozen BK181.out 1
      have hfz12_2 := blk_frozen BK181.out 2
      have hfz12_3 := blk_frozen BK181.out 3
      have hfz12_4 := blk_frozen BK181.out 4
      go_wp2_with (first | ((with_reducible refine gate_callee (f := 52) rfl ?_); refine gl_ (some 9) Try.func52 #[.int .i64 a0_0, .int .i64 0, .int .i64 9] ?_; (with_reducible refine (spec_l01In.calls a0_0 0 9 true _ A4.out).mono ?_); rintro e w' ⟨rfl, ⟨nd, rfl⟩⟩; refine ⟨_, rfl, ?_⟩) | (go_at_call 52; (with_reducible refine (spec_l01In.calls a0_1 1 1000000 true _ A6.out).mono ?_); rintro e w' ⟨rfl, ⟨nd, rfl⟩⟩) | (go_at_call 52; (with_reducible refine (spec_l01In.calls a0_2 0 60 true _ A8.out).mono ?_); rintro e w' ⟨rfl, ⟨nd, rfl⟩⟩))
      go_meet
      case rel => exact ⟨_, (decide ((l0_4.length : Int) > 6)), (by first | rfl | (simp; done) | (simp [*]; done)), H', ⟨by first | omega | exact Nat.le_refl _⟩, ⟨by (with_reducible repeat (first | refine blk_drewN ?_ _ | refine blk_drew ?_ | refine blk_alloc ?_ _)); exact BK181.out⟩, ⟨by repeat (first | (with_reducible first | exact HB.out | apply below_alloc | apply pw_below_drewN | apply below_drew1 | refine below_set ?_ GE181.out) | exact HB.out)⟩⟩
    ·replace c9 := Bool.eq_false_iff.mpr c9
     subst c9
     rw [if_neg (show ¬ (false = true) by decide)] at H
     have H' := Aside0.mk H
     clear H
     have hcz13_0 := cz_ BK181 0 (.int .i64 a0_0)
     have hcz13_1 := cz_ BK181 1 (.int .i64 a0_1)
     have hcz13_2 := cz_ BK181 2 (.int .i64 a0_2)
     have hcz13_3 := cz_ BK181 3 (.slice A0_3 l0_3.length c0_3)
     have hcz13_4 := cz_ BK181 4 (.slice A0_4 l0_4.length c0_4)
     have hfz13_0 := blk_frozen BK181.out 0
     have hfz13_1 := blk_frozen BK181.out 1
     have hfz13_2 := blk_frozen BK181.out 2
     have hfz13_3 := blk_frozen BK181.out 3
     have hfz13_4 := blk_frozen BK181.out 4
     go_wp2_with (first | ((with_reducible refine gate_callee (f := 52) rfl ?_); refine gl_ (some 9) Try.func52 #[.int .i64 a0_0, .int .i64 0, .int .i64 9] ?_; (with_reducible refine (spec_l01In.calls a0_0 0 9 true _ A4.out).mono ?_); rintro e w' ⟨rfl, ⟨nd, rfl⟩⟩; refine ⟨_, rfl, ?_⟩) | (go_at_call 52; (with_reducible refine (spec_l01In.calls a0_1 1 1000000 true _ A6.out).mono ?_); rintro e w' ⟨rfl, ⟨nd, rfl⟩⟩) | (go_at_call 52; (with_reducible refine (spec_l01In.calls a0_2 0 60 false _ A8.out).mono ?_); rintro e w' ⟨rfl, ⟨nd, rfl⟩⟩))
     go_meet
     case rel => exact ⟨_, (true), (by first | rfl | (simp; done) | (simp [*]; done)), H', ⟨by first | omega | exact Nat.le_refl _⟩, ⟨by (with_reducible repeat (first | refine blk_drewN ?_ _ | refine blk_drew ?_ | refine blk_alloc ?_ _)); exact BK181.out⟩, ⟨by repeat (first | (with_reducible first | exact HB.out | apply below_alloc | apply pw_below_drewN | apply below_drew1 | refine below_set ?_ GE181.out) | exact HB.out)⟩⟩
   ·replace c7 := Bool.eq_false_iff.mpr c7
    subst c7
    rw [if_neg (show ¬ (false = true) by decide)] at H
    have H' := Aside0.mk H
    clear H
    have hcz14_0 := cz_ BK181 0 (.int .i64 a0_0)
    have hcz14_1 := cz_ BK181 1 (.int .i64 a0_1)
    have hcz14_2 := cz_ BK181 2 (.int .i64 a0_2)
    have hcz14_3 := cz_ BK181 3 (.slice A0_3 l0_3.length c0_3)
    have hcz14_4 := cz_ BK181 4 (.slice A0_4 l0_4.length c0_4)
    have hfz14_0 := blk_frozen BK181.out 0
    have hfz14_1 := blk_frozen BK181.out 1
    have hfz14_2 := blk_frozen BK181.out 2
    have hfz14_3 := blk_frozen BK181.out 3
    have hfz14_4 := blk_frozen BK181.out 4
    go_wp2_with (first | ((with_reducible refine gate_callee (f := 52) rfl ?_); refine gl_ (some 9) Try.func52 #[.int .i64 a0_0, .int .i64 0, .int .i64 9] ?_; (with_reducible refine (spec_l01In.calls a0_0 0 9 true _ A4.out).mono ?_); rintro e w' ⟨rfl, ⟨nd, rfl⟩⟩; refine ⟨_, rfl, ?_⟩) | (go_at_call 52; (with_reducible refine (spec_l01In.calls a0_1 1 1000000 false _ A6.out).mono ?_); rintro e w' ⟨rfl, ⟨nd, rfl⟩⟩))
    go_meet
    case rel => exact ⟨_, (true), (by first | rfl | (simp; done) | (simp [*]; done)), H', ⟨by first | omega | exact Nat.le_refl _⟩, ⟨by (with_reducible repeat (first | refine blk_drewN ?_ _ | refine blk_drew ?_ | refine blk_alloc ?_ _)); exact BK181.out⟩, ⟨by repeat (first | (with_reducible first | exact HB.out | apply below_alloc | apply pw_below_drewN | apply below_drew1 | refine below_set ?_ GE181.out) | exact HB.out)⟩⟩
  ·replace c5 := Bool.eq_false_iff.mpr c5
   subst c5
   rw [if_neg (show ¬ (false = true) by decide)] at H
   have H' := Aside0.mk H
   clear H
   have hcz15_0 := cz_ BK181 0 (.int .i64 a0_0)
   have hcz15_1 := cz_ BK181 1 (.int .i64 a0_1)
   have hcz15_2 := cz_ BK181 2 (.int .i64 a0_2)
   have hcz15_3 := cz_ BK181 3 (.slice A0_3 l0_3.length c0_3)
   have hcz15_4 := cz_ BK181 4 (.slice A0_4 l0_4.length c0_4)
   have hfz15_0 := blk_frozen BK181.out 0
   have hfz15_1 := blk_frozen BK181.out 1
   have hfz15_2 := blk_frozen BK181.out 2
   have hfz15_3 := blk_frozen BK181.out 3
   have hfz15_4 := blk_frozen BK181.out 4
   go_wp2_with (first | ((with_reducible refine gate_callee (f := 52) rfl ?_); refine gl_ (some 9) Try.func52 #[.int .i64 a0_0, .int .i64 0, .int .i64 9] ?_; (with_reducible refine (spec_l01In.calls a0_0 0 9 false _ A4.out).mono ?_); rintro e w' ⟨rfl, ⟨nd, rfl⟩⟩; refine ⟨_, rfl, ?_⟩))
   go_meet
   case rel => exact ⟨_, (true), (by first | rfl | (simp; done) | (simp [*]; done)), H', ⟨by first | omega | exact Nat.le_refl _⟩, ⟨by (with_reducible repeat (first | refine blk_drewN ?_ _ | refine blk_drew ?_ | refine blk_alloc ?_ _)); exact BK181.out⟩, ⟨by repeat (first | (with_reducible first | exact HB.out | apply below_alloc | apply pw_below_drewN | apply below_drew1 | refine below_set ?_ GE181.out) | exact HB.out)⟩⟩
 case rest =>
  clear HC2
  try clear c1
  try clear p2
  try clear c5
  try clear c7
  try clear c9
  try clear c10
  try clear c10b0
  try clear c10b1
  try clear c14
  try clear hcz11_0
  try clear hcz11_1
  try clear hcz11_2
  try clear hcz11_3
  try clear hcz11_4
  try clear hcz12_0
  try clear hcz12_1
  try clear hcz12_2
  try clear hcz12_3
  try clear hcz12_4
  try clear hcz13_0
  try clear hcz13_1
  try clear hcz13_2
  try clear hcz13_3
  try clear hcz13_4
  try clear hcz14_0
  try clear hcz14_1
  try clear hcz14_2
  try clear hcz14_3
  try clear hcz14_4
  try clear hcz15_0
  try clear hcz15_1
  try clear hcz15_2
  try clear hcz15_3
  try clear hcz15_4
  try clear hfz11_0
  try clear hfz11_1
  try clear hfz11_2
  try clear hfz11_3
  try clear hfz11_4
  try clear hfz12_0
  try clear hfz12_1
  try clear hfz12_2
  try clear hfz12_3
  try clear hfz12_4
  try clear hfz13_0
  try clear hfz13_1
  try clear hfz13_2
  try clear hfz13_3
  try clear hfz13_4
  try clear hfz14_0
  try clear hfz14_1
  try clear hfz14_2
  try clear hfz14_3
  try clear hfz14_4
  try clear hfz15_0
  try clear hfz15_1
  try clear hfz15_2
  try clear hfz15_3
  try clear hfz15_4
  obtain ⟨kq, x34_1, rfl, HA, HJ1, BK181, HB⟩ := hcut
  cases kq with
  | zero => exact absurd HA.out (by simp [spec_LsaOk.j0])
  | succ kj1 =>
   have H := HA.out
   clear HA
   simp only [spec_LsaOk.j0] at H
   by_cases c16 : x34_1 = true
   ·subst c16
    rw [if_pos rfl] at H
    obtain rfl := Option.some.inj H
    go_wp2
    go_ret
    exact ⟨by first | rfl | (simp [errW_none, errW_some] <;> rfl) | (simp [*, errW_none, errW_some] <;> rfl), by repeat (first | (with_reducible first | exact HB.out | apply below_alloc | apply pw_below_drewN | apply below_drew1 | refine below_set ?_ GE181.out) | exact HB.out)⟩
   ·replace c16 := Bool.eq_false_iff.mpr c16
    subst c16
    rw [if_neg (show ¬ (false = true) by decide)] at H
    have H' := Aside0.mk H
    clear H
    go_wp2
    go_loopg [3] kj1 (fun kq v3 w' => ∃ (x3_2 : Int), v3 = .int .i64 x3_2 ∧ Aside0 (spec_LsaOk.l0 kq x3_2 a0_0 a0_1 a0_2 l0_3 l0_4 = some r) ∧ Aside0 (kq ≤ kj1) ∧ Aside0 (w'.heap[gb181]? = some (.cells #[.int .i64 a0_0, .int .i64 a0_1, .int .i64 a0_2, (.slice A0_3 l0_3.length c0_3), (.slice A0_4 l0_4.length c0_4)] 31 (0, 0))) ∧ Aside0 (Below w.heap.size w w'))
    case atStart => exact ⟨(0), (by first | rfl | (simp; done) | (simp [*]; done)), H', ⟨Nat.le_refl _⟩, ⟨by (with_reducible repeat (first | refine blk_drewN ?_ _ | refine blk_drew ?_ | refine blk_alloc ?_ _)); exact BK181.out⟩, ⟨by repeat (first | (with_reducible first | exact HB.out | apply below_alloc | apply pw_below_drewN | apply below_drew1 | refine below_set ?_ GE181.out) | exact HB.out)⟩⟩
    case round =>
     clear H'
     try clear c1
     try clear p2
     try clear c5
     try clear c7
     try clear c9
     try clear c10
     try clear c10b0
     try clear c10b1
     try clear c14
     try clear c16
     try clear hcz11_0
     try clear hcz11_1
     try clear hcz11_2
     try clear hcz11_3
     try clear hcz11_4
     try clear hcz12_0
     try clear hcz12_1
     try clear hcz12_2
     try clear hcz12_3
     try clear hcz12_4
     try clear hcz13_0
     try clear hcz13_1
     try clear hcz13_2
     try clear hcz13_3
     try clear hcz13_4
     try clear hcz14_0
     try clear hcz14_1
     try clear hcz14_2
     try clear hcz14_3
     try clear hcz14_4
     try clear hcz15_0
     try clear hcz15_1
     try clear hcz15_2
     try clear hcz15_3
     try clear hcz15_4
     try clear hfz11_0
     try clear hfz11_1
     try clear hfz11_2
     try clear hfz11_3
     try clear hfz11_4
     try clear hfz12_0
     try clear hfz12_1
     try clear hfz12_2
     try clear hfz12_3
     try clear hfz12_4
     try clear hfz13_0
     try clear hfz13_1
     try clear hfz13_2
     try clear hfz13_3
     try clear hfz13_4
     try clear hfz14_0
     try clear hfz14_1
     try clear hfz14_2
     try clear hfz14_3
     try clear hfz14_4
     try clear hfz15_0
     try clear hfz15_1
     try clear hfz15_2
     try clear hfz15_3
     try clear hfz15_4
     try clear p2
     obtain ⟨x3_2, rfl, HA, HK2, BK181, HB⟩ := hrel
     cases gk with
     | zero => exact absurd HA.out (by simp [spec_LsaOk.l0])
     | succ k2 =>
      have H := HA.out
      clear HA
      simp only [spec_LsaOk.l0] at H
      by_cases c17 : x3_2 < (l0_3.length : Int)
      ·rw [if_pos c17] at H
       have c17b0 : decide (x3_2 < (l0_3.length : Int)) = true := decide_eq_true c17
       clear c17
       by_cases c18 : 0 ≤ x3_2
       ·rw [if_pos c18] at H
        have c18b0 : decide (0 ≤ x3_2) = true := decide_eq_true c18
        clear c18
        replace H := Option.bind_eq_some_iff.mp H
        obtain ⟨t187, A190, H⟩ := H
        have A19 := Aside0.mk A190
        clear A190
        by_cases c20 : t187 = true
        ·subst c20
         rw [if_pos rfl] at H
         by_cases c21 : ((rd_T70 l0_3 x3_2).f0) = a0_0
         ·rw [if_pos c21] at H
          have c21b0 : (((rd_T70 l0_3 x3_2).f0) == a0_0) = true := beq_iff_eq.mpr c21
          have c21b1 : (((rd_T70 l0_3 x3_2).f0) != a0_0) = false := bne_eq_false_iff_eq.mpr c21
          clear c21
          obtain rfl := Option.some.inj H
          have hcz22_0 := cz_ BK181 0 (.int .i64 a0_0)
          have hcz22_1 := cz_ BK181 1 (.int .i64 a0_1)
          have hcz22_2 := cz_ BK181 2 (.int .i64 a0_2)
          have hcz22_3 := cz_ BK181 3 (.slice A0_3 l0_3.length c0_3)
          have hcz22_4 := cz_ BK181 4 (.slice A0_4 l0_4.length c0_4)
          have hfz22_0 := blk_frozen BK181.out 0
          have hfz22_1 := blk_frozen BK181.out 1
          have hfz22_2 := blk_frozen BK181.out 2
          have hfz22_3 := blk_frozen BK181.out 3
          have hfz22_4 := blk_frozen BK181.out 4
          have p185 : 0 ≤ (x3_2 : Int) := of_decide_eq_true (by first | (with_reducible assumption) | assumption)
          have q185 : x3_2 < (l0_3.length : Int) := of_decide_eq_true (by first | (with_reducible assumption) | assumption)
          obtain ⟨ad185, e185, hx185_0, hx185_1⟩ := at_T70 HR0_3.out x3_2 p185 q185
          cases e185
          replace hx185_0 := (HB.out.cell (World.block_lt_of_cell? w _ hx185_0)).trans hx185_0
          replace hx185_1 := (HB.out.cell (World.block_lt_of_cell? w _ hx185_1)).trans hx185_1
          replace p185 := eq_true p185
          replace q185 := eq_true q185
          try go_wp2_with (first | ((with_reducible refine gate_dst (N := 4) rfl ?_); refine box_event ?hg (N := 4) ?hd (cs := #[.int .i64 0, .int .i64 0]) (t := 70) ?hr ?_; (case hd => rfl); (case hg => rfl); (case hr => first | (go_simp; done) | (go_simp; rfl)); intro gb186 hg w23 hbox hb; have BK186 := Aside0.mk hbox; have GW186 := ge_ HB hg; have GE186 := ge_ HB hg; have NB181_186 := nl_ BK181 hg; have NB186_181 := ng_ BK181 hg; replace HB := Aside0.mk (bt_ HB hb); replace BK181 := Aside0.mk (bb_ BK181 hb); clear hb hbox hg; have hnb24 := NB186_181.out; have hnc24 := NB181_186.out; have hcz25_0 := cz_ BK186 0 (.int .i64 0); have hcz25_1 := cz_ BK186 1 (.int .i64 0); have hfz25_0 := blk_frozen BK186.out 0; have hfz25_1 := blk_frozen BK186.out 1))
          have n0_ : Aside0 (((w23.setCell ⟨gb186, 0, none⟩ (.int .i64 ((rd_T70 l0_3 x3_2).f0))).setCell ⟨gb186, 1, none⟩ (.int .i64 ((rd_T70 l0_3 x3_2).f1))).heap[gb181]? = some (.cells #[.int .i64 a0_0, .int .i64 a0_1, .int .i64 a0_2, .slice (some ad185) l0_3.length c0_3, .slice A0_4 l0_4.length c0_4] 31 (0, 0))) := ⟨by (with_reducible repeat (first | refine blk_drewN ?_ _ | refine blk_drew ?_ | refine blk_alloc ?_ _)); refine blk_far ?_ NB181_186.out _; (with_reducible repeat (first | refine blk_drewN ?_ _ | refine blk_drew ?_ | refine blk_alloc ?_ _)); refine blk_far ?_ NB181_186.out _; (with_reducible repeat (first | refine blk_drewN ?_ _ | refine blk_drew ?_ | refine blk_alloc ?_ _)); exact BK181.out⟩
          have n1_ : Aside0 (((w23.setCell ⟨gb186, 0, none⟩ (.int .i64 ((rd_T70 l0_3 x3_2).f0))).setCell ⟨gb186, 1, none⟩ (.int .i64 ((rd_T70 l0_3 x3_2).f1))).heap[gb186]? = some (.cells #[.int .i64 ((rd_T70 l0_3 x3_2).f0), .int .i64 ((rd_T70 l0_3 x3_2).f1)] 70 (0, 0))) := ⟨by (with_reducible repeat (first | refine blk_drewN ?_ _ | refine blk_drew ?_ | refine blk_alloc ?_ _)); refine blk_put (cs := #[.int .i64 ((rd_T70 l0_3 x3_2).f0), .int .i64 0]) ?_ 1 _ rfl; (with_reducible repeat (first | refine blk_drewN ?_ _ | refine blk_drew ?_ | refine blk_alloc ?_ _)); refine blk_put (cs := #[.int .i64 0, .int .i64 0]) ?_ 0 _ rfl; (with_reducible repeat (first | refine blk_drewN ?_ _ | refine blk_drew ?_ | refine blk_alloc ?_ _)); exact BK186.out⟩
          have n2_ : Aside0 (Below w.heap.size w ((w23.setCell ⟨gb186, 0, none⟩ (.int .i64 ((rd_T70 l0_3 x3_2).f0))).setCell ⟨gb186, 1, none⟩ (.int .i64 ((rd_T70 l0_3 x3_2).f1)))) := ⟨by repeat (first | (with_reducible first | exact HB.out | apply below_alloc | apply pw_below_drewN | apply below_drew1 | refine below_set ?_ GE181.out | refine below_set ?_ GE186.out) | exact HB.out)⟩
          (try clear BK181)
          (try clear BK186)
          (try clear HB)
          generalize ((w23.setCell ⟨gb186, 0, none⟩ (.int .i64 ((rd_T70 l0_3 x3_2).f0))).setCell ⟨gb186, 1, none⟩ (.int .i64 ((rd_T70 l0_3 x3_2).f1))) = w26 at n0_ n1_ n2_ ⊢
          have BK181 := n0_
          have BK186 := n1_
          have HB := n2_
          clear n0_ n1_ n2_
          replace BK181 := Aside0.mk (blk_drew BK181.out)
          replace BK186 := Aside0.mk (blk_drew BK186.out)
          replace HB := Aside0.mk (below_drew1 HB.out)
          refine start_ (n := 33) (S := fun w' => w'.cell? ⟨gb186, 0, none⟩ = some (.int .i64 ((rd_T70 l0_3 x3_2).f0)) ∧ w'.cell? ⟨gb186, 1, none⟩ = some (.int .i64 ((rd_T70 l0_3 x3_2).f1)) ∧ w'.cell? ⟨gb181, 0, none⟩ = some (.int .i64 a0_0) ∧ w'.cell? ⟨gb181, 1, none⟩ = some (.int .i64 a0_1) ∧ w'.cell? ⟨gb181, 2, none⟩ = some (.int .i64 a0_2) ∧ w'.cell? ⟨gb181, 3, none⟩ = some (.slice (some ad185) l0_3.length c0_3) ∧ w'.cell? ⟨gb181, 4, none⟩ = some (.slice A0_4 l0_4.length c0_4)) (ds := []) ba5_0 (by kernel_rfl) rfl rfl ⟨(blk_cell BK186.out 0).trans rfl, (blk_cell BK186.out 1).trans rfl, (blk_cell BK181.out 0).trans rfl, (blk_cell BK181.out 1).trans rfl, (blk_cell BK181.out 2).trans rfl, (blk_cell BK181.out 3).trans rfl, (blk_cell BK181.out 4).trans rfl⟩ (fun hHeld => ?_); refine with_tabW spec_LsaOk.tab7 spec_LsaOk.bits7 (fun HT_ HW_ => ?_)
          generalize w26.drew = w27 at BK181 BK186 HB hHeld ⊢
          refine pz_ 0 47 ba5_1 HT_ ?_
          refine pt_ 1 48 ba5_2 HT_ HW_ hHeld ?_
          refine one_ (i := 2) (N := some 49) ba5_3 rfl rfl (one_of HT_.out (by kernel_rfl)) (by decide) (fun K hK => ?_)
          refine gz_ Try.func52 #[.int .i64 ((rd_T70 l0_3 x3_2).f0), .int .i64 0, .int .i64 9] ?_
          with_reducible refine (spec_l01In.calls ((rd_T70 l0_3 x3_2).f0) 0 9 true _ A19.out).mono ?_
          rintro e w' ⟨rfl, ⟨nd, rfl⟩⟩
          refine ⟨_, rfl, ?_⟩
          refine hK.out _ _ ⟨(blk_cell BK186.out 0).trans rfl, (blk_cell BK186.out 1).trans rfl, (blk_cell BK181.out 0).trans rfl, (blk_cell BK181.out 1).trans rfl, (blk_cell BK181.out 2).trans rfl, (blk_cell BK181.out 3).trans rfl, (blk_cell BK181.out 4).trans rfl⟩ (fun hHeld => ?_)
          clear hK K
          refine nz_ 49 ?_
          refine pz_ 3 50 ba5_4 HT_ ?_
          refine pz_ 4 51 ba5_5 HT_ ?_
          refine pz_ 5 52 ba5_6 HT_ ?_
          refine pz_ 7 54 ba5_7 HT_ ?_
          refine pt_ 6 53 ba5_8 HT_ HW_ hHeld ?_
          refine pt_ 8 55 ba5_9 HT_ HW_ hHeld ?_
          refine pz_ 9 56 ba5_10 HT_ ?_
          refine pz_ 10 57 ba5_11 HT_ ?_
          refine pz_ 11 58 ba5_12 HT_ ?_
          refine pu_ 12 59 ba5_13 HT_ ?_
          refine pu_ 13 60 ba5_14 HT_ ?_
          refine pu_ 14 61 ba5_15 HT_ ?_
          refine pu_ 15 62 ba5_16 HT_ ?_
          refine pz_ 16 63 ba5_17 HT_ ?_
          refine pz_ 17 64 ba5_18 HT_ ?_
          refine pu_ 18 65 ba5_19 HT_ ?_
          refine pu_ 19 66 ba5_20 HT_ ?_
          refine pu_ 20 67 ba5_21 HT_ ?_
          refine pu_ 21 68 ba5_22 HT_ ?_
          refine pu_ 22 69 ba5_23 HT_ ?_
          refine pu_ 23 70 ba5_24 HT_ ?_
          refine pu_ 24 71 ba5_25 HT_ ?_
          refine pu_ 25 72 ba5_26 HT_ ?_
          refine pu_ 26 73 ba5_27 HT_ ?_
          refine pu_ 27 74 ba5_28 HT_ ?_
          refine pu_ 28 75 ba5_29 HT_ ?_
          refine pu_ 29 76 ba5_30 HT_ ?_
          refine pu_ 30 77 ba5_31 HT_ ?_
          refine pu_ 31 78 ba5_32 HT_ ?_
          refine pz_ 32 79 ba5_33 HT_ ?_
          refine done_ (done_of HT_.out (by kernel_rfl)) ?_
          try go_wp2
          go_ret
          exact ⟨by first | rfl | (simp [errW_none, errW_some] <;> rfl) | (simp [*, errW_none, errW_some] <;> rfl), by repeat (first | (with_reducible first | exact HB.out | apply below_alloc | apply pw_below_drewN | apply below_drew1 | refine below_set ?_ GE181.out | refine below_set ?_ GE186.out) | exact HB.out)⟩
         ·rw [if_neg c21] at H
          have c21b0 : (((rd_T70 l0_3 x3_2).f0) == a0_0) = false := beq_eq_false_iff_ne.mpr c21
          have c21b1 : (((rd_T70 l0_3 x3_2).f0) != a0_0) = true := bne_iff_ne.mpr c21
          replace H := Option.bind_eq_some_iff.mp H
          obtain ⟨t188, A280, H⟩ := H
          have A28 := Aside0.mk A280
          clear A280
          by_cases c29 : t188 = true
          ·subst c29
           rw [if_pos rfl] at H
           by_cases c30 : x3_2 > 0
           ·rw [if_pos c30] at H
            have c30b0 : decide (0 < x3_2) = true := decide_eq_true c30
            clear c30
            obtain ⟨ji31, hji31⟩ : ∃ j_ : Int, (wrap64 (x3_2 - 1)) = j_ := ⟨_, rfl⟩
            first | rw [hji31] at H | simp only [hji31] at H
            (try rw [hji31] at A19)
            (try rw [hji31] at A28)
            have hji31w : (IntKind.i64.wrap (x3_2 - 1)) = ji31 := (i64_w _).trans hji31
            by_cases c32 : 0 ≤ (ji31)
            ·rw [if_pos c32] at H
             have c32b0 : decide (0 ≤ (ji31)) = true := decide_eq_true c32
             clear c32
             by_cases c33 : (ji31) < (l0_3.length : Int)
             ·rw [if_pos c33] at H
              have c33b0 : decide ((ji31) < (l0_3.length : Int)) = true := decide_eq_true c33
              clear c33
              by_cases c34 : ((rd_T70 l0_3 (ji31)).f0) ≥ ((rd_T70 l0_3 x3_2).f0)
              ·rw [if_pos c34] at H
               have c34b0 : decide (((rd_T70 l0_3 x3_2).f0) ≤ ((rd_T70 l0_3 (ji31)).f0)) = true := decide_eq_true c34
               clear c34
               obtain rfl := Option.some.inj H
               have hcz35_0 := cz_ BK181 0 (.int .i64 a0_0)
               have hcz35_1 := cz_ BK181 1 (.int .i64 a0_1)
               have hcz35_2 := cz_ BK181 2 (.int .i64 a0_2)
               have hcz35_3 := cz_ BK181 3 (.slice A0_3 l0_3.length c0_3)
               have hcz35_4 := cz_ BK181 4 (.slice A0_4 l0_4.length c0_4)
               have hfz35_0 := blk_frozen BK181.out 0
               have hfz35_1 := blk_frozen BK181.out 1
               have hfz35_2 := blk_frozen BK181.out 2
               have hfz35_3 := blk_frozen BK181.out 3
               have hfz35_4 := blk_frozen BK181.out 4
               have p185 : 0 ≤ (x3_2 : Int) := of_decide_eq_true (by first | (with_reducible assumption) | assumption)
               have q185 : x3_2 < (l0_3.length : Int) := of_decide_eq_true (by first | (with_reducible assumption) | assumption)
               obtain ⟨ad185, e185, hx185_0, hx185_1⟩ := at_T70 HR0_3.out x3_2 p185 q185
               cases e185
               replace hx185_0 := (HB.out.cell (World.block_lt_of_cell? w _ hx185_0)).trans hx185_0
               replace hx185_1 := (HB.out.cell (World.block_lt_of_cell? w _ hx185_1)).trans hx185_1
               replace p185 := eq_true p185
               replace q185 := eq_true q185
               try go_wp2_with (first | ((with_reducible refine gate_dst (N := 4) rfl ?_); refine box_event ?hg (N := 4) ?hd (cs := #[.int .i64 0, .int .i64 0]) (t := 70) ?hr ?_; (case hd => rfl); (case hg => rfl); (case hr => first | (go_simp; done) | (go_simp; rfl)); intro gb186 hg w36 hbox hb; have BK186 := Aside0.mk hbox; have GW186 := ge_ HB hg; have GE186 := ge_ HB hg; have NB181_186 := nl_ BK181 hg; have NB186_181 := ng_ BK181 hg; replace HB := Aside0.mk (bt_ HB hb); replace BK181 := Aside0.mk (bb_ BK181 hb); clear hb hbox hg; have hnb37 := NB186_181.out; have hnc37 := NB181_186.out; have hcz38_0 := cz_ BK186 0 (.int .i64 0); have hcz38_1 := cz_ BK186 1 (.int .i64 0); have hfz38_0 := blk_frozen BK186.out 0; have hfz38_1 := blk_frozen BK186.out 1))
               have n0_ : Aside0 (((w36.setCell ⟨gb186, 0, none⟩ (.int .i64 ((rd_T70 l0_3 x3_2).f0))).setCell ⟨gb186, 1, none⟩ (.int .i64 ((rd_T70 l0_3 x3_2).f1))).heap[gb181]? = some (.cells #[.int .i64 a0_0, .int .i64 a0_1, .int .i64 a0_2, .slice (some ad185) l0_3.length c0_3, .slice A0_4 l0_4.length c0_4] 31 (0, 0))) := ⟨by (with_reducible repeat (first | refine blk_drewN ?_ _ | refine blk_drew ?_ | refine blk_alloc ?_ _)); refine blk_far ?_ NB181_186.out _; (with_reducible repeat (first | refine blk_drewN ?_ _ | refine blk_drew ?_ | refine blk_alloc ?_ _)); refine blk_far ?_ NB181_186.out _; (with_reducible repeat (first | refine blk_drewN ?_ _ | refine blk_drew ?_ | refine blk_alloc ?_ _)); exact BK181.out⟩
               have n1_ : Aside0 (((w36.setCell ⟨gb186, 0, none⟩ (.int .i64 ((rd_T70 l0_3 x3_2).f0))).setCell ⟨gb186, 1, none⟩ (.int .i64 ((rd_T70 l0_3 x3_2).f1))).heap[gb186]? = some (.cells #[.int .i64 ((rd_T70 l0_3 x3_2).f0), .int .i64 ((rd_T70 l0_3 x3_2).f1)] 70 (0, 0))) := ⟨by (with_reducible repeat (first | refine blk_drewN ?_ _ | refine blk_drew ?_ | refine blk_alloc ?_ _)); refine blk_put (cs := #[.int .i64 ((rd_T70 l0_3 x3_2).f0), .int .i64 0]) ?_ 1 _ rfl; (with_reducible repeat (first | refine blk_drewN ?_ _ | refine blk_drew ?_ | refine blk_alloc ?_ _)); refine blk_put (cs := #[.int .i64 0, .int .i64 0]) ?_ 0 _ rfl; (with_reducible repeat (first | refine blk_drewN ?_ _ | refine blk_drew ?_ | refine blk_alloc ?_ _)); exact BK186.out⟩
               have n2_ : Aside0 (Below w.heap.size w ((w36.setCell ⟨gb186, 0, none⟩ (.int .i64 ((rd_T70 l0_3 x3_2).f0))).setCell ⟨gb186, 1, none⟩ (.int .i64 ((rd_T70 l0_3 x3_2).f1)))) := ⟨by repeat (first | (with_reducible first | exact HB.out | apply below_alloc | apply pw_below_drewN | apply below_drew1 | refine below_set ?_ GE181.out | refine below_set ?_ GE186.out) | exact HB.out)⟩
               (try clear BK181)
               (try clear BK186)
               (try clear HB)
               generalize ((w36.setCell ⟨gb186, 0, none⟩ (.int .i64 ((rd_T70 l0_3 x3_2).f0))).setCell ⟨gb186, 1, none⟩ (.int .i64 ((rd_T70 l0_3 x3_2).f1))) = w39 at n0_ n1_ n2_ ⊢
               have BK181 := n0_
               have BK186 := n1_
               have HB := n2_
               clear n0_ n1_ n2_
               replace BK181 := Aside0.mk (blk_drew BK181.out)
               replace BK186 := Aside0.mk (blk_drew BK186.out)
               replace HB := Aside0.mk (below_drew1 HB.out)
               have p189 : 0 ≤ ((ji31) : Int) := of_decide_eq_true (by first | (with_reducible assumption) | assumption)
               have q189 : (ji31) < (l0_3.length : Int) := of_decide_eq_true (by first | (with_reducible assumption) | assumption)
               obtain ⟨ad189, e189, hx189_0, hx189_1⟩ := at_T70 HR0_3.out (ji31) p189 q189
               have hw189_1 := hx189_1
               have hw189_0 := hx189_0
               obtain rfl : ad185 = ad189 := (by injection e189)
               replace hx189_0 := (HB.out.cell (World.block_lt_of_cell? w _ hx189_0)).trans hx189_0
               replace hx189_1 := (HB.out.cell (World.block_lt_of_cell? w _ hx189_1)).trans hx189_1
               replace p189 := eq_true p189
               replace q189 := eq_true q189
               refine start_ (n := 33) (S := fun w' => w'.cell? ⟨gb186, 0, none⟩ = some (.int .i64 ((rd_T70 l0_3 x3_2).f0)) ∧ w'.cell? ⟨gb186, 1, none⟩ = some (.int .i64 ((rd_T70 l0_3 x3_2).f1)) ∧ w'.cell? ⟨gb181, 0, none⟩ = some (.int .i64 a0_0) ∧ w'.cell? ⟨gb181, 1, none⟩ = some (.int .i64 a0_1) ∧ w'.cell? ⟨gb181, 2, none⟩ = some (.int .i64 a0_2) ∧ w'.cell? ⟨gb181, 3, none⟩ = some (.slice (some ad185) l0_3.length c0_3) ∧ w'.cell? ⟨gb181, 4, none⟩ = some (.slice A0_4 l0_4.length c0_4) ∧ w'.cell? (ad185.add (((ji31)).toNat * 2)) = some (.int .i64 ((rd_T70 l0_3 (ji31)).f0)) ∧ w'.cell? ⟨(ad185.add (((ji31)).toNat * 2)).block, (ad185.add (((ji31)).toNat * 2)).off + 1, none⟩ = some (.int .i64 ((rd_T70 l0_3 (ji31)).f1))) (ds := []) ba5_0 (by kernel_rfl) rfl rfl ⟨(blk_cell BK186.out 0).trans rfl, (blk_cell BK186.out 1).trans rfl, (blk_cell BK181.out 0).trans rfl, (blk_cell BK181.out 1).trans rfl, (blk_cell BK181.out 2).trans rfl, (blk_cell BK181.out 3).trans rfl, (blk_cell BK181.out 4).trans rfl, (hc_ HB hw189_0), (hc_ HB hw189_1)⟩ (fun hHeld => ?_); refine with_tabW spec_LsaOk.tab7 spec_LsaOk.bits7 (fun HT_ HW_ => ?_)
               generalize w39.drew = w40 at BK181 BK186 HB hx189_0 hx189_1 hHeld ⊢
               refine pz_ 0 47 ba5_1 HT_ ?_
               refine pt_ 1 48 ba5_2 HT_ HW_ hHeld ?_
               refine one_ (i := 2) (N := some 49) ba5_3 rfl rfl (one_of HT_.out (by kernel_rfl)) (by decide) (fun K hK => ?_)
               refine gz_ Try.func52 #[.int .i64 ((rd_T70 l0_3 x3_2).f0), .int .i64 0, .int .i64 9] ?_
               with_reducible refine (spec_l01In.calls ((rd_T70 l0_3 x3_2).f0) 0 9 true _ A19.out).mono ?_
               rintro e w' ⟨rfl, ⟨nd, rfl⟩⟩
               refine ⟨_, rfl, ?_⟩
               refine hK.out _ _ ⟨(blk_cell BK186.out 0).trans rfl, (blk_cell BK186.out 1).trans rfl, (blk_cell BK181.out 0).trans rfl, (blk_cell BK181.out 1).trans rfl, (blk_cell BK181.out 2).trans rfl, (blk_cell BK181.out 3).trans rfl, (blk_cell BK181.out 4).trans rfl, (hc_ HB hw189_0), (hc_ HB hw189_1)⟩ (fun hHeld => ?_)
               clear hK K
               refine nz_ 49 ?_
               refine pz_ 3 50 ba5_4 HT_ ?_
               refine pz_ 4 51 ba5_5 HT_ ?_
               refine pz_ 5 52 ba5_6 HT_ ?_
               refine pz_ 7 54 ba5_7 HT_ ?_
               refine pt_ 6 53 ba5_8 HT_ HW_ hHeld ?_
               refine pt_ 8 55 ba5_9 HT_ HW_ hHeld ?_
               refine pz_ 9 56 ba5_10 HT_ ?_
               refine pz_ 10 57 ba5_11 HT_ ?_
               refine pz_ 11 58 ba5_12 HT_ ?_
               refine pz_ 12 59 ba5_13 HT_ ?_
               refine pt_ 13 60 ba5_14 HT_ HW_ hHeld ?_
               refine one_ (i := 14) (N := some 61) ba5_15 rfl rfl (one_of HT_.out (by kernel_rfl)) (by decide) (fun K hK => ?_)
               refine gz_ Try.func52 #[.int .i64 ((rd_T70 l0_3 x3_2).f1), .int .i64 1, .int .i64 1000] ?_
               with_reducible refine (spec_l01In.calls ((rd_T70 l0_3 x3_2).f1) 1 1000 true _ A28.out).mono ?_
               rintro e w' ⟨rfl, ⟨nd, rfl⟩⟩
               refine ⟨_, rfl, ?_⟩
               refine hK.out _ _ ⟨(blk_cell BK186.out 0).trans rfl, (blk_cell BK186.out 1).trans rfl, (blk_cell BK181.out 0).trans rfl, (blk_cell BK181.out 1).trans rfl, (blk_cell BK181.out 2).trans rfl, (blk_cell BK181.out 3).trans rfl, (blk_cell BK181.out 4).trans rfl, (hc_ HB hw189_0), (hc_ HB hw189_1)⟩ (fun hHeld => ?_)
               clear hK K
               refine nz_ 61 ?_
               refine pz_ 15 62 ba5_16 HT_ ?_
               refine pz_ 16 63 ba5_17 HT_ ?_
               refine pz_ 17 64 ba5_18 HT_ ?_
               refine pz_ 18 65 ba5_19 HT_ ?_
               refine pz_ 19 66 ba5_20 HT_ ?_
               refine pz_ 20 67 ba5_21 HT_ ?_
               refine pz_ 21 68 ba5_22 HT_ ?_
               refine pz_ 23 70 ba5_34 HT_ ?_
               refine pz_ 24 71 ba5_35 HT_ ?_
               refine pz_ 28 75 ba5_36 HT_ ?_
               refine pt_ 22 69 ba5_37 HT_ HW_ hHeld ?_
               refine pz_ 25 72 ba5_38 HT_ ?_
               refine pz_ 26 73 ba5_39 HT_ ?_
               refine pt_ 27 74 ba5_29 HT_ HW_ hHeld ?_
               refine pt_ 29 76 ba5_30 HT_ HW_ hHeld ?_
               refine pz_ 30 77 ba5_31 HT_ ?_
               refine pz_ 31 78 ba5_32 HT_ ?_
               refine pz_ 32 79 ba5_33 HT_ ?_
               refine done_ (done_of HT_.out (by kernel_rfl)) ?_
               try go_wp2
               go_ret
               exact ⟨by first | rfl | (simp [errW_none, errW_some] <;> rfl) | (simp only [← hji31]; first | rfl | (simp [errW_none, errW_some] <;> rfl)) | (simp [*, errW_none, errW_some] <;> rfl), by repeat (first | (with_reducible first | exact HB.out | apply below_alloc | apply pw_below_drewN | apply below_drew1 | refine below_set ?_ GE181.out | refine below_set ?_ GE186.out) | exact HB.out)⟩
              ·rw [if_neg c34] at H
               have c34b0 : decide (((rd_T70 l0_3 x3_2).f0) ≤ ((rd_T70 l0_3 (ji31)).f0)) = false := decide_eq_false c34
               clear c34
               have H' := Aside0.mk H
               clear H
               have hcz41_0 := cz_ BK181 0 (.int .i64 a0_0)
               have hcz41_1 := cz_ BK181 1 (.int .i64 a0_1)
               have hcz41_2 := cz_ BK181 2 (.int .i64 a0_2)
               have hcz41_3 := cz_ BK181 3 (.slice A0_3 l0_3.length c0_3)
               have hcz41_4 := cz_ BK181 4 (.slice A0_4 l0_4.length c0_4)
               have hfz41_0 := blk_frozen BK181.out 0
               have hfz41_1 := blk_frozen BK181.out 1
               have hfz41_2 := blk_frozen BK181.out 2
               have hfz41_3 := blk_frozen BK181.out 3
               have hfz41_4 := blk_frozen BK181.out 4
               have p185 : 0 ≤ (x3_2 : Int) := of_decide_eq_true (by first | (with_reducible assumption) | assumption)
               have q185 : x3_2 < (l0_3.length : Int) := of_decide_eq_true (by first | (with_reducible assumption) | assumption)
               obtain ⟨ad185, e185, hx185_0, hx185_1⟩ := at_T70 HR0_3.out x3_2 p185 q185
               cases e185
               replace hx185_0 := (HB.out.cell (World.block_lt_of_cell? w _ hx185_0)).trans hx185_0
               replace hx185_1 := (HB.out.cell (World.block_lt_of_cell? w _ hx185_1)).trans hx185_1
               replace p185 := eq_true p185
               replace q185 := eq_true q185
               try go_wp2_with (first | ((with_reducible refine gate_dst (N := 4) rfl ?_); refine box_event ?hg (N := 4) ?hd (cs := #[.int .i64 0, .int .i64 0]) (t := 70) ?hr ?_; (case hd => rfl); (case hg => rfl); (case hr => first | (go_simp; done) | (go_simp; rfl)); intro gb186 hg w42 hbox hb; have BK186 := Aside0.mk hbox; have GW186 := ge_ HB hg; have GE186 := ge_ HB hg; have NB181_186 := nl_ BK181 hg; have NB186_181 := ng_ BK181 hg; replace HB := Aside0.mk (bt_ HB hb); replace BK181 := Aside0.mk (bb_ BK181 hb); clear hb hbox hg; have hnb43 := NB186_181.out; have hnc43 := NB181_186.out; have hcz44_0 := cz_ BK186 0 (.int .i64 0); have hcz44_1 := cz_ BK186 1 (.int .i64 0); have hfz44_0 := blk_frozen BK186.out 0; have hfz44_1 := blk_frozen BK186.out 1))
               have n0_ : Aside0 (((w42.setCell ⟨gb186, 0, none⟩ (.int .i64 ((rd_T70 l0_3 x3_2).f0))).setCell ⟨gb186, 1, none⟩ (.int .i64 ((rd_T70 l0_3 x3_2).f1))).heap[gb181]? = some (.cells #[.int .i64 a0_0, .int .i64 a0_1, .int .i64 a0_2, .slice (some ad185) l0_3.length c0_3, .slice A0_4 l0_4.length c0_4] 31 (0, 0))) := ⟨by (with_reducible repeat (first | refine blk_drewN ?_ _ | refine blk_drew ?_ | refine blk_alloc ?_ _)); refine blk_far ?_ NB181_186.out _; (with_reducible repeat (first | refine blk_drewN ?_ _ | refine blk_drew ?_ | refine blk_alloc ?_ _)); refine blk_far ?_ NB181_186.out _; (with_reducible repeat (first | refine blk_drewN ?_ _ | refine blk_drew ?_ | refine blk_alloc ?_ _)); exact BK181.out⟩
               have n1_ : Aside0 (((w42.setCell ⟨gb186, 0, none⟩ (.int .i64 ((rd_T70 l0_3 x3_2).f0))).setCell ⟨gb186, 1, none⟩ (.int .i64 ((rd_T70 l0_3 x3_2).f1))).heap[gb186]? = some (.cells #[.int .i64 ((rd_T70 l0_3 x3_2).f0), .int .i64 ((rd_T70 l0_3 x3_2).f1)] 70 (0, 0))) := ⟨by (with_reducible repeat (first | refine blk_drewN ?_ _ | refine blk_drew ?_ | refine blk_alloc ?_ _)); refine blk_put (cs := #[.int .i64 ((rd_T70 l0_3 x3_2).f0), .int .i64 0]) ?_ 1 _ rfl; (with_reducible repeat (first | refine blk_drewN ?_ _ | refine blk_drew ?_ | refine blk_alloc ?_ _)); refine blk_put (cs := #[.int .i64 0, .int .i64 0]) ?_ 0 _ rfl; (with_reducible repeat (first | refine blk_drewN ?_ _ | refine blk_drew ?_ | refine blk_alloc ?_ _)); exact BK186.out⟩
               have n2_ : Aside0 (Below w.heap.size w ((w42.setCell ⟨gb186, 0, none⟩ (.int .i64 ((rd_T70 l0_3 x3_2).f0))).setCell ⟨gb186, 1, none⟩ (.int .i64 ((rd_T70 l0_3 x3_2).f1)))) := ⟨by repeat (first | (with_reducible first | exact HB.out | apply below_alloc | apply pw_below_drewN | apply below_drew1 | refine below_set ?_ GE181.out | refine below_set ?_ GE186.out) | exact HB.out)⟩
               (try clear BK181)
               (try clear BK186)
               (try clear HB)
               generalize ((w42.setCell ⟨gb186, 0, none⟩ (.int .i64 ((rd_T70 l0_3 x3_2).f0))).setCell ⟨gb186, 1, none⟩ (.int .i64 ((rd_T70 l0_3 x3_2).f1))) = w45 at n0_ n1_ n2_ ⊢
               have BK181 := n0_
               have BK186 := n1_
               have HB := n2_
               clear n0_ n1_ n2_
               replace BK181 := Aside0.mk (blk_drew BK181.out)
               replace BK186 := Aside0.mk (blk_drew BK186.out)
               replace HB := Aside0.mk (below_drew1 HB.out)
               have p189 : 0 ≤ ((ji31) : Int) := of_decide_eq_true (by first | (with_reducible assumption) | assumption)
               have q189 : (ji31) < (l0_3.length : Int) := of_decide_eq_true (by first | (with_reducible assumption) | assumption)
               obtain ⟨ad189, e189, hx189_0, hx189_1⟩ := at_T70 HR0_3.out (ji31) p189 q189
               have hw189_1 := hx189_1
               have hw189_0 := hx189_0
               obtain rfl : ad185 = ad189 := (by injection e189)
               replace hx189_0 := (HB.out.cell (World.block_lt_of_cell? w _ hx189_0)).trans hx189_0
               replace hx189_1 := (HB.out.cell (World.block_lt_of_cell? w _ hx189_1)).trans hx189_1
               replace p189 := eq_true p189
               replace q189 := eq_true q189
               refine start_ (n := 33) (S := fun w' => w'.cell? ⟨gb186, 0, none⟩ = some (.int .i64 ((rd_T70 l0_3 x3_2).f0)) ∧ w'.cell? ⟨gb186, 1, none⟩ = some (.int .i64 ((rd_T70 l0_3 x3_2).f1)) ∧ w'.cell? ⟨gb181, 0, none⟩ = some (.int .i64 a0_0) ∧ w'.cell? ⟨gb181, 1, none⟩ = some (.int .i64 a0_1) ∧ w'.cell? ⟨gb181, 2, none⟩ = some (.int .i64 a0_2) ∧ w'.cell? ⟨gb181, 3, none⟩ = some (.slice (some ad185) l0_3.length c0_3) ∧ w'.cell? ⟨gb181, 4, none⟩ = some (.slice A0_4 l0_4.length c0_4) ∧ w'.cell? (ad185.add (((ji31)).toNat * 2)) = some (.int .i64 ((rd_T70 l0_3 (ji31)).f0)) ∧ w'.cell? ⟨(ad185.add (((ji31)).toNat * 2)).block, (ad185.add (((ji31)).toNat * 2)).off + 1, none⟩ = some (.int .i64 ((rd_T70 l0_3 (ji31)).f1))) (ds := []) ba5_0 (by kernel_rfl) rfl rfl ⟨(blk_cell BK186.out 0).trans rfl, (blk_cell BK186.out 1).trans rfl, (blk_cell BK181.out 0).trans rfl, (blk_cell BK181.out 1).trans rfl, (blk_cell BK181.out 2).trans rfl, (blk_cell BK181.out 3).trans rfl, (blk_cell BK181.out 4).trans rfl, (hc_ HB hw189_0), (hc_ HB hw189_1)⟩ (fun hHeld => ?_); refine with_tabW spec_LsaOk.tab7 spec_LsaOk.bits7 (fun HT_ HW_ => ?_)
               generalize w45.drew = w46 at BK181 BK186 HB hx189_0 hx189_1 hHeld ⊢
               refine pz_ 0 47 ba5_1 HT_ ?_
               refine pt_ 1 48 ba5_2 HT_ HW_ hHeld ?_
               refine one_ (i := 2) (N := some 49) ba5_3 rfl rfl (one_of HT_.out (by kernel_rfl)) (by decide) (fun K hK => ?_)
               refine gz_ Try.func52 #[.int .i64 ((rd_T70 l0_3 x3_2).f0), .int .i64 0, .int .i64 9] ?_
               with_reducible refine (spec_l01In.calls ((rd_T70 l0_3 x3_2).f0) 0 9 true _ A19.out).mono ?_
               rintro e w' ⟨rfl, ⟨nd, rfl⟩⟩
               refine ⟨_, rfl, ?_⟩
               refine hK.out _ _ ⟨(blk_cell BK186.out 0).trans rfl, (blk_cell BK186.out 1).trans rfl, (blk_cell BK181.out 0).trans rfl, (blk_cell BK181.out 1).trans rfl, (blk_cell BK181.out 2).trans rfl, (blk_cell BK181.out 3).trans rfl, (blk_cell BK181.out 4).trans rfl, (hc_ HB hw189_0), (hc_ HB hw189_1)⟩ (fun hHeld => ?_)
               clear hK K
               refine nz_ 49 ?_
               refine pz_ 3 50 ba5_4 HT_ ?_
               refine pz_ 4 51 ba5_5 HT_ ?_
               refine pz_ 5 52 ba5_6 HT_ ?_
               refine pz_ 7 54 ba5_7 HT_ ?_
               refine pt_ 6 53 ba5_8 HT_ HW_ hHeld ?_
               refine pt_ 8 55 ba5_9 HT_ HW_ hHeld ?_
               refine pz_ 9 56 ba5_10 HT_ ?_
               refine pz_ 10 57 ba5_11 HT_ ?_
               refine pz_ 11 58 ba5_12 HT_ ?_
               refine pz_ 12 59 ba5_13 HT_ ?_
               refine pt_ 13 60 ba5_14 HT_ HW_ hHeld ?_
               refine one_ (i := 14) (N := some 61) ba5_15 rfl rfl (one_of HT_.out (by kernel_rfl)) (by decide) (fun K hK => ?_)
               refine gz_ Try.func52 #[.int .i64 ((rd_T70 l0_3 x3_2).f1), .int .i64 1, .int .i64 1000] ?_
               with_reducible refine (spec_l01In.calls ((rd_T70 l0_3 x3_2).f1) 1 1000 true _ A28.out).mono ?_
               rintro e w' ⟨rfl, ⟨nd, rfl⟩⟩
               refine ⟨_, rfl, ?_⟩
               refine hK.out _ _ ⟨(blk_cell BK186.out 0).trans rfl, (blk_cell BK186.out 1).trans rfl, (blk_cell BK181.out 0).trans rfl, (blk_cell BK181.out 1).trans rfl, (blk_cell BK181.out 2).trans rfl, (blk_cell BK181.out 3).trans rfl, (blk_cell BK181.out 4).trans rfl, (hc_ HB hw189_0), (hc_ HB hw189_1)⟩ (fun hHeld => ?_)
               clear hK K
               refine nz_ 61 ?_
               refine pz_ 15 62 ba5_16 HT_ ?_
               refine pz_ 16 63 ba5_17 HT_ ?_
               refine pz_ 17 64 ba5_18 HT_ ?_
               refine pz_ 18 65 ba5_19 HT_ ?_
               refine pz_ 19 66 ba5_20 HT_ ?_
               refine pz_ 20 67 ba5_21 HT_ ?_
               refine pz_ 21 68 ba5_22 HT_ ?_
               refine pz_ 23 70 ba5_34 HT_ ?_
               refine pz_ 24 71 ba5_35 HT_ ?_
               refine pz_ 28 75 ba5_36 HT_ ?_
               refine pt_ 22 69 ba5_37 HT_ HW_ hHeld ?_
               refine pz_ 25 72 ba5_38 HT_ ?_
               refine pz_ 26 73 ba5_39 HT_ ?_
               refine pt_ 27 74 ba5_29 HT_ HW_ hHeld ?_
               refine pt_ 29 76 ba5_30 HT_ HW_ hHeld ?_
               refine pz_ 30 77 ba5_31 HT_ ?_
               refine pz_ 31 78 ba5_32 HT_ ?_
               refine pz_ 32 79 ba5_33 HT_ ?_
               refine done_ (done_of HT_.out (by kernel_rfl)) ?_
               try go_wp2
               go_roundg k2
               case measure => have := HJ1.out; have := HK2.out; omega
               case rel => exact ⟨(wrap64 (x3_2 + 1)), (by first | rfl | (simp; done) | (simp [*]; done)), H', ⟨by have := HJ1.out; have := HK2.out; omega⟩, ⟨by (with_reducible repeat (first | refine blk_drewN ?_ _ | refine blk_drew ?_ | refine blk_alloc ?_ _)); exact BK181.out⟩, ⟨by repeat (first | (with_reducible first | exact HB.out | apply below_alloc | apply pw_below_drewN | apply below_drew1 | refine below_set ?_ GE181.out | refine below_set ?_ GE186.out) | exact HB.out)⟩⟩
             ·rw [if_neg c33] at H
              exact absurd H (by simp)
            ·rw [if_neg c32] at H
             exact absurd H (by simp)
           ·rw [if_neg c30] at H
            have c30b0 : decide (0 < x3_2) = false := decide_eq_false c30
            clear c30
            have H' := Aside0.mk H
            clear H
            have hcz47_0 := cz_ BK181 0 (.int .i64 a0_0)
            have hcz47_1 := cz_ BK181 1 (.int .i64 a0_1)
            have hcz47_2 := cz_ BK181 2 (.int .i64 a0_2)
            have hcz47_3 := cz_ BK181 3 (.slice A0_3 l0_3.length c0_3)
            have hcz47_4 := cz_ BK181 4 (.slice A0_4 l0_4.length c0_4)
            have hfz47_0 := blk_frozen BK181.out 0
            have hfz47_1 := blk_frozen BK181.out 1
            have hfz47_2 := blk_frozen BK181.out 2
            have hfz47_3 := blk_frozen BK181.out 3
            have hfz47_4 := blk_frozen BK181.out 4
            have p185 : 0 ≤ (x3_2 : Int) := of_decide_eq_true (by first | (with_reducible assumption) | assumption)
            have q185 : x3_2 < (l0_3.length : Int) := of_decide_eq_true (by first | (with_reducible assumption) | assumption)
            obtain ⟨ad185, e185, hx185_0, hx185_1⟩ := at_T70 HR0_3.out x3_2 p185 q185
            cases e185
            replace hx185_0 := (HB.out.cell (World.block_lt_of_cell? w _ hx185_0)).trans hx185_0
            replace hx185_1 := (HB.out.cell (World.block_lt_of_cell? w _ hx185_1)).trans hx185_1
            replace p185 := eq_true p185
            replace q185 := eq_true q185
            try go_wp2_with (first | ((with_reducible refine gate_dst (N := 4) rfl ?_); refine box_event ?hg (N := 4) ?hd (cs := #[.int .i64 0, .int .i64 0]) (t := 70) ?hr ?_; (case hd => rfl); (case hg => rfl); (case hr => first | (go_simp; done) | (go_simp; rfl)); intro gb186 hg w48 hbox hb; have BK186 := Aside0.mk hbox; have GW186 := ge_ HB hg; have GE186 := ge_ HB hg; have NB181_186 := nl_ BK181 hg; have NB186_181 := ng_ BK181 hg; replace HB := Aside0.mk (bt_ HB hb); replace BK181 := Aside0.mk (bb_ BK181 hb); clear hb hbox hg; have hnb49 := NB186_181.out; have hnc49 := NB181_186.out; have hcz50_0 := cz_ BK186 0 (.int .i64 0); have hcz50_1 := cz_ BK186 1 (.int .i64 0); have hfz50_0 := blk_frozen BK186.out 0; have hfz50_1 := blk_frozen BK186.out 1))
            have n0_ : Aside0 (((w48.setCell ⟨gb186, 0, none⟩ (.int .i64 ((rd_T70 l0_3 x3_2).f0))).setCell ⟨gb186, 1, none⟩ (.int .i64 ((rd_T70 l0_3 x3_2).f1))).heap[gb181]? = some (.cells #[.int .i64 a0_0, .int .i64 a0_1, .int .i64 a0_2, .slice (some ad185) l0_3.length c0_3, .slice A0_4 l0_4.length c0_4] 31 (0, 0))) := ⟨by (with_reducible repeat (first | refine blk_drewN ?_ _ | refine blk_drew ?_ | refine blk_alloc ?_ _)); refine blk_far ?_ NB181_186.out _; (with_reducible repeat (first | refine blk_drewN ?_ _ | refine blk_drew ?_ | refine blk_alloc ?_ _)); refine blk_far ?_ NB181_186.out _; (with_reducible repeat (first | refine blk_drewN ?_ _ | refine blk_drew ?_ | refine blk_alloc ?_ _)); exact BK181.out⟩
            have n1_ : Aside0 (((w48.setCell ⟨gb186, 0, none⟩ (.int .i64 ((rd_T70 l0_3 x3_2).f0))).setCell ⟨gb186, 1, none⟩ (.int .i64 ((rd_T70 l0_3 x3_2).f1))).heap[gb186]? = some (.cells #[.int .i64 ((rd_T70 l0_3 x3_2).f0), .int .i64 ((rd_T70 l0_3 x3_2).f1)] 70 (0, 0))) := ⟨by (with_reducible repeat (first | refine blk_drewN ?_ _ | refine blk_drew ?_ | refine blk_alloc ?_ _)); refine blk_put (cs := #[.int .i64 ((rd_T70 l0_3 x3_2).f0), .int .i64 0]) ?_ 1 _ rfl; (with_reducible repeat (first | refine blk_drewN ?_ _ | refine blk_drew ?_ | refine blk_alloc ?_ _)); refine blk_put (cs := #[.int .i64 0, .int .i64 0]) ?_ 0 _ rfl; (with_reducible repeat (first | refine blk_drewN ?_ _ | refine blk_drew ?_ | refine blk_alloc ?_ _)); exact BK186.out⟩
            have n2_ : Aside0 (Below w.heap.size w ((w48.setCell ⟨gb186, 0, none⟩ (.int .i64 ((rd_T70 l0_3 x3_2).f0))).setCell ⟨gb186, 1, none⟩ (.int .i64 ((rd_T70 l0_3 x3_2).f1)))) := ⟨by repeat (first | (with_reducible first | exact HB.out | apply below_alloc | apply pw_below_drewN | apply below_drew1 | refine below_set ?_ GE181.out | refine below_set ?_ GE186.out) | exact HB.out)⟩
            (try clear BK181)
            (try clear BK186)
            (try clear HB)
            generalize ((w48.setCell ⟨gb186, 0, none⟩ (.int .i64 ((rd_T70 l0_3 x3_2).f0))).setCell ⟨gb186, 1, none⟩ (.int .i64 ((rd_T70 l0_3 x3_2).f1))) = w51 at n0_ n1_ n2_ ⊢
            have BK181 := n0_
            have BK186 := n1_
            have HB := n2_
            clear n0_ n1_ n2_
            replace BK181 := Aside0.mk (blk_drew BK181.out)
            replace BK186 := Aside0.mk (blk_drew BK186.out)
            replace HB := Aside0.mk (below_drew1 HB.out)
            refine start_ (n := 33) (S := fun w' => w'.cell? ⟨gb186, 0, none⟩ = some (.int .i64 ((rd_T70 l0_3 x3_2).f0)) ∧ w'.cell? ⟨gb186, 1, none⟩ = some (.int .i64 ((rd_T70 l0_3 x3_2).f1)) ∧ w'.cell? ⟨gb181, 0, none⟩ = some (.int .i64 a0_0) ∧ w'.cell? ⟨gb181, 1, none⟩ = some (.int .i64 a0_1) ∧ w'.cell? ⟨gb181, 2, none⟩ = some (.int .i64 a0_2) ∧ w'.cell? ⟨gb181, 3, none⟩ = some (.slice (some ad185) l0_3.length c0_3) ∧ w'.cell? ⟨gb181, 4, none⟩ = some (.slice A0_4 l0_4.length c0_4)) (ds := []) ba5_0 (by kernel_rfl) rfl rfl ⟨(blk_cell BK186.out 0).trans rfl, (blk_cell BK186.out 1).trans rfl, (blk_cell BK181.out 0).trans rfl, (blk_cell BK181.out 1).trans rfl, (blk_cell BK181.out 2).trans rfl, (blk_cell BK181.out 3).trans rfl, (blk_cell BK181.out 4).trans rfl⟩ (fun hHeld => ?_); refine with_tabW spec_LsaOk.tab7 spec_LsaOk.bits7 (fun HT_ HW_ => ?_)
            generalize w51.drew = w52 at BK181 BK186 HB hHeld ⊢
            refine pz_ 0 47 ba5_1 HT_ ?_
            refine pt_ 1 48 ba5_2 HT_ HW_ hHeld ?_
            refine one_ (i := 2) (N := some 49) ba5_3 rfl rfl (one_of HT_.out (by kernel_rfl)) (by decide) (fun K hK => ?_)
            refine gz_ Try.func52 #[.int .i64 ((rd_T70 l0_3 x3_2).f0), .int .i64 0, .int .i64 9] ?_
            with_reducible refine (spec_l01In.calls ((rd_T70 l0_3 x3_2).f0) 0 9 true _ A19.out).mono ?_
            rintro e w' ⟨rfl, ⟨nd, rfl⟩⟩
            refine ⟨_, rfl, ?_⟩
            refine hK.out _ _ ⟨(blk_cell BK186.out 0).trans rfl, (blk_cell BK186.out 1).trans rfl, (blk_cell BK181.out 0).trans rfl, (blk_cell BK181.out 1).trans rfl, (blk_cell BK181.out 2).trans rfl, (blk_cell BK181.out 3).trans rfl, (blk_cell BK181.out 4).trans rfl⟩ (fun hHeld => ?_)
            clear hK K
            refine nz_ 49 ?_
            refine pz_ 3 50 ba5_4 HT_ ?_
            refine pz_ 4 51 ba5_5 HT_ ?_
            refine pz_ 5 52 ba5_6 HT_ ?_
            refine pz_ 7 54 ba5_7 HT_ ?_
            refine pt_ 6 53 ba5_8 HT_ HW_ hHeld ?_
            refine pt_ 8 55 ba5_9 HT_ HW_ hHeld ?_
            refine pz_ 9 56 ba5_10 HT_ ?_
            refine pz_ 10 57 ba5_11 HT_ ?_
            refine pz_ 11 58 ba5_12 HT_ ?_
            refine pz_ 12 59 ba5_13 HT_ ?_
            refine pt_ 13 60 ba5_14 HT_ HW_ hHeld ?_
            refine one_ (i := 14) (N := some 61) ba5_15 rfl rfl (one_of HT_.out (by kernel_rfl)) (by decide) (fun K hK => ?_)
            refine gz_ Try.func52 #[.int .i64 ((rd_T70 l0_3 x3_2).f1), .int .i64 1, .int .i64 1000] ?_
            with_reducible refine (spec_l01In.calls ((rd_T70 l0_3 x3_2).f1) 1 1000 true _ A28.out).mono ?_
            rintro e w' ⟨rfl, ⟨nd, rfl⟩⟩
            refine ⟨_, rfl, ?_⟩
            refine hK.out _ _ ⟨(blk_cell BK186.out 0).trans rfl, (blk_cell BK186.out 1).trans rfl, (blk_cell BK181.out 0).trans rfl, (blk_cell BK181.out 1).trans rfl, (blk_cell BK181.out 2).trans rfl, (blk_cell BK181.out 3).trans rfl, (blk_cell BK181.out 4).trans rfl⟩ (fun hHeld => ?_)
            clear hK K
            refine nz_ 61 ?_
            refine pz_ 15 62 ba5_16 HT_ ?_
            refine pz_ 16 63 ba5_17 HT_ ?_
            refine pz_ 17 64 ba5_18 HT_ ?_
            refine pz_ 18 65 ba5_19 HT_ ?_
            refine pz_ 19 66 ba5_20 HT_ ?_
            refine pz_ 20 67 ba5_21 HT_ ?_
            refine pu_ 21 68 ba5_22 HT_ ?_
            refine pu_ 22 69 ba5_23 HT_ ?_
            refine pu_ 23 70 ba5_24 HT_ ?_
            refine pu_ 24 71 ba5_25 HT_ ?_
            refine pu_ 25 72 ba5_26 HT_ ?_
            refine pu_ 26 73 ba5_27 HT_ ?_
            refine pu_ 27 74 ba5_28 HT_ ?_
            refine pu_ 28 75 ba5_29 HT_ ?_
            refine pu_ 29 76 ba5_30 HT_ ?_
            refine pu_ 30 77 ba5_31 HT_ ?_
            refine pz_ 31 78 ba5_32 HT_ ?_
            refine pz_ 32 79 ba5_33 HT_ ?_
            refine done_ (done_of HT_.out (by kernel_rfl)) ?_
            try go_wp2
            go_roundg k2
            case measure => have := HJ1.out; have := HK2.out; omega
            case rel => exact ⟨(wrap64 (x3_2 + 1)), (by first | rfl | (simp; done) | (simp [*]; done)), H', ⟨by have := HJ1.out; have := HK2.out; omega⟩, ⟨by (with_reducible repeat (first | refine blk_drewN ?_ _ | refine blk_drew ?_ | refine blk_alloc ?_ _)); exact BK181.out⟩, ⟨by repeat (first | (with_reducible first | exact HB.out | apply below_alloc | apply pw_below_drewN | apply below_drew1 | refine below_set ?_ GE181.out | refine below_set ?_ GE186.out) | exact HB.out)⟩⟩
          ·replace c29 := Bool.eq_false_iff.mpr c29
           subst c29
           rw [if_neg (show ¬ (false = true) by decide)] at H
           obtain rfl := Option.some.inj H
           have hcz53_0 := cz_ BK181 0 (.int .i64 a0_0)
           have hcz53_1 := cz_ BK181 1 (.int .i64 a0_1)
           have hcz53_2 := cz_ BK181 2 (.int .i64 a0_2)
           have hcz53_3 := cz_ BK181 3 (.slice A0_3 l0_3.length c0_3)
           have hcz53_4 := cz_ BK181 4 (.slice A0_4 l0_4.length c0_4)
           have hfz53_0 := blk_frozen BK181.out 0
           have hfz53_1 := blk_frozen BK181.out 1
           have hfz53_2 := blk_frozen BK181.out 2
           have hfz53_3 := blk_frozen BK181.out 3
           have hfz53_4 := blk_frozen BK181.out 4
           have p185 : 0 ≤ (x3_2 : Int) := of_decide_eq_true (by first | (with_reducible assumption) | assumption)
           have q185 : x3_2 < (l0_3.length : Int) := of_decide_eq_true (by first | (with_reducible assumption) | assumption)
           obtain ⟨ad185, e185, hx185_0, hx185_1⟩ := at_T70 HR0_3.out x3_2 p185 q185
           cases e185
           replace hx185_0 := (HB.out.cell (World.block_lt_of_cell? w _ hx185_0)).trans hx185_0
           replace hx185_1 := (HB.out.cell (World.block_lt_of_cell? w _ hx185_1)).trans hx185_1
           replace p185 := eq_true p185
           replace q185 := eq_true q185
           try go_wp2_with (first | ((with_reducible refine gate_dst (N := 4) rfl ?_); refine box_event ?hg (N := 4) ?hd (cs := #[.int .i64 0, .int .i64 0]) (t := 70) ?hr ?_; (case hd => rfl); (case hg => rfl); (case hr => first | (go_simp; done) | (go_simp; rfl)); intro gb186 hg w54 hbox hb; have BK186 := Aside0.mk hbox; have GW186 := ge_ HB hg; have GE186 := ge_ HB hg; have NB181_186 := nl_ BK181 hg; have NB186_181 := ng_ BK181 hg; replace HB := Aside0.mk (bt_ HB hb); replace BK181 := Aside0.mk (bb_ BK181 hb); clear hb hbox hg; have hnb55 := NB186_181.out; have hnc55 := NB181_186.out; have hcz56_0 := cz_ BK186 0 (.int .i64 0); have hcz56_1 := cz_ BK186 1 (.int .i64 0); have hfz56_0 := blk_frozen BK186.out 0; have hfz56_1 := blk_frozen BK186.out 1))
           have n0_ : Aside0 (((w54.setCell ⟨gb186, 0, none⟩ (.int .i64 ((rd_T70 l0_3 x3_2).f0))).setCell ⟨gb186, 1, none⟩ (.int .i64 ((rd_T70 l0_3 x3_2).f1))).heap[gb181]? = some (.cells #[.int .i64 a0_0, .int .i64 a0_1, .int .i64 a0_2, .slice (some ad185) l0_3.length c0_3, .slice A0_4 l0_4.length c0_4] 31 (0, 0))) := ⟨by (with_reducible repeat (first | refine blk_drewN ?_ _ | refine blk_drew ?_ | refine blk_alloc ?_ _)); refine blk_far ?_ NB181_186.out _; (with_reducible repeat (first | refine blk_drewN ?_ _ | refine blk_drew ?_ | refine blk_alloc ?_ _)); refine blk_far ?_ NB181_186.out _; (with_reducible repeat (first | refine blk_drewN ?_ _ | refine blk_drew ?_ | refine blk_alloc ?_ _)); exact BK181.out⟩
           have n1_ : Aside0 (((w54.setCell ⟨gb186, 0, none⟩ (.int .i64 ((rd_T70 l0_3 x3_2).f0))).setCell ⟨gb186, 1, none⟩ (.int .i64 ((rd_T70 l0_3 x3_2).f1))).heap[gb186]? = some (.cells #[.int .i64 ((rd_T70 l0_3 x3_2).f0), .int .i64 ((rd_T70 l0_3 x3_2).f1)] 70 (0, 0))) := ⟨by (with_reducible repeat (first | refine blk_drewN ?_ _ | refine blk_drew ?_ | refine blk_alloc ?_ _)); refine blk_put (cs := #[.int .i64 ((rd_T70 l0_3 x3_2).f0), .int .i64 0]) ?_ 1 _ rfl; (with_reducible repeat (first | refine blk_drewN ?_ _ | refine blk_drew ?_ | refine blk_alloc ?_ _)); refine blk_put (cs := #[.int .i64 0, .int .i64 0]) ?_ 0 _ rfl; (with_reducible repeat (first | refine blk_drewN ?_ _ | refine blk_drew ?_ | refine blk_alloc ?_ _)); exact BK186.out⟩
           have n2_ : Aside0 (Below w.heap.size w ((w54.setCell ⟨gb186, 0, none⟩ (.int .i64 ((rd_T70 l0_3 x3_2).f0))).setCell ⟨gb186, 1, none⟩ (.int .i64 ((rd_T70 l0_3 x3_2).f1)))) := ⟨by repeat (first | (with_reducible first | exact HB.out | apply below_alloc | apply pw_below_drewN | apply below_drew1 | refine below_set ?_ GE181.out | refine below_set ?_ GE186.out) | exact HB.out)⟩
           (try clear BK181)
           (try clear BK186)
           (try clear HB)
           generalize ((w54.setCell ⟨gb186, 0, none⟩ (.int .i64 ((rd_T70 l0_3 x3_2).f0))).setCell ⟨gb186, 1, none⟩ (.int .i64 ((rd_T70 l0_3 x3_2).f1))) = w57 at n0_ n1_ n2_ ⊢
           have BK181 := n0_
           have BK186 := n1_
           have HB := n2_
           clear n0_ n1_ n2_
           replace BK181 := Aside0.mk (blk_drew BK181.out)
           replace BK186 := Aside0.mk (blk_drew BK186.out)
           replace HB := Aside0.mk (below_drew1 HB.out)
           refine start_ (n := 33) (S := fun w' => w'.cell? ⟨gb186, 0, none⟩ = some (.int .i64 ((rd_T70 l0_3 x3_2).f0)) ∧ w'.cell? ⟨gb186, 1, none⟩ = some (.int .i64 ((rd_T70 l0_3 x3_2).f1)) ∧ w'.cell? ⟨gb181, 0, none⟩ = some (.int .i64 a0_0) ∧ w'.cell? ⟨gb181, 1, none⟩ = some (.int .i64 a0_1) ∧ w'.cell? ⟨gb181, 2, none⟩ = some (.int .i64 a0_2) ∧ w'.cell? ⟨gb181, 3, none⟩ = some (.slice (some ad185) l0_3.length c0_3) ∧ w'.cell? ⟨gb181, 4, none⟩ = some (.slice A0_4 l0_4.length c0_4)) (ds := []) ba5_0 (by kernel_rfl) rfl rfl ⟨(blk_cell BK186.out 0).trans rfl, (blk_cell BK186.out 1).trans rfl, (blk_cell BK181.out 0).trans rfl, (blk_cell BK181.out 1).trans rfl, (blk_cell BK181.out 2).trans rfl, (blk_cell BK181.out 3).trans rfl, (blk_cell BK181.out 4).trans rfl⟩ (fun hHeld => ?_); refine with_tabW spec_LsaOk.tab7 spec_LsaOk.bits7 (fun HT_ HW_ => ?_)
           generalize w57.drew = w58 at BK181 BK186 HB hHeld ⊢
           refine pz_ 0 47 ba5_1 HT_ ?_
           refine pt_ 1 48 ba5_2 HT_ HW_ hHeld ?_
           refine one_ (i := 2) (N := some 49) ba5_3 rfl rfl (one_of HT_.out (by kernel_rfl)) (by decide) (fun K hK => ?_)
           refine gz_ Try.func52 #[.int .i64 ((rd_T70 l0_3 x3_2).f0), .int .i64 0, .int .i64 9] ?_
           with_reducible refine (spec_l01In.calls ((rd_T70 l0_3 x3_2).f0) 0 9 true _ A19.out).mono ?_
           rintro e w' ⟨rfl, ⟨nd, rfl⟩⟩
           refine ⟨_, rfl, ?_⟩
           refine hK.out _ _ ⟨(blk_cell BK186.out 0).trans rfl, (blk_cell BK186.out 1).trans rfl, (blk_cell BK181.out 0).trans rfl, (blk_cell BK181.out 1).trans rfl, (blk_cell BK181.out 2).trans rfl, (blk_cell BK181.out 3).trans rfl, (blk_cell BK181.out 4).trans rfl⟩ (fun hHeld => ?_)
           clear hK K
           refine nz_ 49 ?_
           refine pz_ 3 50 ba5_4 HT_ ?_
           refine pz_ 4 51 ba5_5 HT_ ?_
           refine pz_ 5 52 ba5_6 HT_ ?_
           refine pz_ 7 54 ba5_7 HT_ ?_
           refine pt_ 6 53 ba5_8 HT_ HW_ hHeld ?_
           refine pt_ 8 55 ba5_9 HT_ HW_ hHeld ?_
           refine pz_ 9 56 ba5_10 HT_ ?_
           refine pz_ 10 57 ba5_11 HT_ ?_
           refine pz_ 11 58 ba5_12 HT_ ?_
           refine pz_ 12 59 ba5_13 HT_ ?_
           refine pt_ 13 60 ba5_14 HT_ HW_ hHeld ?_
           refine one_ (i := 14) (N := some 61) ba5_15 rfl rfl (one_of HT_.out (by kernel_rfl)) (by decide) (fun K hK => ?_)
           refine gz_ Try.func52 #[.int .i64 ((rd_T70 l0_3 x3_2).f1), .int .i64 1, .int .i64 1000] ?_
           with_reducible refine (spec_l01In.calls ((rd_T70 l0_3 x3_2).f1) 1 1000 false _ A28.out).mono ?_
           rintro e w' ⟨rfl, ⟨nd, rfl⟩⟩
           refine ⟨_, rfl, ?_⟩
           refine hK.out _ _ ⟨(blk_cell BK186.out 0).trans rfl, (blk_cell BK186.out 1).trans rfl, (blk_cell BK181.out 0).trans rfl, (blk_cell BK181.out 1).trans rfl, (blk_cell BK181.out 2).trans rfl, (blk_cell BK181.out 3).trans rfl, (blk_cell BK181.out 4).trans rfl⟩ (fun hHeld => ?_)
           clear hK K
           refine nz_ 61 ?_
           refine pz_ 15 62 ba5_16 HT_ ?_
           refine pz_ 16 63 ba5_17 HT_ ?_
           refine pz_ 17 64 ba5_18 HT_ ?_
           refine pu_ 18 65 ba5_19 HT_ ?_
           refine pu_ 19 66 ba5_20 HT_ ?_
           refine pu_ 20 67 ba5_21 HT_ ?_
           refine pu_ 21 68 ba5_22 HT_ ?_
           refine pu_ 22 69 ba5_23 HT_ ?_
           refine pu_ 23 70 ba5_24 HT_ ?_
           refine pu_ 24 71 ba5_25 HT_ ?_
           refine pu_ 25 72 ba5_26 HT_ ?_
           refine pu_ 26 73 ba5_27 HT_ ?_
           refine pu_ 27 74 ba5_28 HT_ ?_
           refine pu_ 28 75 ba5_29 HT_ ?_
           refine pu_ 29 76 ba5_30 HT_ ?_
           refine pu_ 30 77 ba5_31 HT_ ?_
           refine pu_ 31 78 ba5_32 HT_ ?_
           refine pz_ 32 79 ba5_33 HT_ ?_
           refine done_ (done_of HT_.out (by kernel_rfl)) ?_
           try go_wp2
           go_ret
           exact ⟨by first | rfl | (simp [errW_none, errW_some] <;> rfl) | (simp [*, errW_none, errW_some] <;> rfl), by repeat (first | (with_reducible first | exact HB.out | apply below_alloc | apply pw_below_drewN | apply below_drew1 | refine below_set ?_ GE181.out | refine below_set ?_ GE186.out) | exact HB.out)⟩
        ·replace c20 := Bool.eq_false_iff.mpr c20
         subst c20
         rw [if_neg (show ¬ (false = true) by decide)] at H
         obtain rfl := Option.some.inj H
         have hcz59_0 := cz_ BK181 0 (.int .i64 a0_0)
         have hcz59_1 := cz_ BK181 1 (.int .i64 a0_1)
         have hcz59_2 := cz_ BK181 2 (.int .i64 a0_2)
         have hcz59_3 := cz_ BK181 3 (.slice A0_3 l0_3.length c0_3)
         have hcz59_4 := cz_ BK181 4 (.slice A0_4 l0_4.length c0_4)
         have hfz59_0 := blk_frozen BK181.out 0
         have hfz59_1 := blk_frozen BK181.out 1
         have hfz59_2 := blk_frozen BK181.out 2
         have hfz59_3 := blk_frozen BK181.out 3
         have hfz59_4 := blk_frozen BK181.out 4
         have p185 : 0 ≤ (x3_2 : Int) := of_decide_eq_true (by first | (with_reducible assumption) | assumption)
         have q185 : x3_2 < (l0_3.length : Int) := of_decide_eq_true (by first | (with_reducible assumption) | assumption)
         obtain ⟨ad185, e185, hx185_0, hx185_1⟩ := at_T70 HR0_3.out x3_2 p185 q185
         cases e185
         replace hx185_0 := (HB.out.cell (World.block_lt_of_cell? w _ hx185_0)).trans hx185_0
         replace hx185_1 := (HB.out.cell (World.block_lt_of_cell? w _ hx185_1)).trans hx185_1
         replace p185 := eq_true p185
         replace q185 := eq_true q185
         try go_wp2_with (first | ((with_reducible refine gate_dst (N := 4) rfl ?_); refine box_event ?hg (N := 4) ?hd (cs := #[.int .i64 0, .int .i64 0]) (t := 70) ?hr ?_; (case hd => rfl); (case hg => rfl); (case hr => first | (go_simp; done) | (go_simp; rfl)); intro gb186 hg w60 hbox hb; have BK186 := Aside0.mk hbox; have GW186 := ge_ HB hg; have GE186 := ge_ HB hg; have NB181_186 := nl_ BK181 hg; have NB186_181 := ng_ BK181 hg; replace HB := Aside0.mk (bt_ HB hb); replace BK181 := Aside0.mk (bb_ BK181 hb); clear hb hbox hg; have hnb61 := NB186_181.out; have hnc61 := NB181_186.out; have hcz62_0 := cz_ BK186 0 (.int .i64 0); have hcz62_1 := cz_ BK186 1 (.int .i64 0); have hfz62_0 := blk_frozen BK186.out 0; have hfz62_1 := blk_frozen BK186.out 1))
         have n0_ : Aside0 (((w60.setCell ⟨gb186, 0, none⟩ (.int .i64 ((rd_T70 l0_3 x3_2).f0))).setCell ⟨gb186, 1, none⟩ (.int .i64 ((rd_T70 l0_3 x3_2).f1))).heap[gb181]? = some (.cells #[.int .i64 a0_0, .int .i64 a0_1, .int .i64 a0_2, .slice (some ad185) l0_3.length c0_3, .slice A0_4 l0_4.length c0_4] 31 (0, 0))) := ⟨by (with_reducible repeat (first | refine blk_drewN ?_ _ | refine blk_drew ?_ | refine blk_alloc ?_ _)); refine blk_far ?_ NB181_186.out _; (with_reducible repeat (first | refine blk_drewN ?_ _ | refine blk_drew ?_ | refine blk_alloc ?_ _)); refine blk_far ?_ NB181_186.out _; (with_reducible repeat (first | refine blk_drewN ?_ _ | refine blk_drew ?_ | refine blk_alloc ?_ _)); exact BK181.out⟩
         have n1_ : Aside0 (((w60.setCell ⟨gb186, 0, none⟩ (.int .i64 ((rd_T70 l0_3 x3_2).f0))).setCell ⟨gb186, 1, none⟩ (.int .i64 ((rd_T70 l0_3 x3_2).f1))).heap[gb186]? = some (.cells #[.int .i64 ((rd_T70 l0_3 x3_2).f0), .int .i64 ((rd_T70 l0_3 x3_2).f1)] 70 (0, 0))) := ⟨by (with_reducible repeat (first | refine blk_drewN ?_ _ | refine blk_drew ?_ | refine blk_alloc ?_ _)); refine blk_put (cs := #[.int .i64 ((rd_T70 l0_3 x3_2).f0), .int .i64 0]) ?_ 1 _ rfl; (with_reducible repeat (first | refine blk_drewN ?_ _ | refine blk_drew ?_ | refine blk_alloc ?_ _)); refine blk_put (cs := #[.int .i64 0, .int .i64 0]) ?_ 0 _ rfl; (with_reducible repeat (first | refine blk_drewN ?_ _ | refine blk_drew ?_ | refine blk_alloc ?_ _)); exact BK186.out⟩
         have n2_ : Aside0 (Below w.heap.size w ((w60.setCell ⟨gb186, 0, none⟩ (.int .i64 ((rd_T70 l0_3 x3_2).f0))).setCell ⟨gb186, 1, none⟩ (.int .i64 ((rd_T70 l0_3 x3_2).f1)))) := ⟨by repeat (first | (with_reducible first | exact HB.out | apply below_alloc | apply pw_below_drewN | apply below_drew1 | refine below_set ?_ GE181.out | refine below_set ?_ GE186.out) | exact HB.out)⟩
         (try clear BK181)
         (try clear BK186)
         (try clear HB)
         generalize ((w60.setCell ⟨gb186, 0, none⟩ (.int .i64 ((rd_T70 l0_3 x3_2).f0))).setCell ⟨gb186, 1, none⟩ (.int .i64 ((rd_T70 l0_3 x3_2).f1))) = w63 at n0_ n1_ n2_ ⊢
         have BK181 := n0_
         have BK186 := n1_
         have HB := n2_
         clear n0_ n1_ n2_
         replace BK181 := Aside0.mk (blk_drew BK181.out)
         replace BK186 := Aside0.mk (blk_drew BK186.out)
         replace HB := Aside0.mk (below_drew1 HB.out)
         refine start_ (n := 33) (S := fun w' => w'.cell? ⟨gb186, 0, none⟩ = some (.int .i64 ((rd_T70 l0_3 x3_2).f0)) ∧ w'.cell? ⟨gb186, 1, none⟩ = some (.int .i64 ((rd_T70 l0_3 x3_2).f1))) (ds := []) ba5_0 (by kernel_rfl) rfl rfl ⟨(blk_cell BK186.out 0).trans rfl, (blk_cell BK186.out 1).trans rfl⟩ (fun hHeld => ?_); refine with_tabW spec_LsaOk.tab7 spec_LsaOk.bits7 (fun HT_ HW_ => ?_)
         generalize w63.drew = w64 at BK181 BK186 HB hHeld ⊢
         refine pz_ 0 47 ba5_1 HT_ ?_
         refine pt_ 1 48 ba5_2 HT_ HW_ hHeld ?_
         refine one_ (i := 2) (N := some 49) ba5_3 rfl rfl (one_of HT_.out (by kernel_rfl)) (by decide) (fun K hK => ?_)
         refine gz_ Try.func52 #[.int .i64 ((rd_T70 l0_3 x3_2).f0), .int .i64 0, .int .i64 9] ?_
         with_reducible refine (spec_l01In.calls ((rd_T70 l0_3 x3_2).f0) 0 9 false _ A19.out).mono ?_
         rintro e w' ⟨rfl, ⟨nd, rfl⟩⟩
         refine ⟨_, rfl, ?_⟩
         refine hK.out _ _ ⟨(blk_cell BK186.out 0).trans rfl, (blk_cell BK186.out 1).trans rfl⟩ (fun hHeld => ?_)
         clear hK K
         refine nz_ 49 ?_
         refine pz_ 3 50 ba5_4 HT_ ?_
         refine pz_ 4 51 ba5_5 HT_ ?_
         refine pu_ 5 52 ba5_6 HT_ ?_
         refine pu_ 6 53 ba5_40 HT_ ?_
         refine pu_ 7 54 ba5_8 HT_ ?_
         refine pu_ 8 55 ba5_9 HT_ ?_
         refine pu_ 9 56 ba5_10 HT_ ?_
         refine pz_ 10 57 ba5_11 HT_ ?_
         refine pz_ 11 58 ba5_12 HT_ ?_
         refine pu_ 12 59 ba5_13 HT_ ?_
         refine pu_ 13 60 ba5_14 HT_ ?_
         refine pu_ 14 61 ba5_15 HT_ ?_
         refine pu_ 15 62 ba5_16 HT_ ?_
         refine pz_ 16 63 ba5_17 HT_ ?_
         refine pz_ 17 64 ba5_18 HT_ ?_
         refine pu_ 18 65 ba5_19 HT_ ?_
         refine pu_ 19 66 ba5_20 HT_ ?_
         refine pu_ 20 67 ba5_21 HT_ ?_
         refine pu_ 21 68 ba5_22 HT_ ?_
         refine pu_ 22 69 ba5_23 HT_ ?_
         refine pu_ 23 70 ba5_24 HT_ ?_
         refine pu_ 24 71 ba5_25 HT_ ?_
         refine pu_ 25 72 ba5_26 HT_ ?_
         refine pu_ 26 73 ba5_27 HT_ ?_
         refine pu_ 27 74 ba5_28 HT_ ?_
         refine pu_ 28 75 ba5_29 HT_ ?_
         refine pu_ 29 76 ba5_30 HT_ ?_
         refine pu_ 30 77 ba5_31 HT_ ?_
         refine pu_ 31 78 ba5_32 HT_ ?_
         refine pz_ 32 79 ba5_33 HT_ ?_
         refine done_ (done_of HT_.out (by kernel_rfl)) ?_
         try go_wp2
         go_ret
         exact ⟨by first | rfl | (simp [errW_none, errW_some] <;> rfl) | (simp [*, errW_none, errW_some] <;> rfl), by repeat (first | (with_reducible first | exact HB.out | apply below_alloc | apply pw_below_drewN | apply below_drew1 | refine below_set ?_ GE181.out | refine below_set ?_ GE186.out) | exact HB.out)⟩
       ·rw [if_neg c18] at H
        exact absurd H (by simp)
      ·rw [if_neg c17] at H
       have c17b0 : decide (x3_2 < (l0_3.length : Int)) = false := decide_eq_false c17
       clear c17
       have H' := Aside0.mk H
       clear H
       have hcz65_0 := cz_ BK181 0 (.int .i64 a0_0)
       have hcz65_1 := cz_ BK181 1 (.int .i64 a0_1)
       have hcz65_2 := cz_ BK181 2 (.int .i64 a0_2)
       have hcz65_3 := cz_ BK181 3 (.slice A0_3 l0_3.length c0_3)
       have hcz65_4 := cz_ BK181 4 (.slice A0_4 l0_4.length c0_4)
       have hfz65_0 := blk_frozen BK181.out 0
       have hfz65_1 := blk_frozen BK181.out 1
       have hfz65_2 := blk_frozen BK181.out 2
       have hfz65_3 := blk_frozen BK181.out 3
       have hfz65_4 := blk_frozen BK181.out 4
       go_wp2
       go_loopg [5] k2 (fun kq v5 w' => ∃ (x5_3 : Int), v5 = .int .i64 x5_3 ∧ Aside0 (spec_LsaOk.l1 kq x5_3 a0_0 a0_1 a0_2 l0_3 l0_4 = some r) ∧ Aside0 (kq ≤ k2) ∧ Aside0 (w'.heap[gb181]? = some (.cells #[.int .i64 a0_0, .int .i64 a0_1, .int .i64 a0_2, (.slice A0_3 l0_3.length c0_3), (.slice A0_4 l0_4.length c0_4)] 31 (0, 0))) ∧ Aside0 (Below w.heap.size w w'))
       case atStart => exact ⟨(0), (by first | rfl | (simp; done) | (simp [*]; done)), H', ⟨Nat.le_refl _⟩, ⟨by (with_reducible repeat (first | refine blk_drewN ?_ _ | refine blk_drew ?_ | refine blk_alloc ?_ _)); exact BK181.out⟩, ⟨by repeat (first | (with_reducible first | exact HB.out | apply below_alloc | apply pw_below_drewN | apply below_drew1 | refine below_set ?_ GE181.out) | exact HB.out)⟩⟩
       case round =>
        clear H'
        try clear c1
        try clear p1
        try clear q1
        try clear hx1
        try clear c2
        try clear p2
        try clear c5
        try clear c6
        try clear p6
        try clear c17
        try clear c17b0
        try clear c18
        try clear p18
        try clear q18
        try clear hx18
        try clear c20
        try clear c29
        try clear c52
        try clear c55
        try clear c61
        try clear p64
        try clear hcz53_0
        try clear hcz53_1
        try clear hcz53_2
        try clear hcz53_3
        try clear hcz53_4
        try clear hcz56_0
        try clear hcz56_1
        try clear hcz59_0
        try clear hcz59_1
        try clear hcz59_2
        try clear hcz59_3
        try clear hcz59_4
        try clear hcz62_0
        try clear hcz62_1
        try clear hcz65_0
        try clear hcz65_1
        try clear hcz65_2
        try clear hcz65_3
        try clear hcz65_4
        try clear hfz53_0
        try clear hfz53_1
        try clear hfz53_2
        try clear hfz53_3
        try clear hfz53_4
        try clear hfz56_0
        try clear hfz56_1
        try clear hfz59_0
        try clear hfz59_1
        try clear hfz59_2
        try clear hfz59_3
        try clear hfz59_4
        try clear hfz62_0
        try clear hfz62_1
        try clear hfz65_0
        try clear hfz65_1
        try clear hfz65_2
        try clear hfz65_3
        try clear hfz65_4
        try clear hx185_0
        try clear hx185_1
        try clear p185
        try clear q185
        obtain ⟨x5_3, rfl, HA, HK3, BK181, HB⟩ := hrel
        cases gk with
        | zero => exact absurd HA.out (by simp [spec_LsaOk.l1])
        | succ k3 =>
         have H := HA.out
         clear HA
         simp only [spec_LsaOk.l1] at H
         by_cases c66 : x5_3 < (l0_4.length : Int)
         ·rw [if_pos c66] at H
          have c66b0 : decide (x5_3 < (l0_4.length : Int)) = true := decide_eq_true c66
          clear c66
          by_cases c67 : 0 ≤ x5_3
          ·rw [if_pos c67] at H
           have c67b0 : decide (0 ≤ x5_3) = true := decide_eq_true c67
           clear c67
           replace H := Option.bind_eq_some_iff.mp H
           obtain ⟨t192, A680, H⟩ := H
           have A68 := Aside0.mk A680
           clear A680
           by_cases c69 : t192 = true
           ·subst c69
            rw [if_pos rfl] at H
            replace H := Option.bind_eq_some_iff.mp H
            obtain ⟨t193, A700, H⟩ := H
            have A70 := Aside0.mk A700
            clear A700
            by_cases c71 : t193 = true
            ·subst c71
             rw [if_pos rfl] at H
             by_cases c72 : x5_3 > 0
             ·rw [if_pos c72] at H
              have c72b0 : decide (0 < x5_3) = true := decide_eq_true c72
              clear c72
              obtain ⟨ji73, hji73⟩ : ∃ j_ : Int, (wrap64 (x5_3 - 1)) = j_ := ⟨_, rfl⟩
              first | rw [hji73] at H | simp only [hji73] at H
              (try rw [hji73] at A68)
              (try rw [hji73] at A70)
              have hji73w : (IntKind.i64.wrap (x5_3 - 1)) = ji73 := (i64_w _).trans hji73
              by_cases c74 : 0 ≤ (ji73)
              ·rw [if_pos c74] at H
               have c74b0 : decide (0 ≤ (ji73)) = true := decide_eq_true c74
               clear c74
               by_cases c75 : (ji73) < (l0_4.length : Int)
               ·rw [if_pos c75] at H
                have c75b0 : decide ((ji73) < (l0_4.length : Int)) = true := decide_eq_true c75
                clear c75
                replace H := Option.bind_eq_some_iff.mp H
                obtain ⟨t195, A760, H⟩ := H
                have A76 := Aside0.mk A760
                clear A760
                by_cases c77 : t195 = true
                ·subst c77
                 rw [if_pos rfl] at H
                 have H' := Aside0.mk H
                 clear H
                 have hcz78_0 := cz_ BK181 0 (.int .i64 a0_0)
                 have hcz78_1 := cz_ BK181 1 (.int .i64 a0_1)
                 have hcz78_2 := cz_ BK181 2 (.int .i64 a0_2)
                 have hcz78_3 := cz_ BK181 3 (.slice A0_3 l0_3.length c0_3)
                 have hcz78_4 := cz_ BK181 4 (.slice A0_4 l0_4.length c0_4)
                 have hfz78_0 := blk_frozen BK181.out 0
                 have hfz78_1 := blk_frozen BK181.out 1
                 have hfz78_2 := blk_frozen BK181.out 2
                 have hfz78_3 := blk_frozen BK181.out 3
                 have hfz78_4 := blk_frozen BK181.out 4
                 have p190 : 0 ≤ (x5_3 : Int) := of_decide_eq_true (by first | (with_reducible assumption) | assumption)
                 have q190 : x5_3 < (l0_4.length : Int) := of_decide_eq_true (by first | (with_reducible assumption) | assumption)
                 obtain ⟨ad190, e190, hx190_0, hx190_1, hx190_2⟩ := at_T74 HR0_4.out x5_3 p190 q190
                 cases e190
                 replace hx190_0 := (HB.out.cell (World.block_lt_of_cell? w _ hx190_0)).trans hx190_0
                 replace hx190_1 := (HB.out.cell (World.block_lt_of_cell? w _ hx190_1)).trans hx190_1
                 replace hx190_2 := (HB.out.cell (World.block_lt_of_cell? w _ hx190_2)).trans hx190_2
                 replace p190 := eq_true p190
                 replace q190 := eq_true q190
                 try go_wp2_with (first | ((with_reducible refine gate_dst (N := 6) rfl ?_); refine box_event ?hg (N := 6) ?hd (cs := #[.int .i64 0, .int .i64 0, .int .i64 0]) (t := 74) ?hr ?_; (case hd => rfl); (case hg => rfl); (case hr => first | (go_simp; done) | (go_simp; rfl)); intro gb191 hg w79 hbox hb; have BK191 := Aside0.mk hbox; have GW191 := ge_ HB hg; have GE191 := ge_ HB hg; have NB181_191 := nl_ BK181 hg; have NB191_181 := ng_ BK181 hg; replace HB := Aside0.mk (bt_ HB hb); replace BK181 := Aside0.mk (bb_ BK181 hb); clear hb hbox hg; have hnb80 := NB191_181.out; have hnc80 := NB181_191.out; have hcz81_0 := cz_ BK191 0 (.int .i64 0); have hcz81_1 := cz_ BK191 1 (.int .i64 0); have hcz81_2 := cz_ BK191 2 (.int .i64 0); have hfz81_0 := blk_frozen BK191.out 0; have hfz81_1 := blk_frozen BK191.out 1; have hfz81_2 := blk_frozen BK191.out 2))
                 have n0_ : Aside0 ((((w79.setCell ⟨gb191, 0, none⟩ (.int .i64 ((rd_T74 l0_4 x5_3).f0.f0))).setCell ⟨gb191, 1, none⟩ (.int .i64 ((rd_T74 l0_4 x5_3).f0.f1))).setCell ⟨gb191, 2, none⟩ (.int .i64 ((rd_T74 l0_4 x5_3).f1))).heap[gb181]? = some (.cells #[.int .i64 a0_0, .int .i64 a0_1, .int .i64 a0_2, .slice A0_3 l0_3.length c0_3, .slice (some ad190) l0_4.length c0_4] 31 (0, 0))) := ⟨by (with_reducible repeat (first | refine blk_drewN ?_ _ | refine blk_drew ?_ | refine blk_alloc ?_ _)); refine blk_far ?_ NB181_191.out _; (with_reducible repeat (first | refine blk_drewN ?_ _ | refine blk_drew ?_ | refine blk_alloc ?_ _)); refine blk_far ?_ NB181_191.out _; (with_reducible repeat (first | refine blk_drewN ?_ _ | refine blk_drew ?_ | refine blk_alloc ?_ _)); refine blk_far ?_ NB181_191.out _; (with_reducible repeat (first | refine blk_drewN ?_ _ | refine blk_drew ?_ | refine blk_alloc ?_ _)); exact BK181.out⟩
                 have n1_ : Aside0 ((((w79.setCell ⟨gb191, 0, none⟩ (.int .i64 ((rd_T74 l0_4 x5_3).f0.f0))).setCell ⟨gb191, 1, none⟩ (.int .i64 ((rd_T74 l0_4 x5_3).f0.f1))).setCell ⟨gb191, 2, none⟩ (.int .i64 ((rd_T74 l0_4 x5_3).f1))).heap[gb191]? = some (.cells #[.int .i64 ((rd_T74 l0_4 x5_3).f0.f0), .int .i64 ((rd_T74 l0_4 x5_3).f0.f1), .int .i64 ((rd_T74 l0_4 x5_3).f1)] 74 (0, 0))) := ⟨by (with_reducible repeat (first | refine blk_drewN ?_ _ | refine blk_drew ?_ | refine blk_alloc ?_ _)); refine blk_put (cs := #[.int .i64 ((rd_T74 l0_4 x5_3).f0.f0), .int .i64 ((rd_T74 l0_4 x5_3).f0.f1), .int .i64 0]) ?_ 2 _ rfl; (with_reducible repeat (first | refine blk_drewN ?_ _ | refine blk_drew ?_ | refine blk_alloc ?_ _)); refine blk_put (cs := #[.int .i64 ((rd_T74 l0_4 x5_3).f0.f0), .int .i64 0, .int .i64 0]) ?_ 1 _ rfl; (with_reducible repeat (first | refine blk_drewN ?_ _ | refine blk_drew ?_ | refine blk_alloc ?_ _)); refine blk_put (cs := #[.int .i64 0, .int .i64 0, .int .i64 0]) ?_ 0 _ rfl; (with_reducible repeat (first | refine blk_drewN ?_ _ | refine blk_drew ?_ | refine blk_alloc ?_ _)); exact BK191.out⟩
                 have n2_ : Aside0 (Below w.heap.size w (((w79.setCell ⟨gb191, 0, none⟩ (.int .i64 ((rd_T74 l0_4 x5_3).f0.f0))).setCell ⟨gb191, 1, none⟩ (.int .i64 ((rd_T74 l0_4 x5_3).f0.f1))).setCell ⟨gb191, 2, none⟩ (.int .i64 ((rd_T74 l0_4 x5_3).f1)))) := ⟨by repeat (first | (with_reducible first | exact HB.out | apply below_alloc | apply pw_below_drewN | apply below_drew1 | refine below_set ?_ GE181.out | refine below_set ?_ GE191.out) | exact HB.out)⟩
                 (try clear BK181)
                 (try clear BK191)
                 (try clear HB)
                 generalize (((w79.setCell ⟨gb191, 0, none⟩ (.int .i64 ((rd_T74 l0_4 x5_3).f0.f0))).setCell ⟨gb191, 1, none⟩ (.int .i64 ((rd_T74 l0_4 x5_3).f0.f1))).setCell ⟨gb191, 2, none⟩ (.int .i64 ((rd_T74 l0_4 x5_3).f1))) = w82 at n0_ n1_ n2_ ⊢
                 have BK181 := n0_
                 have BK191 := n1_
                 have HB := n2_
                 clear n0_ n1_ n2_
                 replace BK181 := Aside0.mk (blk_drew BK181.out)
                 replace BK191 := Aside0.mk (blk_drew BK191.out)
                 replace HB := Aside0.mk (below_drew1 HB.out)
                 have p194 : 0 ≤ ((ji73) : Int) := of_decide_eq_true (by first | (with_reducible assumption) | assumption)
                 have q194 : (ji73) < (l0_4.length : Int) := of_decide_eq_true (by first | (with_reducible assumption) | assumption)
                 obtain ⟨ad194, e194, hx194_0, hx194_1, hx194_2⟩ := at_T74 HR0_4.out (ji73) p194 q194
                 have hw194_2 := hx194_2
                 have hw194_1 := hx194_1
                 have hw194_0 := hx194_0
                 obtain rfl : ad190 = ad194 := (by injection e194)
                 replace hx194_0 := (HB.out.cell (World.block_lt_of_cell? w _ hx194_0)).trans hx194_0
                 replace hx194_1 := (HB.out.cell (World.block_lt_of_cell? w _ hx194_1)).trans hx194_1
                 replace hx194_2 := (HB.out.cell (World.block_lt_of_cell? w _ hx194_2)).trans hx194_2
                 replace p194 := eq_true p194
                 replace q194 := eq_true q194
                 refine start_ (n := 27) (S := fun w' => w'.cell? ⟨gb191, 0, none⟩ = some (.int .i64 ((rd_T74 l0_4 x5_3).f0.f0)) ∧ w'.cell? ⟨gb191, 1, none⟩ = some (.int .i64 ((rd_T74 l0_4 x5_3).f0.f1)) ∧ w'.cell? ⟨gb191, 2, none⟩ = some (.int .i64 ((rd_T74 l0_4 x5_3).f1)) ∧ w'.cell? ⟨gb181, 0, none⟩ = some (.int .i64 a0_0) ∧ w'.cell? ⟨gb181, 1, none⟩ = some (.int .i64 a0_1) ∧ w'.cell? ⟨gb181, 2, none⟩ = some (.int .i64 a0_2) ∧ w'.cell? ⟨gb181, 3, none⟩ = some (.slice A0_3 l0_3.length c0_3) ∧ w'.cell? ⟨gb181, 4, none⟩ = some (.slice (some ad190) l0_4.length c0_4) ∧ w'.cell? (ad190.add (((ji73)).toNat * 3)) = some (.int .i64 ((rd_T74 l0_4 (ji73)).f0.f0)) ∧ w'.cell? ⟨(ad190.add (((ji73)).toNat * 3)).block, (ad190.add (((ji73)).toNat * 3)).off + 1, none⟩ = some (.int .i64 ((rd_T74 l0_4 (ji73)).f0.f1)) ∧ w'.cell? ⟨(ad190.add (((ji73)).toNat * 3)).block, (ad190.add (((ji73)).toNat * 3)).off + 2, none⟩ = some (.int .i64 ((rd_T74 l0_4 (ji73)).f1))) (ds := []) ba5_41 (by kernel_rfl) rfl rfl ⟨(blk_cell BK191.out 0).trans rfl, (blk_cell BK191.out 1).trans rfl, (blk_cell BK191.out 2).trans rfl, (blk_cell BK181.out 0).trans rfl, (blk_cell BK181.out 1).trans rfl, (blk_cell BK181.out 2).trans rfl, (blk_cell BK181.out 3).trans rfl, (blk_cell BK181.out 4).trans rfl, (hc_ HB hw194_0), (hc_ HB hw194_1), (hc_ HB hw194_2)⟩ (fun hHeld => ?_); refine with_tabW spec_LsaOk.tab13 spec_LsaOk.bits13 (fun HT_ HW_ => ?_)
                 generalize w82.drew = w83 at BK181 BK191 HB hx194_0 hx194_1 hx194_2 hHeld ⊢
                 refine pz_ 0 92 ba5_42 HT_ ?_
                 refine pt_ 1 93 ba5_43 HT_ HW_ hHeld ?_
                 refine one_ (i := 2) (N := some 94) ba5_44 rfl rfl (one_of HT_.out (by kernel_rfl)) (by decide) (fun K hK => ?_)
                 refine gz_ Try.func53 #[.agg #[.int .i64 ((rd_T74 l0_4 x5_3).f0.f0), .int .i64 ((rd_T74 l0_4 x5_3).f0.f1)]] ?_
                 with_reducible refine (spec_PrefixOk.calls ((rd_T74 l0_4 x5_3).f0.f0) ((rd_T74 l0_4 x5_3).f0.f1) true _ A68.out).mono ?_
                 rintro e w84 ⟨rfl, hb⟩
                 refine ⟨_, rfl, ?_⟩
                 replace BK181 := Aside0.mk (bb_ BK181 hb)
                 replace BK191 := Aside0.mk (bb_ BK191 hb)
                 replace HB := Aside0.mk (bt_ HB hb)
                 (try clear hb)
                 (try clear hb2)
                 (try clear hk)
                 (try clear hi)
                 refine hK.out _ _ ⟨(blk_cell BK191.out 0).trans rfl, (blk_cell BK191.out 1).trans rfl, (blk_cell BK191.out 2).trans rfl, (blk_cell BK181.out 0).trans rfl, (blk_cell BK181.out 1).trans rfl, (blk_cell BK181.out 2).trans rfl, (blk_cell BK181.out 3).trans rfl, (blk_cell BK181.out 4).trans rfl, (hc_ HB hw194_0), (hc_ HB hw194_1), (hc_ HB hw194_2)⟩ (fun hHeld => ?_)
                 clear hK K
                 refine nz_ 94 ?_
                 refine pz_ 3 95 ba5_45 HT_ ?_
                 refine pz_ 4 96 ba5_46 HT_ ?_
                 refine pz_ 5 97 ba5_47 HT_ ?_
                 refine pt_ 6 98 ba5_48 HT_ HW_ hHeld ?_
                 refine one_ (i := 7) (N := some 99) ba5_49 rfl rfl (one_of HT_.out (by kernel_rfl)) (by decide) (fun K hK => ?_)
                 refine gz_ Try.func52 #[.int .i64 ((rd_T74 l0_4 x5_3).f1), .int .i64 1, .int .i64 1000] ?_
                 with_reducible refine (spec_l01In.calls ((rd_T74 l0_4 x5_3).f1) 1 1000 true _ A70.out).mono ?_
                 rintro e w' ⟨rfl, ⟨nd, rfl⟩⟩
                 refine ⟨_, rfl, ?_⟩
                 refine hK.out _ _ ⟨(blk_cell BK191.out 0).trans rfl, (blk_cell BK191.out 1).trans rfl, (blk_cell BK191.out 2).trans rfl, (blk_cell BK181.out 0).trans rfl, (blk_cell BK181.out 1).trans rfl, (blk_cell BK181.out 2).trans rfl, (blk_cell BK181.out 3).trans rfl, (blk_cell BK181.out 4).trans rfl, (hc_ HB hw194_0), (hc_ HB hw194_1), (hc_ HB hw194_2)⟩ (fun hHeld => ?_)
                 clear hK K
                 refine nz_ 99 ?_
                 refine pz_ 8 100 ba5_50 HT_ ?_
                 refine pz_ 9 101 ba5_51 HT_ ?_
                 refine pz_ 10 102 ba5_52 HT_ ?_
                 refine pz_ 11 103 ba5_53 HT_ ?_
                 refine pz_ 12 104 ba5_54 HT_ ?_
                 refine pz_ 13 105 ba5_55 HT_ ?_
                 refine pz_ 14 106 ba5_56 HT_ ?_
                 refine pz_ 16 108 ba5_57 HT_ ?_
                 refine pz_ 17 109 ba5_58 HT_ ?_
                 refine pz_ 21 113 ba5_59 HT_ ?_
                 refine pt_ 15 107 ba5_60 HT_ HW_ hHeld ?_
                 refine pz_ 18 110 ba5_61 HT_ ?_
                 refine pz_ 19 111 ba5_62 HT_ ?_
                 refine pt_ 20 112 ba5_63 HT_ HW_ hHeld ?_
                 refine pt_ 22 114 ba5_64 HT_ HW_ hHeld ?_
                 refine one_ (i := 23) (N := some 115) ba5_65 rfl rfl (one_of HT_.out (by kernel_rfl)) (by decide) (fun K hK => ?_)
                 refine goes_ Try.func54 (by kernel_rfl) rfl #[.agg #[.int .i64 ((rd_T74 l0_4 (ji73)).f0.f0), .int .i64 ((rd_T74 l0_4 (ji73)).f0.f1)], .agg #[.int .i64 ((rd_T74 l0_4 x5_3).f0.f0), .int .i64 ((rd_T74 l0_4 x5_3).f0.f1)]] (by rfl) rfl rfl (by (try simp only [List.map_toArray, List.map_cons, List.map_nil]); first | done | (simp only [hji73]; rfl) | rfl | (simp only [List.length_drop, List.length_take]; rfl)) ?_
                 with_reducible refine (spec_l02Ahead.calls ((rd_T74 l0_4 (ji73)).f0.f0) ((rd_T74 l0_4 (ji73)).f0.f1) ((rd_T74 l0_4 x5_3).f0.f0) ((rd_T74 l0_4 x5_3).f0.f1) true _ A76.out).mono ?_
                 rintro e w85 ⟨rfl, hb⟩
                 refine ⟨_, rfl, ?_⟩
                 replace BK181 := Aside0.mk (bb_ BK181 hb)
                 replace BK191 := Aside0.mk (bb_ BK191 hb)
                 replace HB := Aside0.mk (bt_ HB hb)
                 (try clear hb)
                 (try clear hb2)
                 (try clear hk)
                 (try clear hi)
                 refine hK.out _ _ ⟨(blk_cell BK191.out 0).trans rfl, (blk_cell BK191.out 1).trans rfl, (blk_cell BK191.out 2).trans rfl, (blk_cell BK181.out 0).trans rfl, (blk_cell BK181.out 1).trans rfl, (blk_cell BK181.out 2).trans rfl, (blk_cell BK181.out 3).trans rfl, (blk_cell BK181.out 4).trans rfl, (hc_ HB hw194_0), (hc_ HB hw194_1), (hc_ HB hw194_2)⟩ (fun hHeld => ?_)
                 clear hK K
                 refine nz_ 115 ?_
                 refine pz_ 24 116 ba5_66 HT_ ?_
                 refine pz_ 25 117 ba5_67 HT_ ?_
                 refine pz_ 26 118 ba5_68 HT_ ?_
                 refine done_ (done_of HT_.out (by kernel_rfl)) ?_
                 try go_wp2
                 go_roundg k3
                 case measure => have := HJ1.out; have := HK2.out; have := HK3.out; omega
                 case rel => exact ⟨(wrap64 (x5_3 + 1)), (by first | rfl | (simp; done) | (simp [*]; done)), H', ⟨by have := HJ1.out; have := HK2.out; have := HK3.out; omega⟩, ⟨by (with_reducible repeat (first | refine blk_drewN ?_ _ | refine blk_drew ?_ | refine blk_alloc ?_ _)); exact BK181.out⟩, ⟨by repeat (first | (with_reducible first | exact HB.out | apply below_alloc | apply pw_below_drewN | apply below_drew1 | refine below_set ?_ GE181.out | refine below_set ?_ GE191.out) | exact HB.out)⟩⟩
                ·replace c77 := Bool.eq_false_iff.mpr c77
                 subst c77
                 rw [if_neg (show ¬ (false = true) by decide)] at H
                 obtain rfl := Option.some.inj H
                 have hcz86_0 := cz_ BK181 0 (.int .i64 a0_0)
                 have hcz86_1 := cz_ BK181 1 (.int .i64 a0_1)
                 have hcz86_2 := cz_ BK181 2 (.int .i64 a0_2)
                 have hcz86_3 := cz_ BK181 3 (.slice A0_3 l0_3.length c0_3)
                 have hcz86_4 := cz_ BK181 4 (.slice A0_4 l0_4.length c0_4)
                 have hfz86_0 := blk_frozen BK181.out 0
                 have hfz86_1 := blk_frozen BK181.out 1
                 have hfz86_2 := blk_frozen BK181.out 2
                 have hfz86_3 := blk_frozen BK181.out 3
                 have hfz86_4 := blk_frozen BK181.out 4
                 have p190 : 0 ≤ (x5_3 : Int) := of_decide_eq_true (by first | (with_reducible assumption) | assumption)
                 have q190 : x5_3 < (l0_4.length : Int) := of_decide_eq_true (by first | (with_reducible assumption) | assumption)
                 obtain ⟨ad190, e190, hx190_0, hx190_1, hx190_2⟩ := at_T74 HR0_4.out x5_3 p190 q190
                 cases e190
                 replace hx190_0 := (HB.out.cell (World.block_lt_of_cell? w _ hx190_0)).trans hx190_0
                 replace hx190_1 := (HB.out.cell (World.block_lt_of_cell? w _ hx190_1)).trans hx190_1
                 replace hx190_2 := (HB.out.cell (World.block_lt_of_cell? w _ hx190_2)).trans hx190_2
                 replace p190 := eq_true p190
                 replace q190 := eq_true q190
                 try go_wp2_with (first | ((with_reducible refine gate_dst (N := 6) rfl ?_); refine box_event ?hg (N := 6) ?hd (cs := #[.int .i64 0, .int .i64 0, .int .i64 0]) (t := 74) ?hr ?_; (case hd => rfl); (case hg => rfl); (case hr => first | (go_simp; done) | (go_simp; rfl)); intro gb191 hg w87 hbox hb; have BK191 := Aside0.mk hbox; have GW191 := ge_ HB hg; have GE191 := ge_ HB hg; have NB181_191 := nl_ BK181 hg; have NB191_181 := ng_ BK181 hg; replace HB := Aside0.mk (bt_ HB hb); replace BK181 := Aside0.mk (bb_ BK181 hb); clear hb hbox hg; have hnb88 := NB191_181.out; have hnc88 := NB181_191.out; have hcz89_0 := cz_ BK191 0 (.int .i64 0); have hcz89_1 := cz_ BK191 1 (.int .i64 0); have hcz89_2 := cz_ BK191 2 (.int .i64 0); have hfz89_0 := blk_frozen BK191.out 0; have hfz89_1 := blk_frozen BK191.out 1; have hfz89_2 := blk_frozen BK191.out 2))
                 have n0_ : Aside0 ((((w87.setCell ⟨gb191, 0, none⟩ (.int .i64 ((rd_T74 l0_4 x5_3).f0.f0))).setCell ⟨gb191, 1, none⟩ (.int .i64 ((rd_T74 l0_4 x5_3).f0.f1))).setCell ⟨gb191, 2, none⟩ (.int .i64 ((rd_T74 l0_4 x5_3).f1))).heap[gb181]? = some (.cells #[.int .i64 a0_0, .int .i64 a0_1, .int .i64 a0_2, .slice A0_3 l0_3.length c0_3, .slice (some ad190) l0_4.length c0_4] 31 (0, 0))) := ⟨by (with_reducible repeat (first | refine blk_drewN ?_ _ | refine blk_drew ?_ | refine blk_alloc ?_ _)); refine blk_far ?_ NB181_191.out _; (with_reducible repeat (first | refine blk_drewN ?_ _ | refine blk_drew ?_ | refine blk_alloc ?_ _)); refine blk_far ?_ NB181_191.out _; (with_reducible repeat (first | refine blk_drewN ?_ _ | refine blk_drew ?_ | refine blk_alloc ?_ _)); refine blk_far ?_ NB181_191.out _; (with_reducible repeat (first | refine blk_drewN ?_ _ | refine blk_drew ?_ | refine blk_alloc ?_ _)); exact BK181.out⟩
                 have n1_ : Aside0 ((((w87.setCell ⟨gb191, 0, none⟩ (.int .i64 ((rd_T74 l0_4 x5_3).f0.f0))).setCell ⟨gb191, 1, none⟩ (.int .i64 ((rd_T74 l0_4 x5_3).f0.f1))).setCell ⟨gb191, 2, none⟩ (.int .i64 ((rd_T74 l0_4 x5_3).f1))).heap[gb191]? = some (.cells #[.int .i64 ((rd_T74 l0_4 x5_3).f0.f0), .int .i64 ((rd_T74 l0_4 x5_3).f0.f1), .int .i64 ((rd_T74 l0_4 x5_3).f1)] 74 (0, 0))) := ⟨by (with_reducible repeat (first | refine blk_drewN ?_ _ | refine blk_drew ?_ | refine blk_alloc ?_ _)); refine blk_put (cs := #[.int .i64 ((rd_T74 l0_4 x5_3).f0.f0), .int .i64 ((rd_T74 l0_4 x5_3).f0.f1), .int .i64 0]) ?_ 2 _ rfl; (with_reducible repeat (first | refine blk_drewN ?_ _ | refine blk_drew ?_ | refine blk_alloc ?_ _)); refine blk_put (cs := #[.int .i64 ((rd_T74 l0_4 x5_3).f0.f0), .int .i64 0, .int .i64 0]) ?_ 1 _ rfl; (with_reducible repeat (first | refine blk_drewN ?_ _ | refine blk_drew ?_ | refine blk_alloc ?_ _)); refine blk_put (cs := #[.int .i64 0, .int .i64 0, .int .i64 0]) ?_ 0 _ rfl; (with_reducible repeat (first | refine blk_drewN ?_ _ | refine blk_drew ?_ | refine blk_alloc ?_ _)); exact BK191.out⟩
                 have n2_ : Aside0 (Below w.heap.size w (((w87.setCell ⟨gb191, 0, none⟩ (.int .i64 ((rd_T74 l0_4 x5_3).f0.f0))).setCell ⟨gb191, 1, none⟩ (.int .i64 ((rd_T74 l0_4 x5_3).f0.f1))).setCell ⟨gb191, 2, none⟩ (.int .i64 ((rd_T74 l0_4 x5_3).f1)))) := ⟨by repeat (first | (with_reducible first | exact HB.out | apply below_alloc | apply pw_below_drewN | apply below_drew1 | refine below_set ?_ GE181.out | refine below_set ?_ GE191.out) | exact HB.out)⟩
                 (try clear BK181)
                 (try clear BK191)
                 (try clear HB)
                 generalize (((w87.setCell ⟨gb191, 0, none⟩ (.int .i64 ((rd_T74 l0_4 x5_3).f0.f0))).setCell ⟨gb191, 1, none⟩ (.int .i64 ((rd_T74 l0_4 x5_3).f0.f1))).setCell ⟨gb191, 2, none⟩ (.int .i64 ((rd_T74 l0_4 x5_3).f1))) = w90 at n0_ n1_ n2_ ⊢
                 have BK181 := n0_
                 have BK191 := n1_
                 have HB := n2_
                 clear n0_ n1_ n2_
                 replace BK181 := Aside0.mk (blk_drew BK181.out)
                 replace BK191 := Aside0.mk (blk_drew BK191.out)
                 replace HB := Aside0.mk (below_drew1 HB.out)
                 have p194 : 0 ≤ ((ji73) : Int) := of_decide_eq_true (by first | (with_reducible assumption) | assumption)
                 have q194 : (ji73) < (l0_4.length : Int) := of_decide_eq_true (by first | (with_reducible assumption) | assumption)
                 obtain ⟨ad194, e194, hx194_0, hx194_1, hx194_2⟩ := at_T74 HR0_4.out (ji73) p194 q194
                 have hw194_2 := hx194_2
                 have hw194_1 := hx194_1
                 have hw194_0 := hx194_0
                 obtain rfl : ad190 = ad194 := (by injection e194)
                 replace hx194_0 := (HB.out.cell (World.block_lt_of_cell? w _ hx194_0)).trans hx194_0
                 replace hx194_1 := (HB.out.cell (World.block_lt_of_cell? w _ hx194_1)).trans hx194_1
                 replace hx194_2 := (HB.out.cell (World.block_lt_of_cell? w _ hx194_2)).trans hx194_2
                 replace p194 := eq_true p194
                 replace q194 := eq_true q194
                 refine start_ (n := 27) (S := fun w' => w'.cell? ⟨gb191, 0, none⟩ = some (.int .i64 ((rd_T74 l0_4 x5_3).f0.f0)) ∧ w'.cell? ⟨gb191, 1, none⟩ = some (.int .i64 ((rd_T74 l0_4 x5_3).f0.f1)) ∧ w'.cell? ⟨gb191, 2, none⟩ = some (.int .i64 ((rd_T74 l0_4 x5_3).f1)) ∧ w'.cell? ⟨gb181, 0, none⟩ = some (.int .i64 a0_0) ∧ w'.cell? ⟨gb181, 1, none⟩ = some (.int .i64 a0_1) ∧ w'.cell? ⟨gb181, 2, none⟩ = some (.int .i64 a0_2) ∧ w'.cell? ⟨gb181, 3, none⟩ = some (.slice A0_3 l0_3.length c0_3) ∧ w'.cell? ⟨gb181, 4, none⟩ = some (.slice (some ad190) l0_4.length c0_4) ∧ w'.cell? (ad190.add (((ji73)).toNat * 3)) = some (.int .i64 ((rd_T74 l0_4 (ji73)).f0.f0)) ∧ w'.cell? ⟨(ad190.add (((ji73)).toNat * 3)).block, (ad190.add (((ji73)).toNat * 3)).off + 1, none⟩ = some (.int .i64 ((rd_T74 l0_4 (ji73)).f0.f1)) ∧ w'.cell? ⟨(ad190.add (((ji73)).toNat * 3)).block, (ad190.add (((ji73)).toNat * 3)).off + 2, none⟩ = some (.int .i64 ((rd_T74 l0_4 (ji73)).f1))) (ds := []) ba5_41 (by kernel_rfl) rfl rfl ⟨(blk_cell BK191.out 0).trans rfl, (blk_cell BK191.out 1).trans rfl, (blk_cell BK191.out 2).trans rfl, (blk_cell BK181.out 0).trans rfl, (blk_cell BK181.out 1).trans rfl, (blk_cell BK181.out 2).trans rfl, (blk_cell BK181.out 3).trans rfl, (blk_cell BK181.out 4).trans rfl, (hc_ HB hw194_0), (hc_ HB hw194_1), (hc_ HB hw194_2)⟩ (fun hHeld => ?_); refine with_tabW spec_LsaOk.tab13 spec_LsaOk.bits13 (fun HT_ HW_ => ?_)
                 generalize w90.drew = w91 at BK181 BK191 HB hx194_0 hx194_1 hx194_2 hHeld ⊢
                 refine pz_ 0 92 ba5_42 HT_ ?_
                 refine pt_ 1 93 ba5_43 HT_ HW_ hHeld ?_
                 refine one_ (i := 2) (N := some 94) ba5_44 rfl rfl (one_of HT_.out (by kernel_rfl)) (by decide) (fun K hK => ?_)
                 refine gz_ Try.func53 #[.agg #[.int .i64 ((rd_T74 l0_4 x5_3).f0.f0), .int .i64 ((rd_T74 l0_4 x5_3).f0.f1)]] ?_
                 with_reducible refine (spec_PrefixOk.calls ((rd_T74 l0_4 x5_3).f0.f0) ((rd_T74 l0_4 x5_3).f0.f1) true _ A68.out).mono ?_
                 rintro e w92 ⟨rfl, hb⟩
                 refine ⟨_, rfl, ?_⟩
                 replace BK181 := Aside0.mk (bb_ BK181 hb)
                 replace BK191 := Aside0.mk (bb_ BK191 hb)
                 replace HB := Aside0.mk (bt_ HB hb)
                 (try clear hb)
                 (try clear hb2)
                 (try clear hk)
                 (try clear hi)
                 refine hK.out _ _ ⟨(blk_cell BK191.out 0).trans rfl, (blk_cell BK191.out 1).trans rfl, (blk_cell BK191.out 2).trans rfl, (blk_cell BK181.out 0).trans rfl, (blk_cell BK181.out 1).trans rfl, (blk_cell BK181.out 2).trans rfl, (blk_cell BK181.out 3).trans rfl, (blk_cell BK181.out 4).trans rfl, (hc_ HB hw194_0), (hc_ HB hw194_1), (hc_ HB hw194_2)⟩ (fun hHeld => ?_)
                 clear hK K
                 refine nz_ 94 ?_
                 refine pz_ 3 95 ba5_45 HT_ ?_
                 refine pz_ 4 96 ba5_46 HT_ ?_
                 refine pz_ 5 97 ba5_47 HT_ ?_
                 refine pt_ 6 98 ba5_48 HT_ HW_ hHeld ?_
                 refine one_ (i := 7) (N := some 99) ba5_49 rfl rfl (one_of HT_.out (by kernel_rfl)) (by decide) (fun K hK => ?_)
                 refine gz_ Try.func52 #[.int .i64 ((rd_T74 l0_4 x5_3).f1), .int .i64 1, .int .i64 1000] ?_
                 with_reducible refine (spec_l01In.calls ((rd_T74 l0_4 x5_3).f1) 1 1000 true _ A70.out).mono ?_
                 rintro e w' ⟨rfl, ⟨nd, rfl⟩⟩
                 refine ⟨_, rfl, ?_⟩
                 refine hK.out _ _ ⟨(blk_cell BK191.out 0).trans rfl, (blk_cell BK191.out 1).trans rfl, (blk_cell BK191.out 2).trans rfl, (blk_cell BK181.out 0).trans rfl, (blk_cell BK181.out 1).trans rfl, (blk_cell BK181.out 2).trans rfl, (blk_cell BK181.out 3).trans rfl, (blk_cell BK181.out 4).trans rfl, (hc_ HB hw194_0), (hc_ HB hw194_1), (hc_ HB hw194_2)⟩ (fun hHeld => ?_)
                 clear hK K
                 refine nz_ 99 ?_
                 refine pz_ 8 100 ba5_50 HT_ ?_
                 refine pz_ 9 101 ba5_51 HT_ ?_
                 refine pz_ 10 102 ba5_52 HT_ ?_
                 refine pz_ 11 103 ba5_53 HT_ ?_
                 refine pz_ 12 104 ba5_54 HT_ ?_
                 refine pz_ 13 105 ba5_55 HT_ ?_
                 refine pz_ 14 106 ba5_56 HT_ ?_
                 refine pz_ 16 108 ba5_57 HT_ ?_
                 refine pz_ 17 109 ba5_58 HT_ ?_
                 refine pz_ 21 113 ba5_59 HT_ ?_
                 refine pt_ 15 107 ba5_60 HT_ HW_ hHeld ?_
                 refine pz_ 18 110 ba5_61 HT_ ?_
                 refine pz_ 19 111 ba5_62 HT_ ?_
                 refine pt_ 20 112 ba5_63 HT_ HW_ hHeld ?_
                 refine pt_ 22 114 ba5_64 HT_ HW_ hHeld ?_
                 refine one_ (i := 23) (N := some 115) ba5_65 rfl rfl (one_of HT_.out (by kernel_rfl)) (by decide) (fun K hK => ?_)
                 refine goes_ Try.func54 (by kernel_rfl) rfl #[.agg #[.int .i64 ((rd_T74 l0_4 (ji73)).f0.f0), .int .i64 ((rd_T74 l0_4 (ji73)).f0.f1)], .agg #[.int .i64 ((rd_T74 l0_4 x5_3).f0.f0), .int .i64 ((rd_T74 l0_4 x5_3).f0.f1)]] (by rfl) rfl rfl (by (try simp only [List.map_toArray, List.map_cons, List.map_nil]); first | done | (simp only [hji73]; rfl) | rfl | (simp only [List.length_drop, List.length_take]; rfl)) ?_
                 with_reducible refine (spec_l02Ahead.calls ((rd_T74 l0_4 (ji73)).f0.f0) ((rd_T74 l0_4 (ji73)).f0.f1) ((rd_T74 l0_4 x5_3).f0.f0) ((rd_T74 l0_4 x5_3).f0.f1) false _ A76.out).mono ?_
                 rintro e w93 ⟨rfl, hb⟩
                 refine ⟨_, rfl, ?_⟩
                 replace BK181 := Aside0.mk (bb_ BK181 hb)
                 replace BK191 := Aside0.mk (bb_ BK191 hb)
                 replace HB := Aside0.mk (bt_ HB hb)
                 (try clear hb)
                 (try clear hb2)
                 (try clear hk)
                 (try clear hi)
                 refine hK.out _ _ ⟨(blk_cell BK191.out 0).trans rfl, (blk_cell BK191.out 1).trans rfl, (blk_cell BK191.out 2).trans rfl, (blk_cell BK181.out 0).trans rfl, (blk_cell BK181.out 1).trans rfl, (blk_cell BK181.out 2).trans rfl, (blk_cell BK181.out 3).trans rfl, (blk_cell BK181.out 4).trans rfl, (hc_ HB hw194_0), (hc_ HB hw194_1), (hc_ HB hw194_2)⟩ (fun hHeld => ?_)
                 clear hK K
                 refine nz_ 115 ?_
                 refine pz_ 24 116 ba5_66 HT_ ?_
                 refine pz_ 25 117 ba5_67 HT_ ?_
                 refine pz_ 26 118 ba5_68 HT_ ?_
                 refine done_ (done_of HT_.out (by kernel_rfl)) ?_
                 try go_wp2
                 go_ret
                 exact ⟨by first | rfl | (simp [errW_none, errW_some] <;> rfl) | (simp only [← hji73]; first | rfl | (simp [errW_none, errW_some] <;> rfl)) | (simp [*, errW_none, errW_some] <;> rfl), by repeat (first | (with_reducible first | exact HB.out | apply below_alloc | apply pw_below_drewN | apply below_drew1 | refine below_set ?_ GE181.out | refine below_set ?_ GE191.out) | exact HB.out)⟩
               ·rw [if_neg c75] at H
                exact absurd H (by simp)
              ·rw [if_neg c74] at H
               exact absurd H (by simp)
             ·rw [if_neg c72] at H
              have c72b0 : decide (0 < x5_3) = false := decide_eq_false c72
              clear c72
              have H' := Aside0.mk H
              clear H
              have hcz94_0 := cz_ BK181 0 (.int .i64 a0_0)
              have hcz94_1 := cz_ BK181 1 (.int .i64 a0_1)
              have hcz94_2 := cz_ BK181 2 (.int .i64 a0_2)
              have hcz94_3 := cz_ BK181 3 (.slice A0_3 l0_3.length c0_3)
              have hcz94_4 := cz_ BK181 4 (.slice A0_4 l0_4.length c0_4)
              have hfz94_0 := blk_frozen BK181.out 0
              have hfz94_1 := blk_frozen BK181.out 1
              have hfz94_2 := blk_frozen BK181.out 2
              have hfz94_3 := blk_frozen BK181.out 3
              have hfz94_4 := blk_frozen BK181.out 4
              have p190 : 0 ≤ (x5_3 : Int) := of_decide_eq_true (by first | (with_reducible assumption) | assumption)
              have q190 : x5_3 < (l0_4.length : Int) := of_decide_eq_true (by first | (with_reducible assumption) | assumption)
              obtain ⟨ad190, e190, hx190_0, hx190_1, hx190_2⟩ := at_T74 HR0_4.out x5_3 p190 q190
              cases e190
              replace hx190_0 := (HB.out.cell (World.block_lt_of_cell? w _ hx190_0)).trans hx190_0
              replace hx190_1 := (HB.out.cell (World.block_lt_of_cell? w _ hx190_1)).trans hx190_1
              replace hx190_2 := (HB.out.cell (World.block_lt_of_cell? w _ hx190_2)).trans hx190_2
              replace p190 := eq_true p190
              replace q190 := eq_true q190
              try go_wp2_with (first | ((with_reducible refine gate_dst (N := 6) rfl ?_); refine box_event ?hg (N := 6) ?hd (cs := #[.int .i64 0, .int .i64 0, .int .i64 0]) (t := 74) ?hr ?_; (case hd => rfl); (case hg => rfl); (case hr => first | (go_simp; done) | (go_simp; rfl)); intro gb191 hg w95 hbox hb; have BK191 := Aside0.mk hbox; have GW191 := ge_ HB hg; have GE191 := ge_ HB hg; have NB181_191 := nl_ BK181 hg; have NB191_181 := ng_ BK181 hg; replace HB := Aside0.mk (bt_ HB hb); replace BK181 := Aside0.mk (bb_ BK181 hb); clear hb hbox hg; have hnb96 := NB191_181.out; have hnc96 := NB181_191.out; have hcz97_0 := cz_ BK191 0 (.int .i64 0); have hcz97_1 := cz_ BK191 1 (.int .i64 0); have hcz97_2 := cz_ BK191 2 (.int .i64 0); have hfz97_0 := blk_frozen BK191.out 0; have hfz97_1 := blk_frozen BK191.out 1; have hfz97_2 := blk_frozen BK191.out 2))
              have n0_ : Aside0 ((((w95.setCell ⟨gb191, 0, none⟩ (.int .i64 ((rd_T74 l0_4 x5_3).f0.f0))).setCell ⟨gb191, 1, none⟩ (.int .i64 ((rd_T74 l0_4 x5_3).f0.f1))).setCell ⟨gb191, 2, none⟩ (.int .i64 ((rd_T74 l0_4 x5_3).f1))).heap[gb181]? = some (.cells #[.int .i64 a0_0, .int .i64 a0_1, .int .i64 a0_2, .slice A0_3 l0_3.length c0_3, .slice (some ad190) l0_4.length c0_4] 31 (0, 0))) := ⟨by (with_reducible repeat (first | refine blk_drewN ?_ _ | refine blk_drew ?_ | refine blk_alloc ?_ _)); refine blk_far ?_ NB181_191.out _; (with_reducible repeat (first | refine blk_drewN ?_ _ | refine blk_drew ?_ | refine blk_alloc ?_ _)); refine blk_far ?_ NB181_191.out _; (with_reducible repeat (first | refine blk_drewN ?_ _ | refine blk_drew ?_ | refine blk_alloc ?_ _)); refine blk_far ?_ NB181_191.out _; (with_reducible repeat (first | refine blk_drewN ?_ _ | refine blk_drew ?_ | refine blk_alloc ?_ _)); exact BK181.out⟩
              have n1_ : Aside0 ((((w95.setCell ⟨gb191, 0, none⟩ (.int .i64 ((rd_T74 l0_4 x5_3).f0.f0))).setCell ⟨gb191, 1, none⟩ (.int .i64 ((rd_T74 l0_4 x5_3).f0.f1))).setCell ⟨gb191, 2, none⟩ (.int .i64 ((rd_T74 l0_4 x5_3).f1))).heap[gb191]? = some (.cells #[.int .i64 ((rd_T74 l0_4 x5_3).f0.f0), .int .i64 ((rd_T74 l0_4 x5_3).f0.f1), .int .i64 ((rd_T74 l0_4 x5_3).f1)] 74 (0, 0))) := ⟨by (with_reducible repeat (first | refine blk_drewN ?_ _ | refine blk_drew ?_ | refine blk_alloc ?_ _)); refine blk_put (cs := #[.int .i64 ((rd_T74 l0_4 x5_3).f0.f0), .int .i64 ((rd_T74 l0_4 x5_3).f0.f1), .int .i64 0]) ?_ 2 _ rfl; (with_reducible repeat (first | refine blk_drewN ?_ _ | refine blk_drew ?_ | refine blk_alloc ?_ _)); refine blk_put (cs := #[.int .i64 ((rd_T74 l0_4 x5_3).f0.f0), .int .i64 0, .int .i64 0]) ?_ 1 _ rfl; (with_reducible repeat (first | refine blk_drewN ?_ _ | refine blk_drew ?_ | refine blk_alloc ?_ _)); refine blk_put (cs := #[.int .i64 0, .int .i64 0, .int .i64 0]) ?_ 0 _ rfl; (with_reducible repeat (first | refine blk_drewN ?_ _ | refine blk_drew ?_ | refine blk_alloc ?_ _)); exact BK191.out⟩
              have n2_ : Aside0 (Below w.heap.size w (((w95.setCell ⟨gb191, 0, none⟩ (.int .i64 ((rd_T74 l0_4 x5_3).f0.f0))).setCell ⟨gb191, 1, none⟩ (.int .i64 ((rd_T74 l0_4 x5_3).f0.f1))).setCell ⟨gb191, 2, none⟩ (.int .i64 ((rd_T74 l0_4 x5_3).f1)))) := ⟨by repeat (first | (with_reducible first | exact HB.out | apply below_alloc | apply pw_below_drewN | apply below_drew1 | refine below_set ?_ GE181.out | refine below_set ?_ GE191.out) | exact HB.out)⟩
              (try clear BK181)
              (try clear BK191)
              (try clear HB)
              generalize (((w95.setCell ⟨gb191, 0, none⟩ (.int .i64 ((rd_T74 l0_4 x5_3).f0.f0))).setCell ⟨gb191, 1, none⟩ (.int .i64 ((rd_T74 l0_4 x5_3).f0.f1))).setCell ⟨gb191, 2, none⟩ (.int .i64 ((rd_T74 l0_4 x5_3).f1))) = w98 at n0_ n1_ n2_ ⊢
              have BK181 := n0_
              have BK191 := n1_
              have HB := n2_
              clear n0_ n1_ n2_
              replace BK181 := Aside0.mk (blk_drew BK181.out)
              replace BK191 := Aside0.mk (blk_drew BK191.out)
              replace HB := Aside0.mk (below_drew1 HB.out)
              refine start_ (n := 27) (S := fun w' => w'.cell? ⟨gb191, 0, none⟩ = some (.int .i64 ((rd_T74 l0_4 x5_3).f0.f0)) ∧ w'.cell? ⟨gb191, 1, none⟩ = some (.int .i64 ((rd_T74 l0_4 x5_3).f0.f1)) ∧ w'.cell? ⟨gb191, 2, none⟩ = some (.int .i64 ((rd_T74 l0_4 x5_3).f1))) (ds := []) ba5_41 (by kernel_rfl) rfl rfl ⟨(blk_cell BK191.out 0).trans rfl, (blk_cell BK191.out 1).trans rfl, (blk_cell BK191.out 2).trans rfl⟩ (fun hHeld => ?_); refine with_tabW spec_LsaOk.tab13 spec_LsaOk.bits13 (fun HT_ HW_ => ?_)
              generalize w98.drew = w99 at BK181 BK191 HB hHeld ⊢
              refine pz_ 0 92 ba5_42 HT_ ?_
              refine pt_ 1 93 ba5_43 HT_ HW_ hHeld ?_
              refine one_ (i := 2) (N := some 94) ba5_44 rfl rfl (one_of HT_.out (by kernel_rfl)) (by decide) (fun K hK => ?_)
              refine gz_ Try.func53 #[.agg #[.int .i64 ((rd_T74 l0_4 x5_3).f0.f0), .int .i64 ((rd_T74 l0_4 x5_3).f0.f1)]] ?_
              with_reducible refine (spec_PrefixOk.calls ((rd_T74 l0_4 x5_3).f0.f0) ((rd_T74 l0_4 x5_3).f0.f1) true _ A68.out).mono ?_
              rintro e w100 ⟨rfl, hb⟩
              refine ⟨_, rfl, ?_⟩
              replace BK181 := Aside0.mk (bb_ BK181 hb)
              replace BK191 := Aside0.mk (bb_ BK191 hb)
              replace HB := Aside0.mk (bt_ HB hb)
              (try clear hb)
              (try clear hb2)
              (try clear hk)
              (try clear hi)
              refine hK.out _ _ ⟨(blk_cell BK191.out 0).trans rfl, (blk_cell BK191.out 1).trans rfl, (blk_cell BK191.out 2).trans rfl⟩ (fun hHeld => ?_)
              clear hK K
              refine nz_ 94 ?_
              refine pz_ 3 95 ba5_45 HT_ ?_
              refine pz_ 4 96 ba5_46 HT_ ?_
              refine pz_ 5 97 ba5_47 HT_ ?_
              refine pt_ 6 98 ba5_48 HT_ HW_ hHeld ?_
              refine one_ (i := 7) (N := some 99) ba5_49 rfl rfl (one_of HT_.out (by kernel_rfl)) (by decide) (fun K hK => ?_)
              refine gz_ Try.func52 #[.int .i64 ((rd_T74 l0_4 x5_3).f1), .int .i64 1, .int .i64 1000] ?_
              with_reducible refine (spec_l01In.calls ((rd_T74 l0_4 x5_3).f1) 1 1000 true _ A70.out).mono ?_
              rintro e w' ⟨rfl, ⟨nd, rfl⟩⟩
              refine ⟨_, rfl, ?_⟩
              refine hK.out _ _ ⟨(blk_cell BK191.out 0).trans rfl, (blk_cell BK191.out 1).trans rfl, (blk_cell BK191.out 2).trans rfl⟩ (fun hHeld => ?_)
              clear hK K
              refine nz_ 99 ?_
              refine pz_ 8 100 ba5_50 HT_ ?_
              refine pz_ 9 101 ba5_51 HT_ ?_
              refine pz_ 10 102 ba5_52 HT_ ?_
              refine pz_ 11 103 ba5_53 HT_ ?_
              refine pz_ 12 104 ba5_54 HT_ ?_
              refine pz_ 13 105 ba5_55 HT_ ?_
              refine pu_ 14 106 ba5_56 HT_ ?_
              refine pu_ 15 107 ba5_69 HT_ ?_
              refine pu_ 16 108 ba5_70 HT_ ?_
              refine pu_ 17 109 ba5_71 HT_ ?_
              refine pu_ 18 110 ba5_72 HT_ ?_
              refine pu_ 19 111 ba5_73 HT_ ?_
              refine pu_ 20 112 ba5_74 HT_ ?_
              refine pu_ 21 113 ba5_63 HT_ ?_
              refine pu_ 22 114 ba5_64 HT_ ?_
              refine pu_ 23 115 ba5_65 HT_ ?_
              refine pu_ 24 116 ba5_66 HT_ ?_
              refine pz_ 25 117 ba5_67 HT_ ?_
              refine pz_ 26 118 ba5_68 HT_ ?_
              refine done_ (done_of HT_.out (by kernel_rfl)) ?_
              try go_wp2
              go_roundg k3
              case measure => have := HJ1.out; have := HK2.out; have := HK3.out; omega
              case rel => exact ⟨(wrap64 (x5_3 + 1)), (by first | rfl | (simp; done) | (simp [*]; done)), H', ⟨by have := HJ1.out; have := HK2.out; have := HK3.out; omega⟩, ⟨by (with_reducible repeat (first | refine blk_drewN ?_ _ | refine blk_drew ?_ | refine blk_alloc ?_ _)); exact BK181.out⟩, ⟨by repeat (first | (with_reducible first | exact HB.out | apply below_alloc | apply pw_below_drewN | apply below_drew1 | refine below_set ?_ GE181.out | refine below_set ?_ GE191.out) | exact HB.out)⟩⟩
            ·replace c71 := Bool.eq_false_iff.mpr c71
             subst c71
             rw [if_neg (show ¬ (false = true) by decide)] at H
             obtain rfl := Option.some.inj H
             have hcz101_0 := cz_ BK181 0 (.int .i64 a0_0)
             have hcz101_1 := cz_ BK181 1 (.int .i64 a0_1)
             have hcz101_2 := cz_ BK181 2 (.int .i64 a0_2)
             have hcz101_3 := cz_ BK181 3 (.slice A0_3 l0_3.length c0_3)
             have hcz101_4 := cz_ BK181 4 (.slice A0_4 l0_4.length c0_4)
             have hfz101_0 := blk_frozen BK181.out 0
             have hfz101_1 := blk_frozen BK181.out 1
             have hfz101_2 := blk_frozen BK181.out 2
             have hfz101_3 := blk_frozen BK181.out 3
             have hfz101_4 := blk_frozen BK181.out 4
             have p190 : 0 ≤ (x5_3 : Int) := of_decide_eq_true (by first | (with_reducible assumption) | assumption)
             have q190 : x5_3 < (l0_4.length : Int) := of_decide_eq_true (by first | (with_reducible assumption) | assumption)
             obtain ⟨ad190, e190, hx190_0, hx190_1, hx190_2⟩ := at_T74 HR0_4.out x5_3 p190 q190
             cases e190
             replace hx190_0 := (HB.out.cell (World.block_lt_of_cell? w _ hx190_0)).trans hx190_0
             replace hx190_1 := (HB.out.cell (World.block_lt_of_cell? w _ hx190_1)).trans hx190_1
             replace hx190_2 := (HB.out.cell (World.block_lt_of_cell? w _ hx190_2)).trans hx190_2
             replace p190 := eq_true p190
             replace q190 := eq_true q190
             try go_wp2_with (first | ((with_reducible refine gate_dst (N := 6) rfl ?_); refine box_event ?hg (N := 6) ?hd (cs := #[.int .i64 0, .int .i64 0, .int .i64 0]) (t := 74) ?hr ?_; (case hd => rfl); (case hg => rfl); (case hr => first | (go_simp; done) | (go_simp; rfl)); intro gb191 hg w102 hbox hb; have BK191 := Aside0.mk hbox; have GW191 := ge_ HB hg; have GE191 := ge_ HB hg; have NB181_191 := nl_ BK181 hg; have NB191_181 := ng_ BK181 hg; replace HB := Aside0.mk (bt_ HB hb); replace BK181 := Aside0.mk (bb_ BK181 hb); clear hb hbox hg; have hnb103 := NB191_181.out; have hnc103 := NB181_191.out; have hcz104_0 := cz_ BK191 0 (.int .i64 0); have hcz104_1 := cz_ BK191 1 (.int .i64 0); have hcz104_2 := cz_ BK191 2 (.int .i64 0); have hfz104_0 := blk_frozen BK191.out 0; have hfz104_1 := blk_frozen BK191.out 1; have hfz104_2 := blk_frozen BK191.out 2))
             have n0_ : Aside0 ((((w102.setCell ⟨gb191, 0, none⟩ (.int .i64 ((rd_T74 l0_4 x5_3).f0.f0))).setCell ⟨gb191, 1, none⟩ (.int .i64 ((rd_T74 l0_4 x5_3).f0.f1))).setCell ⟨gb191, 2, none⟩ (.int .i64 ((rd_T74 l0_4 x5_3).f1))).heap[gb181]? = some (.cells #[.int .i64 a0_0, .int .i64 a0_1, .int .i64 a0_2, .slice A0_3 l0_3.length c0_3, .slice (some ad190) l0_4.length c0_4] 31 (0, 0))) := ⟨by (with_reducible repeat (first | refine blk_drewN ?_ _ | refine blk_drew ?_ | refine blk_alloc ?_ _)); refine blk_far ?_ NB181_191.out _; (with_reducible repeat (first | refine blk_drewN ?_ _ | refine blk_drew ?_ | refine blk_alloc ?_ _)); refine blk_far ?_ NB181_191.out _; (with_reducible repeat (first | refine blk_drewN ?_ _ | refine blk_drew ?_ | refine blk_alloc ?_ _)); refine blk_far ?_ NB181_191.out _; (with_reducible repeat (first | refine blk_drewN ?_ _ | refine blk_drew ?_ | refine blk_alloc ?_ _)); exact BK181.out⟩
             have n1_ : Aside0 ((((w102.setCell ⟨gb191, 0, none⟩ (.int .i64 ((rd_T74 l0_4 x5_3).f0.f0))).setCell ⟨gb191, 1, none⟩ (.int .i64 ((rd_T74 l0_4 x5_3).f0.f1))).setCell ⟨gb191, 2, none⟩ (.int .i64 ((rd_T74 l0_4 x5_3).f1))).heap[gb191]? = some (.cells #[.int .i64 ((rd_T74 l0_4 x5_3).f0.f0), .int .i64 ((rd_T74 l0_4 x5_3).f0.f1), .int .i64 ((rd_T74 l0_4 x5_3).f1)] 74 (0, 0))) := ⟨by (with_reducible repeat (first | refine blk_drewN ?_ _ | refine blk_drew ?_ | refine blk_alloc ?_ _)); refine blk_put (cs := #[.int .i64 ((rd_T74 l0_4 x5_3).f0.f0), .int .i64 ((rd_T74 l0_4 x5_3).f0.f1), .int .i64 0]) ?_ 2 _ rfl; (with_reducible repeat (first | refine blk_drewN ?_ _ | refine blk_drew ?_ | refine blk_alloc ?_ _)); refine blk_put (cs := #[.int .i64 ((rd_T74 l0_4 x5_3).f0.f0), .int .i64 0, .int .i64 0]) ?_ 1 _ rfl; (with_reducible repeat (first | refine blk_drewN ?_ _ | refine blk_drew ?_ | refine blk_alloc ?_ _)); refine blk_put (cs := #[.int .i64 0, .int .i64 0, .int .i64 0]) ?_ 0 _ rfl; (with_reducible repeat (first | refine blk_drewN ?_ _ | refine blk_drew ?_ | refine blk_alloc ?_ _)); exact BK191.out⟩
             have n2_ : Aside0 (Below w.heap.size w (((w102.setCell ⟨gb191, 0, none⟩ (.int .i64 ((rd_T74 l0_4 x5_3).f0.f0))).setCell ⟨gb191, 1, none⟩ (.int .i64 ((rd_T74 l0_4 x5_3).f0.f1))).setCell ⟨gb191, 2, none⟩ (.int .i64 ((rd_T74 l0_4 x5_3).f1)))) := ⟨by repeat (first | (with_reducible first | exact HB.out | apply below_alloc | apply pw_below_drewN | apply below_drew1 | refine below_set ?_ GE181.out | refine below_set ?_ GE191.out) | exact HB.out)⟩
             (try clear BK181)
             (try clear BK191)
             (try clear HB)
             generalize (((w102.setCell ⟨gb191, 0, none⟩ (.int .i64 ((rd_T74 l0_4 x5_3).f0.f0))).setCell ⟨gb191, 1, none⟩ (.int .i64 ((rd_T74 l0_4 x5_3).f0.f1))).setCell ⟨gb191, 2, none⟩ (.int .i64 ((rd_T74 l0_4 x5_3).f1))) = w105 at n0_ n1_ n2_ ⊢
             have BK181 := n0_
             have BK191 := n1_
             have HB := n2_
             clear n0_ n1_ n2_
             replace BK181 := Aside0.mk (blk_drew BK181.out)
             replace BK191 := Aside0.mk (blk_drew BK191.out)
             replace HB := Aside0.mk (below_drew1 HB.out)
             refine start_ (n := 27) (S := fun w' => w'.cell? ⟨gb191, 0, none⟩ = some (.int .i64 ((rd_T74 l0_4 x5_3).f0.f0)) ∧ w'.cell? ⟨gb191, 1, none⟩ = some (.int .i64 ((rd_T74 l0_4 x5_3).f0.f1)) ∧ w'.cell? ⟨gb191, 2, none⟩ = some (.int .i64 ((rd_T74 l0_4 x5_3).f1))) (ds := []) ba5_41 (by kernel_rfl) rfl rfl ⟨(blk_cell BK191.out 0).trans rfl, (blk_cell BK191.out 1).trans rfl, (blk_cell BK191.out 2).trans rfl⟩ (fun hHeld => ?_); refine with_tabW spec_LsaOk.tab13 spec_LsaOk.bits13 (fun HT_ HW_ => ?_)
             generalize w105.drew = w106 at BK181 BK191 HB hHeld ⊢
             refine pz_ 0 92 ba5_42 HT_ ?_
             refine pt_ 1 93 ba5_43 HT_ HW_ hHeld ?_
             refine one_ (i := 2) (N := some 94) ba5_44 rfl rfl (one_of HT_.out (by kernel_rfl)) (by decide) (fun K hK => ?_)
             refine gz_ Try.func53 #[.agg #[.int .i64 ((rd_T74 l0_4 x5_3).f0.f0), .int .i64 ((rd_T74 l0_4 x5_3).f0.f1)]] ?_
             with_reducible refine (spec_PrefixOk.calls ((rd_T74 l0_4 x5_3).f0.f0) ((rd_T74 l0_4 x5_3).f0.f1) true _ A68.out).mono ?_
             rintro e w107 ⟨rfl, hb⟩
             refine ⟨_, rfl, ?_⟩
             replace BK181 := Aside0.mk (bb_ BK181 hb)
             replace BK191 := Aside0.mk (bb_ BK191 hb)
             replace HB := Aside0.mk (bt_ HB hb)
             (try clear hb)
             (try clear hb2)
             (try clear hk)
             (try clear hi)
             refine hK.out _ _ ⟨(blk_cell BK191.out 0).trans rfl, (blk_cell BK191.out 1).trans rfl, (blk_cell BK191.out 2).trans rfl⟩ (fun hHeld => ?_)
             clear hK K
             refine nz_ 94 ?_
             refine pz_ 3 95 ba5_45 HT_ ?_
             refine pz_ 4 96 ba5_46 HT_ ?_
             refine pz_ 5 97 ba5_47 HT_ ?_
             refine pt_ 6 98 ba5_48 HT_ HW_ hHeld ?_
             refine one_ (i := 7) (N := some 99) ba5_49 rfl rfl (one_of HT_.out (by kernel_rfl)) (by decide) (fun K hK => ?_)
             refine gz_ Try.func52 #[.int .i64 ((rd_T74 l0_4 x5_3).f1), .int .i64 1, .int .i64 1000] ?_
             with_reducible refine (spec_l01In.calls ((rd_T74 l0_4 x5_3).f1) 1 1000 false _ A70.out).mono ?_
             rintro e w' ⟨rfl, ⟨nd, rfl⟩⟩
             refine ⟨_, rfl, ?_⟩
             refine hK.out _ _ ⟨(blk_cell BK191.out 0).trans rfl, (blk_cell BK191.out 1).trans rfl, (blk_cell BK191.out 2).trans rfl⟩ (fun hHeld => ?_)
             clear hK K
             refine nz_ 99 ?_
             refine pz_ 8 100 ba5_50 HT_ ?_
             refine pz_ 9 101 ba5_51 HT_ ?_
             refine pz_ 10 102 ba5_52 HT_ ?_
             refine pu_ 11 103 ba5_53 HT_ ?_
             refine pu_ 12 104 ba5_54 HT_ ?_
             refine pu_ 13 105 ba5_55 HT_ ?_
             refine pu_ 14 106 ba5_56 HT_ ?_
             refine pu_ 15 107 ba5_69 HT_ ?_
             refine pu_ 16 108 ba5_70 HT_ ?_
             refine pu_ 17 109 ba5_71 HT_ ?_
             refine pu_ 18 110 ba5_72 HT_ ?_
             refine pu_ 19 111 ba5_73 HT_ ?_
             refine pu_ 20 112 ba5_74 HT_ ?_
             refine pu_ 21 113 ba5_63 HT_ ?_
             refine pu_ 22 114 ba5_64 HT_ ?_
             refine pu_ 23 115 ba5_65 HT_ ?_
             refine pu_ 24 116 ba5_66 HT_ ?_
             refine pu_ 25 117 ba5_67 HT_ ?_
             refine pz_ 26 118 ba5_68 HT_ ?_
             refine done_ (done_of HT_.out (by kernel_rfl)) ?_
             try go_wp2
             go_ret
             exact ⟨by first | rfl | (simp [errW_none, errW_some] <;> rfl) | (simp [*, errW_none, errW_some] <;> rfl), by repeat (first | (with_reducible first | exact HB.out | apply below_alloc | apply pw_below_drewN | apply below_drew1 | refine below_set ?_ GE181.out | refine below_set ?_ GE191.out) | exact HB.out)⟩
           ·replace c69 := Bool.eq_false_iff.mpr c69
            subst c69
            rw [if_neg (show ¬ (false = true) by decide)] at H
            obtain rfl := Option.some.inj H
            have hcz108_0 := cz_ BK181 0 (.int .i64 a0_0)
            have hcz108_1 := cz_ BK181 1 (.int .i64 a0_1)
            have hcz108_2 := cz_ BK181 2 (.int .i64 a0_2)
            have hcz108_3 := cz_ BK181 3 (.slice A0_3 l0_3.length c0_3)
            have hcz108_4 := cz_ BK181 4 (.slice A0_4 l0_4.length c0_4)
            have hfz108_0 := blk_frozen BK181.out 0
            have hfz108_1 := blk_frozen BK181.out 1
            have hfz108_2 := blk_frozen BK181.out 2
            have hfz108_3 := blk_frozen BK181.out 3
            have hfz108_4 := blk_frozen BK181.out 4
            have p190 : 0 ≤ (x5_3 : Int) := of_decide_eq_true (by first | (with_reducible assumption) | assumption)
            have q190 : x5_3 < (l0_4.length : Int) := of_decide_eq_true (by first | (with_reducible assumption) | assumption)
            obtain ⟨ad190, e190, hx190_0, hx190_1, hx190_2⟩ := at_T74 HR0_4.out x5_3 p190 q190
            cases e190
            replace hx190_0 := (HB.out.cell (World.block_lt_of_cell? w _ hx190_0)).trans hx190_0
            replace hx190_1 := (HB.out.cell (World.block_lt_of_cell? w _ hx190_1)).trans hx190_1
            replace hx190_2 := (HB.out.cell (World.block_lt_of_cell? w _ hx190_2)).trans hx190_2
            replace p190 := eq_true p190
            replace q190 := eq_true q190
            try go_wp2_with (first | ((with_reducible refine gate_dst (N := 6) rfl ?_); refine box_event ?hg (N := 6) ?hd (cs := #[.int .i64 0, .int .i64 0, .int .i64 0]) (t := 74) ?hr ?_; (case hd => rfl); (case hg => rfl); (case hr => first | (go_simp; done) | (go_simp; rfl)); intro gb191 hg w109 hbox hb; have BK191 := Aside0.mk hbox; have GW191 := ge_ HB hg; have GE191 := ge_ HB hg; have NB181_191 := nl_ BK181 hg; have NB191_181 := ng_ BK181 hg; replace HB := Aside0.mk (bt_ HB hb); replace BK181 := Aside0.mk (bb_ BK181 hb); clear hb hbox hg; have hnb110 := NB191_181.out; have hnc110 := NB181_191.out; have hcz111_0 := cz_ BK191 0 (.int .i64 0); have hcz111_1 := cz_ BK191 1 (.int .i64 0); have hcz111_2 := cz_ BK191 2 (.int .i64 0); have hfz111_0 := blk_frozen BK191.out 0; have hfz111_1 := blk_frozen BK191.out 1; have hfz111_2 := blk_frozen BK191.out 2))
            have n0_ : Aside0 ((((w109.setCell ⟨gb191, 0, none⟩ (.int .i64 ((rd_T74 l0_4 x5_3).f0.f0))).setCell ⟨gb191, 1, none⟩ (.int .i64 ((rd_T74 l0_4 x5_3).f0.f1))).setCell ⟨gb191, 2, none⟩ (.int .i64 ((rd_T74 l0_4 x5_3).f1))).heap[gb181]? = some (.cells #[.int .i64 a0_0, .int .i64 a0_1, .int .i64 a0_2, .slice A0_3 l0_3.length c0_3, .slice (some ad190) l0_4.length c0_4] 31 (0, 0))) := ⟨by (with_reducible repeat (first | refine blk_drewN ?_ _ | refine blk_drew ?_ | refine blk_alloc ?_ _)); refine blk_far ?_ NB181_191.out _; (with_reducible repeat (first | refine blk_drewN ?_ _ | refine blk_drew ?_ | refine blk_alloc ?_ _)); refine blk_far ?_ NB181_191.out _; (with_reducible repeat (first | refine blk_drewN ?_ _ | refine blk_drew ?_ | refine blk_alloc ?_ _)); refine blk_far ?_ NB181_191.out _; (with_reducible repeat (first | refine blk_drewN ?_ _ | refine blk_drew ?_ | refine blk_alloc ?_ _)); exact BK181.out⟩
            have n1_ : Aside0 ((((w109.setCell ⟨gb191, 0, none⟩ (.int .i64 ((rd_T74 l0_4 x5_3).f0.f0))).setCell ⟨gb191, 1, none⟩ (.int .i64 ((rd_T74 l0_4 x5_3).f0.f1))).setCell ⟨gb191, 2, none⟩ (.int .i64 ((rd_T74 l0_4 x5_3).f1))).heap[gb191]? = some (.cells #[.int .i64 ((rd_T74 l0_4 x5_3).f0.f0), .int .i64 ((rd_T74 l0_4 x5_3).f0.f1), .int .i64 ((rd_T74 l0_4 x5_3).f1)] 74 (0, 0))) := ⟨by (with_reducible repeat (first | refine blk_drewN ?_ _ | refine blk_drew ?_ | refine blk_alloc ?_ _)); refine blk_put (cs := #[.int .i64 ((rd_T74 l0_4 x5_3).f0.f0), .int .i64 ((rd_T74 l0_4 x5_3).f0.f1), .int .i64 0]) ?_ 2 _ rfl; (with_reducible repeat (first | refine blk_drewN ?_ _ | refine blk_drew ?_ | refine blk_alloc ?_ _)); refine blk_put (cs := #[.int .i64 ((rd_T74 l0_4 x5_3).f0.f0), .int .i64 0, .int .i64 0]) ?_ 1 _ rfl; (with_reducible repeat (first | refine blk_drewN ?_ _ | refine blk_drew ?_ | refine blk_alloc ?_ _)); refine blk_put (cs := #[.int .i64 0, .int .i64 0, .int .i64 0]) ?_ 0 _ rfl; (with_reducible repeat (first | refine blk_drewN ?_ _ | refine blk_drew ?_ | refine blk_alloc ?_ _)); exact BK191.out⟩
            have n2_ : Aside0 (Below w.heap.size w (((w109.setCell ⟨gb191, 0, none⟩ (.int .i64 ((rd_T74 l0_4 x5_3).f0.f0))).setCell ⟨gb191, 1, none⟩ (.int .i64 ((rd_T74 l0_4 x5_3).f0.f1))).setCell ⟨gb191, 2, none⟩ (.int .i64 ((rd_T74 l0_4 x5_3).f1)))) := ⟨by repeat (first | (with_reducible first | exact HB.out | apply below_alloc | apply pw_below_drewN | apply below_drew1 | refine below_set ?_ GE181.out | refine below_set ?_ GE191.out) | exact HB.out)⟩
            (try clear BK181)
            (try clear BK191)
            (try clear HB)
            generalize (((w109.setCell ⟨gb191, 0, none⟩ (.int .i64 ((rd_T74 l0_4 x5_3).f0.f0))).setCell ⟨gb191, 1, none⟩ (.int .i64 ((rd_T74 l0_4 x5_3).f0.f1))).setCell ⟨gb191, 2, none⟩ (.int .i64 ((rd_T74 l0_4 x5_3).f1))) = w112 at n0_ n1_ n2_ ⊢
            have BK181 := n0_
            have BK191 := n1_
            have HB := n2_
            clear n0_ n1_ n2_
            replace BK181 := Aside0.mk (blk_drew BK181.out)
            replace BK191 := Aside0.mk (blk_drew BK191.out)
            replace HB := Aside0.mk (below_drew1 HB.out)
            refine start_ (n := 27) (S := fun w' => w'.cell? ⟨gb191, 0, none⟩ = some (.int .i64 ((rd_T74 l0_4 x5_3).f0.f0)) ∧ w'.cell? ⟨gb191, 1, none⟩ = some (.int .i64 ((rd_T74 l0_4 x5_3).f0.f1)) ∧ w'.cell? ⟨gb191, 2, none⟩ = some (.int .i64 ((rd_T74 l0_4 x5_3).f1))) (ds := []) ba5_41 (by kernel_rfl) rfl rfl ⟨(blk_cell BK191.out 0).trans rfl, (blk_cell BK191.out 1).trans rfl, (blk_cell BK191.out 2).trans rfl⟩ (fun hHeld => ?_); refine with_tabW spec_LsaOk.tab13 spec_LsaOk.bits13 (fun HT_ HW_ => ?_)
            generalize w112.drew = w113 at BK181 BK191 HB hHeld ⊢
            refine pz_ 0 92 ba5_42 HT_ ?_
            refine pt_ 1 93 ba5_43 HT_ HW_ hHeld ?_
            refine one_ (i := 2) (N := some 94) ba5_44 rfl rfl (one_of HT_.out (by kernel_rfl)) (by decide) (fun K hK => ?_)
            refine gz_ Try.func53 #[.agg #[.int .i64 ((rd_T74 l0_4 x5_3).f0.f0), .int .i64 ((rd_T74 l0_4 x5_3).f0.f1)]] ?_
            with_reducible refine (spec_PrefixOk.calls ((rd_T74 l0_4 x5_3).f0.f0) ((rd_T74 l0_4 x5_3).f0.f1) false _ A68.out).mono ?_
            rintro e w114 ⟨rfl, hb⟩
            refine ⟨_, rfl, ?_⟩
            replace BK181 := Aside0.mk (bb_ BK181 hb)
            replace BK191 := Aside0.mk (bb_ BK191 hb)
            replace HB := Aside0.mk (bt_ HB hb)
            (try clear hb)
            (try clear hb2)
            (try clear hk)
            (try clear hi)
            refine hK.out _ _ ⟨(blk_cell BK191.out 0).trans rfl, (blk_cell BK191.out 1).trans rfl, (blk_cell BK191.out 2).trans rfl⟩ (fun hHeld => ?_)
            clear hK K
            refine nz_ 94 ?_
            refine pz_ 3 95 ba5_45 HT_ ?_
            refine pz_ 4 96 ba5_46 HT_ ?_
            refine pu_ 5 97 ba5_47 HT_ ?_
            refine pu_ 6 98 ba5_48 HT_ ?_
            refine pu_ 7 99 ba5_49 HT_ ?_
            refine pu_ 8 100 ba5_50 HT_ ?_
            refine pz_ 9 101 ba5_51 HT_ ?_
            refine pz_ 10 102 ba5_52 HT_ ?_
            refine pu_ 11 103 ba5_53 HT_ ?_
            refine pu_ 12 104 ba5_54 HT_ ?_
            refine pu_ 13 105 ba5_55 HT_ ?_
            refine pu_ 14 106 ba5_56 HT_ ?_
            refine pu_ 15 107 ba5_69 HT_ ?_
            refine pu_ 16 108 ba5_70 HT_ ?_
            refine pu_ 17 109 ba5_71 HT_ ?_
            refine pu_ 18 110 ba5_72 HT_ ?_
            refine pu_ 19 111 ba5_73 HT_ ?_
            refine pu_ 20 112 ba5_74 HT_ ?_
            refine pu_ 21 113 ba5_63 HT_ ?_
            refine pu_ 22 114 ba5_64 HT_ ?_
            refine pu_ 23 115 ba5_65 HT_ ?_
            refine pu_ 24 116 ba5_66 HT_ ?_
            refine pu_ 25 117 ba5_67 HT_ ?_
            refine pz_ 26 118 ba5_68 HT_ ?_
            refine done_ (done_of HT_.out (by kernel_rfl)) ?_
            try go_wp2
            go_ret
            exact ⟨by first | rfl | (simp [errW_none, errW_some] <;> rfl) | (simp [*, errW_none, errW_some] <;> rfl), by repeat (first | (with_reducible first | exact HB.out | apply below_alloc | apply pw_below_drewN | apply below_drew1 | refine below_set ?_ GE181.out | refine below_set ?_ GE191.out) | exact HB.out)⟩
          ·rw [if_neg c67] at H
           exact absurd H (by simp)
         ·rw [if_neg c66] at H
          have c66b0 : decide (x5_3 < (l0_4.length : Int)) = false := decide_eq_false c66
          clear c66
          obtain rfl := Option.some.inj H
          have hcz115_0 := cz_ BK181 0 (.int .i64 a0_0)
          have hcz115_1 := cz_ BK181 1 (.int .i64 a0_1)
          have hcz115_2 := cz_ BK181 2 (.int .i64 a0_2)
          have hcz115_3 := cz_ BK181 3 (.slice A0_3 l0_3.length c0_3)
          have hcz115_4 := cz_ BK181 4 (.slice A0_4 l0_4.length c0_4)
          have hfz115_0 := blk_frozen BK181.out 0
          have hfz115_1 := blk_frozen BK181.out 1
          have hfz115_2 := blk_frozen BK181.out 2
          have hfz115_3 := blk_frozen BK181.out 3
          have hfz115_4 := blk_frozen BK181.out 4
          go_wp2
          go_ret
          exact ⟨by first | rfl | (simp [errW_none, errW_some] <;> rfl) | (simp [*, errW_none, errW_some] <;> rfl), by repeat (first | (with_reducible first | exact HB.out | apply below_alloc | apply pw_below_drewN | apply below_drew1 | refine below_set ?_ GE181.out) | exact HB.out)⟩

end Go.Proofs.Ytiikcfaodkiakaa.QFnExactAgeLsa
