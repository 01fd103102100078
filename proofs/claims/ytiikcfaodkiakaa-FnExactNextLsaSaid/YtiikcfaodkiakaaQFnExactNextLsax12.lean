/- Contracts of functions that the law reaches: what each call returns and what it leaves in memory. Made by this session over the print of the kit. -/
import Derived.Test.YtiikcfaodkiakaaQFnExactNextLsax0
import Derived.Test.YtiikcfaodkiakaaQFnExactNextLsax1
import Derived.Test.YtiikcfaodkiakaaQFnExactNextLsax2
import Derived.Test.YtiikcfaodkiakaaQFnExactNextLsax3
import Derived.Test.YtiikcfaodkiakaaQFnExactNextLsax5
import Derived.Test.YtiikcfaodkiakaaQFnExactNextLsax10
import Derived.Test.YtiikcfaodkiakaaQFnExactNextLsax11
namespace Go.Proofs.Ytiikcfaodkiakaa.QFnExactNextLsa
open Go.RowKit Go.Proofs.YtiikcfaodkiakaaU.PrintWords Go.Proofs.YtiikcfaodkiakaaU.PrintLast Go.Proofs.YtiikcfaodkiakaaU.PrintMore
attribute [local go_sem] max2_int min2_int max_two min_two max_three min_three max_four min_four   -- for this text's walks alone
set_option linter.unusedVariables false
set_option linter.unusedSimpArgs false
def ba12_0 : Array Bool := #[false, false, false, false, false]
def ba12_1 : Array Bool := #[true, false, false, false, false]
def ba12_2 : Array Bool := #[true, true, false, false, false]
def ba12_3 : Array Bool := #[true, true, true, false, false]
def ba12_4 : Array Bool := #[true, true, true, true, false]
def ba12_5 : Array Bool := #[true, true, true, true, true]

/-! ### laws_FnExactNextLsa: function 7 -/
mutual
def laws_FnExactNextLsa.j0 : Nat → List (S85) → List (S89) → Bool → List (S70) → List (S74) → Bool → Bool → Int → Int → Int → List (S85) → List (S89) → Int → Int → Int → List (S70) → List (S74) → Int → Int → Int → List (S70) → List (S74) → Int → Int → Int → List (S70) → List (S74) → Option (Bool)
 | 0, _, _, _, _, _, _, _, _, _, _, _, _, _, _, _, _, _, _, _, _, _, _, _, _, _, _, _ => none
 | k + 1, x1, x2, x9, x11, x12, x14, x66, x258000, x258001, x258002, x258003, x258004, x287000, x287001, x287002, x287003, x287004, x297000, x297001, x297002, x297003, x297004, x314000, x314001, x314002, x314003, x314004 => if x66 = true then (some false) else ((laws_toLsa.f k x258000 x258001 x258002 x258003 x258004).bind fun bt315 => ((laws_eqLsa.f k x297000 x297001 x297002 x297003 x297004 bt315.1 bt315.2.1 bt315.2.2.1 bt315.2.2.2.1 bt315.2.2.2.2).bind fun t324 => (if t324 = true then ((laws_toLinkS.f k x1).bind fun t325 => ((laws_eqLinkS.f k x11 t325).bind fun t328 => (if t328 = true then ((laws_toStubS.f k x2).bind fun t329 => ((laws_eqStubS.f k x12 t329).bind fun t332 => (if t332 = true then ((laws_markLsa.f k x297000 x297001 x297002 x297003 x297004 1).bind fun bt333 => ((laws_markLinkS.f k x11 bt333.1).bind fun bt336 => ((laws_markStubS.f k x12 bt336.1).bind fun bt338 => (if bt338.1 < 0 then (laws_FnExactNextLsa.j1 k x1 x2 x9 true x258000 x258001 x258002 x258003 x258004 x287000 x287001 x287002 x287003 x287004 x314000 x314001 x314002 x314003 x314004) else ((laws_eqLsa.f k x314000 x314001 x314002 x314003 x314004 x287000 x287001 x287002 x287003 x287004).bind fun t340 => (if t340 = true then (laws_FnExactNextLsa.j1 k x1 x2 x9 (x14 != x9) x258000 x258001 x258002 x258003 x258004 x287000 x287001 x287002 x287003 x287004 x314000 x314001 x314002 x314003 x314004) else (laws_FnExactNextLsa.j1 k x1 x2 x9 true x258000 x258001 x258002 x258003 x258004 x287000 x287001 x287002 x287003 x287004 x314000 x314001 x314002 x314003 x314004))))))) else (some false)))) else (some false)))) else (some false))))
def laws_FnExactNextLsa.j1 : Nat → List (S85) → List (S89) → Bool → Bool → Int → Int → Int → List (S85) → List (S89) → Int → Int → Int → List (S70) → List (S74) → Int → Int → Int → List (S70) → List (S74) → Option (Bool)
 | 0, _, _, _, _, _, _, _, _, _, _, _, _, _, _, _, _, _, _, _ => none
 | k + 1, x1, x2, x9, x103, x258000, x258001, x258002, x258003, x258004, x287000, x287001, x287002, x287003, x287004, x314000, x314001, x314002, x314003, x314004 => if x103 = true then (some false) else ((laws_markLsa.f k x314000 x314001 x314002 x314003 x314004 1).bind fun bt341 => ((laws_heldLsa.f k x314000 x314001 x314002 bt341.2.1 bt341.2.2 1).bind fun t344 => (if t344 < 0 then (some false) else (if t344 = bt341.1 then ((laws_toLsa.f k x258000 x258001 x258002 x258003 x258004).bind fun bt345 => ((laws_toLinkS.f k x1).bind fun t354 => ((laws_toStubS.f k x2).bind fun t357 => ((impl_NextLsa.f k bt345.1 bt345.2.1 bt345.2.2.1 bt345.2.2.2.1 bt345.2.2.2.2 t354 t357).bind fun bt360 => ((laws_eqLsa.f k bt360.1 bt360.2.1 bt360.2.2.1 bt360.2.2.2.1 bt360.2.2.2.2.1 x287000 x287001 x287002 x287003 x287004).bind fun t371 => (if t371 = true then (laws_FnExactNextLsa.j2 k bt341.1 (bt360.2.2.2.2.2 != x9) x314000 x314001 x314002 bt341.2.1 bt341.2.2) else (laws_FnExactNextLsa.j2 k bt341.1 true x314000 x314001 x314002 bt341.2.1 bt341.2.2))))))) else (some false)))))
def laws_FnExactNextLsa.j2 : Nat → Int → Bool → Int → Int → Int → List (S70) → List (S74) → Option (Bool)
 | 0, _, _, _, _, _, _, _ => none
 | k + 1, x16, x133, x314000, x314001, x314002, x314003, x314004 => if x133 = true then (some false) else ((laws_heldLsa.f k x314000 x314001 x314002 x314003 x314004 1).bind fun t372 => (if t372 < 0 then (some false) else (if t372 = x16 then (some true) else (some false))))
end
def laws_FnExactNextLsa.f (k : Nat) (a0_0 : Int) (a0_1 : Int) (a0_2 : Int) (l0_3 : List (S85)) (l0_4 : List (S89)) (l1 : List (S85)) (l2 : List (S89)) : Option (Bool) := (laws_szLsa.f a0_0 a0_1 a0_2 l0_3 l0_4 1048576).bind fun t258 => (if t258 < 0 then (some true) else ((laws_szLinkS.f l1 t258).bind fun t259 => (if t259 < 0 then (some true) else ((laws_szStubS.f l2 t259).bind fun t260 => (if t260 < 0 then (some true) else ((laws_toLsa.f k a0_0 a0_1 a0_2 l0_3 l0_4).bind fun bt261 => ((laws_toLinkS.f k l1).bind fun t270 => ((laws_toStubS.f k l2).bind fun t273 => ((spec_NextLsa.f k bt261.1 bt261.2.1 bt261.2.2.1 bt261.2.2.2.1 bt261.2.2.2.2 t270 t273).bind fun bt276 => ((laws_toLsa.f k a0_0 a0_1 a0_2 l0_3 l0_4).bind fun bt287 => ((laws_toLinkS.f k l1).bind fun t297 => ((laws_toStubS.f k l2).bind fun t300 => ((impl_NextLsa.f k bt287.1 bt287.2.1 bt287.2.2.1 bt287.2.2.2.1 bt287.2.2.2.2 t297 t300).bind fun bt303 => ((laws_eqLsa.f k bt303.1 bt303.2.1 bt303.2.2.1 bt303.2.2.2.1 bt303.2.2.2.2.1 bt276.1 bt276.2.1 bt276.2.2.1 bt276.2.2.2.1 bt276.2.2.2.2.1).bind fun t314 => (if t314 = true then (laws_FnExactNextLsa.j0 k l1 l2 bt276.2.2.2.2.2 t297 t300 bt303.2.2.2.2.2 (bt303.2.2.2.2.2 != bt276.2.2.2.2.2) a0_0 a0_1 a0_2 l0_3 l0_4 bt276.1 bt276.2.1 bt276.2.2.1 bt276.2.2.2.1 bt276.2.2.2.2.1 bt287.1 bt287.2.1 bt287.2.2.1 bt287.2.2.2.1 bt287.2.2.2.2 bt303.1 bt303.2.1 bt303.2.2.1 bt303.2.2.2.1 bt303.2.2.2.2.1) else (laws_FnExactNextLsa.j0 k l1 l2 bt276.2.2.2.2.2 t297 t300 bt303.2.2.2.2.2 true a0_0 a0_1 a0_2 l0_3 l0_4 bt276.1 bt276.2.1 bt276.2.2.1 bt276.2.2.2.1 bt276.2.2.2.2.1 bt287.1 bt287.2.1 bt287.2.2.1 bt287.2.2.2.1 bt287.2.2.2.2 bt303.1 bt303.2.1 bt303.2.2.1 bt303.2.2.2.1 bt303.2.2.2.2.1))))))))))))))))
theorem laws_FnExactNextLsa.mono_l : ∀ k, (∀ y0 y1 y2 y3 y4 y5 y6 y7 y8 y9 y10 y11 y12 y13 y14 y15 y16 y17 y18 y19 y20 y21 y22 y23 y24 y25 y26, LeO (laws_FnExactNextLsa.j0 k y0 y1 y2 y3 y4 y5 y6 y7 y8 y9 y10 y11 y12 y13 y14 y15 y16 y17 y18 y19 y20 y21 y22 y23 y24 y25 y26) (laws_FnExactNextLsa.j0 (k + 1) y0 y1 y2 y3 y4 y5 y6 y7 y8 y9 y10 y11 y12 y13 y14 y15 y16 y17 y18 y19 y20 y21 y22 y23 y24 y25 y26)) ∧ (∀ y0 y1 y2 y3 y4 y5 y6 y7 y8 y9 y10 y11 y12 y13 y14 y15 y16 y17 y18, LeO (laws_FnExactNextLsa.j1 k y0 y1 y2 y3 y4 y5 y6 y7 y8 y9 y10 y11 y12 y13 y14 y15 y16 y17 y18) (laws_FnExactNextLsa.j1 (k + 1) y0 y1 y2 y3 y4 y5 y6 y7 y8 y9 y10 y11 y12 y13 y14 y15 y16 y17 y18)) ∧ (∀ y0 y1 y2 y3 y4 y5 y6, LeO (laws_FnExactNextLsa.j2 k y0 y1 y2 y3 y4 y5 y6) (laws_FnExactNextLsa.j2 (k + 1) y0 y1 y2 y3 y4 y5 y6))
 | 0 => ⟨fun _ _ _ _ _ _ _ _ _ _ _ _ _ _ _ _ _ _ _ _ _ _ _ _ _ _ _ r h => by simp [laws_FnExactNextLsa.j0] at h, fun _ _ _ _ _ _ _ _ _ _ _ _ _ _ _ _ _ _ _ r h => by simp [laws_FnExactNextLsa.j1] at h, fun _ _ _ _ _ _ _ r h => by simp [laws_FnExactNextLsa.j2] at h⟩
 | k + 1 => by
  obtain ⟨ih0, ih1, ih2⟩ := laws_FnExactNextLsa.mono_l k
  refine ⟨?_, ?_, ?_⟩
  ·intro y0 y1 y2 y3 y4 y5 y6 y7 y8 y9 y10 y11 y12 y13 y14 y15 y16 y17 y18 y19 y20 y21 y22 y23 y24 y25 y26
   unfold laws_FnExactNextLsa.j0
   repeat' first
   | (with_reducible exact ih0 _ _ _ _ _ _ _ _ _ _ _ _ _ _ _ _ _ _ _ _ _ _ _ _ _ _ _)
   | (with_reducible exact ih1 _ _ _ _ _ _ _ _ _ _ _ _ _ _ _ _ _ _ _)
   | (with_reducible exact ih2 _ _ _ _ _ _ _)
   | (with_reducible exact impl_NextLsa.mono _ _ _ _ _ _ _ _)
   | (with_reducible exact laws_eqLinkS.mono _ _ _)
   | (with_reducible exact laws_eqLsa.mono _ _ _ _ _ _ _ _ _ _ _)
   | (with_reducible exact laws_eqStubS.mono _ _ _)
   | (with_reducible exact laws_heldLsa.mono _ _ _ _ _ _ _)
   | (with_reducible exact laws_markLinkS.mono _ _ _)
   | (with_reducible exact laws_markLsa.mono _ _ _ _ _ _ _)
   | (with_reducible exact laws_markStubS.mono _ _ _)
   | (with_reducible exact laws_toLinkS.mono _ _)
   | (with_reducible exact laws_toLsa.mono _ _ _ _ _ _)
   | (with_reducible exact laws_toStubS.mono _ _)
   | (with_reducible exact spec_NextLsa.mono _ _ _ _ _ _ _ _)
   | (with_reducible exact LeO.refl _)
   | (with_reducible exact LeO.none _)
   | (with_reducible refine LeO.ite ?_ ?_)
   | (with_reducible refine LeO.bind ?_ (fun _ => ?_))
   | exact ih0 _ _ _ _ _ _ _ _ _ _ _ _ _ _ _ _ _ _ _ _ _ _ _ _ _ _ _
   | exact ih1 _ _ _ _ _ _ _ _ _ _ _ _ _ _ _ _ _ _ _
   | exact ih2 _ _ _ _ _ _ _
   | exact impl_NextLsa.mono _ _ _ _ _ _ _ _
   | exact laws_eqLinkS.mono _ _ _
   | exact laws_eqLsa.mono _ _ _ _ _ _ _ _ _ _ _
   | exact laws_eqStubS.mono _ _ _
   | exact laws_heldLsa.mono _ _ _ _ _ _ _
   | exact laws_markLinkS.mono _ _ _
   | exact laws_markLsa.mono _ _ _ _ _ _ _
   | exact laws_markStubS.mono _ _ _
   | exact laws_toLinkS.mono _ _
   | exact laws_toLsa.mono _ _ _ _ _ _
   | exact laws_toStubS.mono _ _
   | exact spec_NextLsa.mono _ _ _ _ _ _ _ _
   | exact LeO.none _
   | refine LeO.ite ?_ ?_
   | refine LeO.bind ?_ (fun _ => ?_)
  ·intro y0 y1 y2 y3 y4 y5 y6 y7 y8 y9 y10 y11 y12 y13 y14 y15 y16 y17 y18
   unfold laws_FnExactNextLsa.j1
   repeat' first
   | (with_reducible exact ih0 _ _ _ _ _ _ _ _ _ _ _ _ _ _ _ _ _ _ _ _ _ _ _ _ _ _ _)
   | (with_reducible exact ih1 _ _ _ _ _ _ _ _ _ _ _ _ _ _ _ _ _ _ _)
   | (with_reducible exact ih2 _ _ _ _ _ _ _)
   | (with_reducible exact impl_NextLsa.mono _ _ _ _ _ _ _ _)
   | (with_reducible exact laws_eqLinkS.mono _ _ _)
   | (with_reducible exact laws_eqLsa.mono _ _ _ _ _ _ _ _ _ _ _)
   | (with_reducible exact laws_eqStubS.mono _ _ _)
   | (with_reducible exact laws_heldLsa.mono _ _ _ _ _ _ _)
   | (with_reducible exact laws_markLinkS.mono _ _ _)
   | (with_reducible exact laws_markLsa.mono _ _ _ _ _ _ _)
   | (with_reducible exact laws_markStubS.mono _ _ _)
   | (with_reducible exact laws_toLinkS.mono _ _)
   | (with_reducible exact laws_toLsa.mono _ _ _ _ _ _)
   | (with_reducible exact laws_toStubS.mono _ _)
   | (with_reducible exact spec_NextLsa.mono _ _ _ _ _ _ _ _)
   | (with_reducible exact LeO.refl _)
   | (with_reducible exact LeO.none _)
   | (with_reducible refine LeO.ite ?_ ?_)
   | (with_reducible refine LeO.bind ?_ (fun _ => ?_))
   | exact ih0 _ _ _ _ _ _ _ _ _ _ _ _ _ _ _ _ _ _ _ _ _ _ _ _ _ _ _
   | exact ih1 _ _ _ _ _ _ _ _ _ _ _ _ _ _ _ _ _ _ _
   | exact ih2 _ _ _ _ _ _ _
   | exact impl_NextLsa.mono _ _ _ _ _ _ _ _
   | exact laws_eqLinkS.mono _ _ _
   | exact laws_eqLsa.mono _ _ _ _ _ _ _ _ _ _ _
   | exact laws_eqStubS.mono _ _ _
   | exact laws_heldLsa.mono _ _ _ _ _ _ _
   | exact laws_markLinkS.mono _ _ _
   | exact laws_markLsa.mono _ _ _ _ _ _ _
   | exact laws_markStubS.mono _ _ _
   | exact laws_toLinkS.mono _ _
   | exact laws_toLsa.mono _ _ _ _ _ _
   | exact laws_toStubS.mono _ _
   | exact spec_NextLsa.mono _ _ _ _ _ _ _ _
   | exact LeO.none _
   | refine LeO.ite ?_ ?_
   | refine LeO.bind ?_ (fun _ => ?_)
  ·intro y0 y1 y2 y3 y4 y5 y6
   unfold laws_FnExactNextLsa.j2
   repeat' first
   | (with_reducible exact ih0 _ _ _ _ _ _ _ _ _ _ _ _ _ _ _ _ _ _ _ _ _ _ _ _ _ _ _)
   | (with_reducible exact ih1 _ _ _ _ _ _ _ _ _ _ _ _ _ _ _ _ _ _ _)
   | (with_reducible exact ih2 _ _ _ _ _ _ _)
   | (with_reducible exact impl_NextLsa.mono _ _ _ _ _ _ _ _)
   | (with_reducible exact laws_eqLinkS.mono _ _ _)
   | (with_reducible exact laws_eqLsa.mono _ _ _ _ _ _ _ _ _ _ _)
   | (with_reducible exact laws_eqStubS.mono _ _ _)
   | (with_reducible exact laws_heldLsa.mono _ _ _ _ _ _ _)
   | (with_reducible exact laws_markLinkS.mono _ _ _)
   | (with_reducible exact laws_markLsa.mono _ _ _ _ _ _ _)
   | (with_reducible exact laws_markStubS.mono _ _ _)
   | (with_reducible exact laws_toLinkS.mono _ _)
   | (with_reducible exact laws_toLsa.mono _ _ _ _ _ _)
   | (with_reducible exact laws_toStubS.mono _ _)
   | (with_reducible exact spec_NextLsa.mono _ _ _ _ _ _ _ _)
   | (with_reducible exact LeO.refl _)
   | (with_reducible exact LeO.none _)
   | (with_reducible refine LeO.ite ?_ ?_)
   | (with_reducible refine LeO.bind ?_ (fun _ => ?_))
   | exact ih0 _ _ _ _ _ _ _ _ _ _ _ _ _ _ _ _ _ _ _ _ _ _ _ _ _ _ _
   | exact ih1 _ _ _ _ _ _ _ _ _ _ _ _ _ _ _ _ _ _ _
   | exact ih2 _ _ _ _ _ _ _
   | exact impl_NextLsa.mono _ _ _ _ _ _ _ _
   | exact laws_eqLinkS.mono _ _ _
   | exact laws_eqLsa.mono _ _ _ _ _ _ _ _ _ _ _
   | exact laws_eqStubS.mono _ _ _
   | exact laws_heldLsa.mono _ _ _ _ _ _ _
   | exact laws_markLinkS.mono _ _ _
   | exact laws_markLsa.mono _ _ _ _ _ _ _
   | exact laws_markStubS.mono _ _ _
   | exact laws_toLinkS.mono _ _
   | exact laws_toLsa.mono _ _ _ _ _ _
   | exact laws_toStubS.mono _ _
   | exact spec_NextLsa.mono _ _ _ _ _ _ _ _
   | exact LeO.none _
   | refine LeO.ite ?_ ?_
   | refine LeO.bind ?_ (fun _ => ?_)
theorem laws_FnExactNextLsa.mono : ∀ a0 a1 a2 a3 a4 a5 a6 k, LeO (laws_FnExactNextLsa.f k a0 a1 a2 a3 a4 a5 a6) (laws_FnExactNextLsa.f (k + 1) a0 a1 a2 a3 a4 a5 a6) := by
 intro a0 a1 a2 a3 a4 a5 a6 k
 obtain ⟨ih0, ih1, ih2⟩ := laws_FnExactNextLsa.mono_l k
 unfold laws_FnExactNextLsa.f
 repeat' first
   | (with_reducible exact ih0 _ _ _ _ _ _ _ _ _ _ _ _ _ _ _ _ _ _ _ _ _ _ _ _ _ _ _)
   | (with_reducible exact ih1 _ _ _ _ _ _ _ _ _ _ _ _ _ _ _ _ _ _ _)
   | (with_reducible exact ih2 _ _ _ _ _ _ _)
   | (with_reducible exact impl_NextLsa.mono _ _ _ _ _ _ _ _)
   | (with_reducible exact laws_eqLinkS.mono _ _ _)
   | (with_reducible exact laws_eqLsa.mono _ _ _ _ _ _ _ _ _ _ _)
   | (with_reducible exact laws_eqStubS.mono _ _ _)
   | (with_reducible exact laws_heldLsa.mono _ _ _ _ _ _ _)
   | (with_reducible exact laws_markLinkS.mono _ _ _)
   | (with_reducible exact laws_markLsa.mono _ _ _ _ _ _ _)
   | (with_reducible exact laws_markStubS.mono _ _ _)
   | (with_reducible exact laws_toLinkS.mono _ _)
   | (with_reducible exact laws_toLsa.mono _ _ _ _ _ _)
   | (with_reducible exact laws_toStubS.mono _ _)
   | (with_reducible exact spec_NextLsa.mono _ _ _ _ _ _ _ _)
   | (with_reducible exact LeO.refl _)
   | (with_reducible exact LeO.none _)
   | (with_reducible refine LeO.ite ?_ ?_)
   | (with_reducible refine LeO.bind ?_ (fun _ => ?_))
   | exact ih0 _ _ _ _ _ _ _ _ _ _ _ _ _ _ _ _ _ _ _ _ _ _ _ _ _ _ _
   | exact ih1 _ _ _ _ _ _ _ _ _ _ _ _ _ _ _ _ _ _ _
   | exact ih2 _ _ _ _ _ _ _
   | exact impl_NextLsa.mono _ _ _ _ _ _ _ _
   | exact laws_eqLinkS.mono _ _ _
   | exact laws_eqLsa.mono _ _ _ _ _ _ _ _ _ _ _
   | exact laws_eqStubS.mono _ _ _
   | exact laws_heldLsa.mono _ _ _ _ _ _ _
   | exact laws_markLinkS.mono _ _ _
   | exact laws_markLsa.mono _ _ _ _ _ _ _
   | exact laws_markStubS.mono _ _ _
   | exact laws_toLinkS.mono _ _
   | exact laws_toLsa.mono _ _ _ _ _ _
   | exact laws_toStubS.mono _ _
   | exact spec_NextLsa.mono _ _ _ _ _ _ _ _
   | exact LeO.none _
   | refine LeO.ite ?_ ?_
   | refine LeO.bind ?_ (fun _ => ?_)
set_option maxHeartbeats 8000000 in
set_option maxRecDepth 100000 in
theorem laws_FnExactNextLsa.calls (k : Nat) (a0_0 : Int) (a0_1 : Int) (a0_2 : Int) (A0_3 : Option Addr) (c0_3 : Nat) (l0_3 : List (S85)) (A0_4 : Option Addr) (c0_4 : Nat) (l0_4 : List (S89)) (A1 : Option Addr) (c1 : Nat) (l1 : List (S85)) (A2 : Option Addr) (c2 : Nat) (l2 : List (S89)) (r : Bool) (w : World) (hr0_3 : Kd.C k85 w A0_3 l0_3.length l0_3) (hc0_3 : l0_3.length ≤ c0_3) (hr0_4 : Kd.C k89 w A0_4 l0_4.length l0_4) (hc0_4 : l0_4.length ≤ c0_4) (hr1 : Kd.C k85 w A1 l1.length l1) (hc1 : l1.length ≤ c1) (hr2 : Kd.C k89 w A2 l2.length l2) (hc2 : l2.length ≤ c2) (h : laws_FnExactNextLsa.f k a0_0 a0_1 a0_2 l0_3 l0_4 l1 l2 = some r) :
  Calls Try.prog 7 #[.agg #[.int .i64 a0_0, .int .i64 a0_1, .int .i64 a0_2, .slice A0_3 l0_3.length c0_3, .slice A0_4 l0_4.length c0_4], .slice A1 l1.length c1, .slice A2 l2.length c2] w fun e w' => e = .returned (.bool r) ∧ Below w.heap.size w w' := by
 have hu25 := Try.underlying25
 have hu31 := Try.underlying31
 have HR0_3 := Aside0.mk hr0_3
 have HC0_3 := Aside0.mk hc0_3
 clear hr0_3 hc0_3
 have HR0_4 := Aside0.mk hr0_4
 have HC0_4 := Aside0.mk hc0_4
 clear hr0_4 hc0_4
 have HR1 := Aside0.mk hr1
 have HC1 := Aside0.mk hc1
 clear hr1 hc1
 have HR2 := Aside0.mk hr2
 have HC2 := Aside0.mk hc2
 clear hr2 hc2
 have HB := Aside0.mk (Below.refl w.heap.size w)
 have H : ((laws_szLsa.f a0_0 a0_1 a0_2 l0_3 l0_4 1048576).bind fun t258 => (if t258 < 0 then (some true) else ((laws_szLinkS.f l1 t258).bind fun t259 => (if t259 < 0 then (some true) else ((laws_szStubS.f l2 t259).bind fun t260 => (if t260 < 0 then (some true) else ((laws_toLsa.f k a0_0 a0_1 a0_2 l0_3 l0_4).bind fun bt261 => ((laws_toLinkS.f k l1).bind fun t270 => ((laws_toStubS.f k l2).bind fun t273 => ((spec_NextLsa.f k bt261.1 bt261.2.1 bt261.2.2.1 bt261.2.2.2.1 bt261.2.2.2.2 t270 t273).bind fun bt276 => ((laws_toLsa.f k a0_0 a0_1 a0_2 l0_3 l0_4).bind fun bt287 => ((laws_toLinkS.f k l1).bind fun t297 => ((laws_toStubS.f k l2).bind fun t300 => ((impl_NextLsa.f k bt287.1 bt287.2.1 bt287.2.2.1 bt287.2.2.2.1 bt287.2.2.2.2 t297 t300).bind fun bt303 => ((laws_eqLsa.f k bt303.1 bt303.2.1 bt303.2.2.1 bt303.2.2.2.1 bt303.2.2.2.2.1 bt276.1 bt276.2.1 bt276.2.2.1 bt276.2.2.2.1 bt276.2.2.2.2.1).bind fun t314 => (if t314 = true then (laws_FnExactNextLsa.j0 k l1 l2 bt276.2.2.2.2.2 t297 t300 bt303.2.2.2.2.2 (bt303.2.2.2.2.2 != bt276.2.2.2.2.2) a0_0 a0_1 a0_2 l0_3 l0_4 bt276.1 bt276.2.1 bt276.2.2.1 bt276.2.2.2.1 bt276.2.2.2.2.1 bt287.1 bt287.2.1 bt287.2.2.1 bt287.2.2.2.1 bt287.2.2.2.2 bt303.1 bt303.2.1 bt303.2.2.1 bt303.2.2.2.1 bt303.2.2.2.2.1) else (laws_FnExactNextLsa.j0 k l1 l2 bt276.2.2.2.2.2 t297 t300 bt303.2.2.2.2.2 true a0_0 a0_1 a0_2 l0_3 l0_4 bt276.1 bt276.2.1 bt276.2.2.1 bt276.2.2.2.1 bt276.2.2.2.2.1 bt287.1 bt287.2.1 bt287.2.2.1 bt287.2.2.2.1 bt287.2.2.2.2 bt303.1 bt303.2.1 bt303.2.2.1 bt303.2.2.2.1 bt303.2.2.2.2.1))))))))))))))))) = some r := h
 clear h
 replace H := Option.bind_eq_some_iff.mp H
 obtain ⟨t258, A40, H⟩ := H
 have A4 := Aside0.mk A40
 clear A40
 by_cases c5 : t258 < 0
 ·rw [if_pos c5] at H
  have c5b0 : decide (t258 < 0) = true := decide_eq_true c5
  clear c5
  obtain rfl := Option.some.inj H
  go_enter Try.func7, Try.ntmps7
  go_wp2_with (first | ((with_reducible refine gate_dst (N := 3) rfl ?_); refine box_event ?hg (N := 3) ?hd (cs := #[.int .i64 a0_0, .int .i64 a0_1, .int .i64 a0_2, .slice A0_3 l0_3.length c0_3, .slice A0_4 l0_4.length c0_4]) (t := 25) ?hr ?_; (case hd => rfl); (case hg => rfl); (case hr => first | (go_simp; done) | (go_simp; rfl)); intro gb257 hg w6 hbox hb; have BK257 := Aside0.mk hbox; have GW257 := ge_ HB hg; have GE257 := ge_ HB hg; replace HB := Aside0.mk (bt_ HB hb); clear hb hbox hg; have hcz7_0 := cz_ BK257 0 (.int .i64 a0_0); have hcz7_1 := cz_ BK257 1 (.int .i64 a0_1); have hcz7_2 := cz_ BK257 2 (.int .i64 a0_2); have hcz7_3 := cz_ BK257 3 (.slice A0_3 l0_3.length c0_3); have hcz7_4 := cz_ BK257 4 (.slice A0_4 l0_4.length c0_4); have hfz7_0 := blk_frozen BK257.out 0; have hfz7_1 := blk_frozen BK257.out 1; have hfz7_2 := blk_frozen BK257.out 2; have hfz7_3 := blk_frozen BK257.out 3; have hfz7_4 := blk_frozen BK257.out 4) | ((with_reducible refine gate_callee (f := 13) rfl ?_); refine gl_ (some 22) Try.func13 #[.agg #[.int .i64 a0_0, .int .i64 a0_1, .int .i64 a0_2, .slice A0_3 l0_3.length c0_3, .slice A0_4 l0_4.length c0_4], .int .i64 1048576] ?_; (with_reducible refine (laws_szLsa.calls a0_0 a0_1 a0_2 _ _ l0_3 _ _ l0_4 1048576 t258 _ ?side1 ?side2 ?side3 ?side4 A4.out).mono ?_); (case side1 => exact cb_ HR0_3 HB); (case side2 => exact HC0_3.out); (case side3 => exact cb_ HR0_4 HB); (case side4 => exact HC0_4.out); rintro e w8 ⟨rfl, hb⟩; refine ⟨_, rfl, ?_⟩; replace BK257 := Aside0.mk (bb_ BK257 hb); replace HB := Aside0.mk (bt_ HB hb); (try clear hb); (try clear hb2); (try clear hk); (try clear hi)))
  go_ret
  exact ⟨by first | rfl | (simp [errW_none, errW_some] <;> rfl) | (simp [*, errW_none, errW_some] <;> rfl), by repeat (first | (with_reducible first | exact HB.out | apply below_alloc | apply pw_below_drewN | apply below_drew1 | refine below_set ?_ GE257.out) | exact HB.out)⟩
 ·rw [if_neg c5] at H
  have c5b0 : decide (t258 < 0) = false := decide_eq_false c5
  clear c5
  replace H := Option.bind_eq_some_iff.mp H
  obtain ⟨t259, A90, H⟩ := H
  have A9 := Aside0.mk A90
  clear A90
  by_cases c10 : t259 < 0
  ·rw [if_pos c10] at H
   have c10b0 : decide (t259 < 0) = true := decide_eq_true c10
   clear c10
   obtain rfl := Option.some.inj H
   go_enter Try.func7, Try.ntmps7
   go_wp2_with (first | ((with_reducible refine gate_dst (N := 3) rfl ?_); refine box_event ?hg (N := 3) ?hd (cs := #[.int .i64 a0_0, .int .i64 a0_1, .int .i64 a0_2, .slice A0_3 l0_3.length c0_3, .slice A0_4 l0_4.length c0_4]) (t := 25) ?hr ?_; (case hd => rfl); (case hg => rfl); (case hr => first | (go_simp; done) | (go_simp; rfl)); intro gb257 hg w11 hbox hb; have BK257 := Aside0.mk hbox; have GW257 := ge_ HB hg; have GE257 := ge_ HB hg; replace HB := Aside0.mk (bt_ HB hb); clear hb hbox hg; have hcz12_0 := cz_ BK257 0 (.int .i64 a0_0); have hcz12_1 := cz_ BK257 1 (.int .i64 a0_1); have hcz12_2 := cz_ BK257 2 (.int .i64 a0_2); have hcz12_3 := cz_ BK257 3 (.slice A0_3 l0_3.length c0_3); have hcz12_4 := cz_ BK257 4 (.slice A0_4 l0_4.length c0_4); have hfz12_0 := blk_frozen BK257.out 0; have hfz12_1 := blk_frozen BK257.out 1; have hfz12_2 := blk_frozen BK257.out 2; have hfz12_3 := blk_frozen BK257.out 3; have hfz12_4 := blk_frozen BK257.out 4) | ((with_reducible refine gate_callee (f := 13) rfl ?_); refine gl_ (some 22) Try.func13 #[.agg #[.int .i64 a0_0, .int .i64 a0_1, .int .i64 a0_2, .slice A0_3 l0_3.length c0_3, .slice A0_4 l0_4.length c0_4], .int .i64 1048576] ?_; (with_reducible refine (laws_szLsa.calls a0_0 a0_1 a0_2 _ _ l0_3 _ _ l0_4 1048576 t258 _ ?side1 ?side2 ?side3 ?side4 A4.out).mono ?_); (case side1 => exact cb_ HR0_3 HB); (case side2 => exact HC0_3.out); (case side3 => exact cb_ HR0_4 HB); (case side4 => exact HC0_4.out); rintro e w13 ⟨rfl, hb⟩; refine ⟨_, rfl, ?_⟩; replace BK257 := Aside0.mk (bb_ BK257 hb); replace HB := Aside0.mk (bt_ HB hb); (try clear hb); (try clear hb2); (try clear hk); (try clear hi)) | ((with_reducible refine gate_callee (f := 27) rfl ?_); refine gl_ (some 27) Try.func27 #[.slice A1 l1.length c1, .int .i64 t258] ?_; (with_reducible refine (laws_szLinkS.calls _ _ l1 t258 t259 _ ?side1 ?side2 A9.out).mono ?_); (case side1 => exact cb_ HR1 HB); (case side2 => exact HC1.out); rintro e w' ⟨rfl, ⟨nd, rfl⟩⟩; refine ⟨_, rfl, ?_⟩))
   go_ret
   exact ⟨by first | rfl | (simp [errW_none, errW_some] <;> rfl) | (simp [*, errW_none, errW_some] <;> rfl), by repeat (first | (with_reducible first | exact HB.out | apply below_alloc | apply pw_below_drewN | apply below_drew1 | refine below_set ?_ GE257.out) | exact HB.out)⟩
  ·rw [if_neg c10] at H
   have c10b0 : decide (t259 < 0) = false := decide_eq_false c10
   clear c10
   replace H := Option.bind_eq_some_iff.mp H
   obtain ⟨t260, A140, H⟩ := H
   have A14 := Aside0.mk A140
   clear A140
   by_cases c15 : t260 < 0
   ·rw [if_pos c15] at H
    have c15b0 : decide (t260 < 0) = true := decide_eq_true c15
    clear c15
    obtain rfl := Option.some.inj H
    go_enter Try.func7, Try.ntmps7
    go_wp2_with (first | ((with_reducible refine gate_dst (N := 3) rfl ?_); refine box_event ?hg (N := 3) ?hd (cs := #[.int .i64 a0_0, .int .i64 a0_1, .int .i64 a0_2, .slice A0_3 l0_3.length c0_3, .slice A0_4 l0_4.length c0_4]) (t := 25) ?hr ?_; (case hd => rfl); (case hg => rfl); (case hr => first | (go_simp; done) | (go_simp; rfl)); intro gb257 hg w16 hbox hb; have BK257 := Aside0.mk hbox; have GW257 := ge_ HB hg; have GE257 := ge_ HB hg; replace HB := Aside0.mk (bt_ HB hb); clear hb hbox hg; have hcz17_0 := cz_ BK257 0 (.int .i64 a0_0); have hcz17_1 := cz_ BK257 1 (.int .i64 a0_1); have hcz17_2 := cz_ BK257 2 (.int .i64 a0_2); have hcz17_3 := cz_ BK257 3 (.slice A0_3 l0_3.length c0_3); have hcz17_4 := cz_ BK257 4 (.slice A0_4 l0_4.length c0_4); have hfz17_0 := blk_frozen BK257.out 0; have hfz17_1 := blk_frozen BK257.out 1; have hfz17_2 := blk_frozen BK257.out 2; have hfz17_3 := blk_frozen BK257.out 3; have hfz17_4 := blk_frozen BK257.out 4) | ((with_reducible refine gate_callee (f := 13) rfl ?_); refine gl_ (some 22) Try.func13 #[.agg #[.int .i64 a0_0, .int .i64 a0_1, .int .i64 a0_2, .slice A0_3 l0_3.length c0_3, .slice A0_4 l0_4.length c0_4], .int .i64 1048576] ?_; (with_reducible refine (laws_szLsa.calls a0_0 a0_1 a0_2 _ _ l0_3 _ _ l0_4 1048576 t258 _ ?side1 ?side2 ?side3 ?side4 A4.out).mono ?_); (case side1 => exact cb_ HR0_3 HB); (case side2 => exact HC0_3.out); (case side3 => exact cb_ HR0_4 HB); (case side4 => exact HC0_4.out); rintro e w18 ⟨rfl, hb⟩; refine ⟨_, rfl, ?_⟩; replace BK257 := Aside0.mk (bb_ BK257 hb); replace HB := Aside0.mk (bt_ HB hb); (try clear hb); (try clear hb2); (try clear hk); (try clear hi)) | ((with_reducible refine gate_callee (f := 27) rfl ?_); refine gl_ (some 27) Try.func27 #[.slice A1 l1.length c1, .int .i64 t258] ?_; (with_reducible refine (laws_szLinkS.calls _ _ l1 t258 t259 _ ?side1 ?side2 A9.out).mono ?_); (case side1 => exact cb_ HR1 HB); (case side2 => exact HC1.out); rintro e w' ⟨rfl, ⟨nd, rfl⟩⟩; refine ⟨_, rfl, ?_⟩) | ((with_reducible refine gate_callee (f := 28) rfl ?_); refine gl_ (some 32) Try.func28 #[.slice A2 l2.length c2, .int .i64 t259] ?_; (with_reducible refine (laws_szStubS.calls _ _ l2 t259 t260 _ ?side1 ?side2 A14.out).mono ?_); (case side1 => exact cc_ HR2 HB); (case side2 => exact HC2.out); rintro e w' ⟨rfl, ⟨nd, rfl⟩⟩; refine ⟨_, rfl, ?_⟩))
    go_ret
    exact ⟨by first | rfl | (simp [errW_none, errW_some] <;> rfl) | (simp [*, errW_none, errW_some] <;> rfl), by repeat (first | (with_reducible first | exact HB.out | apply below_alloc | apply pw_below_drewN | apply below_drew1 | refine below_set ?_ GE257.out) | exact HB.out)⟩
   ·rw [if_neg c15] at H
    have c15b0 : decide (t260 < 0) = false := decide_eq_false c15
    clear c15
    replace H := Option.bind_eq_some_iff.mp H
    obtain ⟨⟨t261, t262, t263, t264, t267⟩, A190, H⟩ := H
    have A19 := Aside0.mk A190
    clear A190
    replace H := Option.bind_eq_some_iff.mp H
    obtain ⟨t270, A200, H⟩ := H
    have A20 := Aside0.mk A200
    clear A200
    replace H := Option.bind_eq_some_iff.mp H
    obtain ⟨t273, A210, H⟩ := H
    have A21 := Aside0.mk A210
    clear A210
    replace H := Option.bind_eq_some_iff.mp H
    obtain ⟨⟨t276, t277, t278, t279, t282, t285⟩, A220, H⟩ := H
    have A22 := Aside0.mk A220
    clear A220
    replace H := Option.bind_eq_some_iff.mp H
    obtain ⟨⟨t287, t288, t289, t290, t293⟩, A230, H⟩ := H
    have A23 := Aside0.mk A230
    clear A230
    replace H := Option.bind_eq_some_iff.mp H
    obtain ⟨t297, A240, H⟩ := H
    have A24 := Aside0.mk A240
    clear A240
    replace H := Option.bind_eq_some_iff.mp H
    obtain ⟨t300, A250, H⟩ := H
    have A25 := Aside0.mk A250
    clear A250
    replace H := Option.bind_eq_some_iff.mp H
    obtain ⟨⟨t303, t304, t305, t306, t309, t312⟩, A260, H⟩ := H
    have A26 := Aside0.mk A260
    clear A260
    have HC27 := Aside0.mk H
    clear H
    go_enter Try.func7, Try.ntmps7
    go_upto_region 16 with (first | ((with_reducible refine gate_dst (N := 3) rfl ?_); refine box_event ?hg (N := 3) ?hd (cs := #[.int .i64 a0_0, .int .i64 a0_1, .int .i64 a0_2, .slice A0_3 l0_3.length c0_3, .slice A0_4 l0_4.length c0_4]) (t := 25) ?hr ?_; (case hd => rfl); (case hg => rfl); (case hr => first | (go_simp; done) | (go_simp; rfl)); intro gb257 hg w28 hbox hb; have BK257 := Aside0.mk hbox; have GW257 := ge_ HB hg; have GE257 := ge_ HB hg; replace HB := Aside0.mk (bt_ HB hb); clear hb hbox hg; have hcz29_0 := cz_ BK257 0 (.int .i64 a0_0); have hcz29_1 := cz_ BK257 1 (.int .i64 a0_1); have hcz29_2 := cz_ BK257 2 (.int .i64 a0_2); have hcz29_3 := cz_ BK257 3 (.slice A0_3 l0_3.length c0_3); have hcz29_4 := cz_ BK257 4 (.slice A0_4 l0_4.length c0_4); have hfz29_0 := blk_frozen BK257.out 0; have hfz29_1 := blk_frozen BK257.out 1; have hfz29_2 := blk_frozen BK257.out 2; have hfz29_3 := blk_frozen BK257.out 3; have hfz29_4 := blk_frozen BK257.out 4) | ((with_reducible refine gate_callee (f := 13) rfl ?_); refine gl_ (some 22) Try.func13 #[.agg #[.int .i64 a0_0, .int .i64 a0_1, .int .i64 a0_2, .slice A0_3 l0_3.length c0_3, .slice A0_4 l0_4.length c0_4], .int .i64 1048576] ?_; (with_reducible refine (laws_szLsa.calls a0_0 a0_1 a0_2 _ _ l0_3 _ _ l0_4 1048576 t258 _ ?side1 ?side2 ?side3 ?side4 A4.out).mono ?_); (case side1 => exact cb_ HR0_3 HB); (case side2 => exact HC0_3.out); (case side3 => exact cb_ HR0_4 HB); (case side4 => exact HC0_4.out); rintro e w30 ⟨rfl, hb⟩; refine ⟨_, rfl, ?_⟩; replace BK257 := Aside0.mk (bb_ BK257 hb); replace HB := Aside0.mk (bt_ HB hb); (try clear hb); (try clear hb2); (try clear hk); (try clear hi)) | ((with_reducible refine gate_callee (f := 27) rfl ?_); refine gl_ (some 27) Try.func27 #[.slice A1 l1.length c1, .int .i64 t258] ?_; (with_reducible refine (laws_szLinkS.calls _ _ l1 t258 t259 _ ?side1 ?side2 A9.out).mono ?_); (case side1 => exact cb_ HR1 HB); (case side2 => exact HC1.out); rintro e w' ⟨rfl, ⟨nd, rfl⟩⟩; refine ⟨_, rfl, ?_⟩; (try (rw [drewN_self w30]; generalize hq_ : World.drewN w30 _ = w30; replace BK257 : Aside0 (w30.heap[gb257]? = some (.cells #[.int .i64 a0_0, .int .i64 a0_1, .int .i64 a0_2, .slice A0_3 l0_3.length c0_3, .slice A0_4 l0_4.length c0_4] 25 (0, 0))) := ⟨by rw [← hq_]; exact (by (with_reducible repeat (first | refine blk_drewN ?_ _ | refine blk_drew ?_ | refine blk_alloc ?_ _)); exact BK257.out)⟩; replace HB : Aside0 (Below w.heap.size w w30) := ⟨by rw [← hq_]; exact (by repeat (first | (with_reducible first | exact HB.out | apply below_alloc | apply pw_below_drewN | apply below_drew1 | refine below_set ?_ GE257.out) | exact HB.out))⟩; clear hq_))) | ((with_reducible refine gate_callee (f := 28) rfl ?_); refine gl_ (some 32) Try.func28 #[.slice A2 l2.length c2, .int .i64 t259] ?_; (with_reducible refine (laws_szStubS.calls _ _ l2 t259 t260 _ ?side1 ?side2 A14.out).mono ?_); (case side1 => exact cb_ HR2 HB); (case side2 => exact HC2.out); rintro e w' ⟨rfl, ⟨nd, rfl⟩⟩; refine ⟨_, rfl, ?_⟩; (try (rw [drewN_self w30]; generalize hq_ : World.drewN w30 _ = w30; replace BK257 : Aside0 (w30.heap[gb257]? = some (.cells #[.int .i64 a0_0, .int .i64 a0_1, .int .i64 a0_2, .slice A0_3 l0_3.length c0_3, .slice A0_4 l0_4.length c0_4] 25 (0, 0))) := ⟨by rw [← hq_]; exact (by (with_reducible repeat (first | refine blk_drewN ?_ _ | refine blk_drew ?_ | refine blk_alloc ?_ _)); exact BK257.out)⟩; replace HB : Aside0 (Below w.heap.size w w30) := ⟨by rw [← hq_]; exact (by repeat (first | (with_reducible first | exact HB.out | apply below_alloc | apply pw_below_drewN | apply below_drew1 | refine below_set ?_ GE257.out) | exact HB.out))⟩; clear hq_)); have hcz31_0 := cz_ BK257 0 (.int .i64 a0_0); have hcz31_1 := cz_ BK257 1 (.int .i64 a0_1); have hcz31_2 := cz_ BK257 2 (.int .i64 a0_2); have hcz31_3 := cz_ BK257 3 (.slice A0_3 l0_3.length c0_3); have hcz31_4 := cz_ BK257 4 (.slice A0_4 l0_4.length c0_4); have hfz31_0 := blk_frozen BK257.out 0; have hfz31_1 := blk_frozen BK257.out 1; have hfz31_2 := blk_frozen BK257.out 2; have hfz31_3 := blk_frozen BK257.out 3; have hfz31_4 := blk_frozen BK257.out 4) | ((with_reducible refine gate_callee (f := 15) rfl ?_); refine gl_ (some 37) Try.func15 #[.agg #[.int .i64 a0_0, .int .i64 a0_1, .int .i64 a0_2, .slice A0_3 l0_3.length c0_3, .slice A0_4 l0_4.length c0_4]] ?_; (with_reducible refine (laws_toLsa.calls k a0_0 a0_1 a0_2 _ _ l0_3 _ _ l0_4 t261 t262 t263 t264 t267 _ ?side1 ?side2 ?side3 ?side4 A19.out).mono ?_); (case side1 => exact cb_ HR0_3 HB); (case side2 => exact HC0_3.out); (case side3 => exact cb_ HR0_4 HB); (case side4 => exact HC0_4.out); rintro e w32 ⟨v265, v268, rfl, ho0, ho1, hb⟩; refine ⟨_, rfl, ?_⟩; have HO266 := Aside0.mk (Kd.R_lower ho0 (bz_ HB)); have HO269 := Aside0.mk (Kd.R_lower ho1 (bz_ HB)); replace BK257 := Aside0.mk (bb_ BK257 hb); replace HB := Aside0.mk (bt_ HB hb); (try clear hb); (try clear hb2); (try clear hk); (try clear hi); (try clear ho0); (try clear ho1)) | ((with_reducible refine gate_callee (f := 30) rfl ?_); refine gl_ (some 39) Try.func30 #[.slice A1 l1.length c1] ?_; (with_reducible refine (laws_toLinkS.calls k _ _ l1 t270 _ ?side1 ?side2 A20.out).mono ?_); (case side1 => exact cb_ HR1 HB); (case side2 => exact HC1.out); rintro e w33 ⟨v271, rfl, ho0, hb⟩; refine ⟨_, rfl, ?_⟩; have HO272 := Aside0.mk (Kd.R_lower (Kd.R_new' ho0 (Kd.R_lt (hd_ HO266))) (bz_ HB)); replace HO269 := rb_ HO269 hb; replace HO266 := Aside0.mk (Kd.R_elder' (hd_ HO266) (Kd.R_base ho0) hb); replace BK257 := Aside0.mk (bb_ BK257 hb); replace HB := Aside0.mk (bt_ HB hb); (try clear hb); (try clear hb2); (try clear hk); (try clear hi); (try clear ho0)) | ((with_reducible refine gate_callee (f := 31) rfl ?_); refine gl_ (some 41) Try.func31 #[.slice A2 l2.length c2] ?_; (with_reducible refine (laws_toStubS.calls k _ _ l2 t273 _ ?side1 ?side2 A21.out).mono ?_); (case side1 => exact cb_ HR2 HB); (case side2 => exact HC2.out); rintro e w34 ⟨v274, rfl, ho0, hb⟩; refine ⟨_, rfl, ?_⟩; have HO275 := Aside0.mk (Kd.R_lower (Kd.R_new' ho0 (Kd.R_lt (hd_ HO269))) (bz_ HB)); replace HO266 := rb_ HO266 hb; replace HO272 := rb_ HO272 hb; replace HO269 := Aside0.mk (Kd.R_elder' (hd_ HO269) (Kd.R_base ho0) hb); replace BK257 := Aside0.mk (bb_ BK257 hb); replace HB := Aside0.mk (bt_ HB hb); (try clear hb); (try clear hb2); (try clear hk); (try clear hi); (try clear ho0); obtain ⟨Ao35, co35, eo35⟩ := Kd.R_slice HO266.out; subst eo35; obtain ⟨Ao36, co36, eo36⟩ := Kd.R_slice HO269.out; subst eo36; obtain ⟨Ao37, co37, eo37⟩ := Kd.R_slice HO272.out; subst eo37; obtain ⟨Ao38, co38, eo38⟩ := Kd.R_slice HO275.out; subst eo38) | ((with_reducible refine gate_callee (f := 29) rfl ?_); refine gl_ (some 42) Try.func29 #[.agg #[.int .i64 t261, .int .i64 t262, .int .i64 t263, .slice Ao35 t264.length co35, .slice Ao36 t267.length co36], .slice Ao37 t270.length co37, .slice Ao38 t273.length co38] ?_; (with_reducible refine (spec_NextLsa.calls k t261 t262 t263 _ _ t264 _ _ t267 _ _ t270 _ _ t273 t276 t277 t278 t279 t282 t285 _ ?side1 ?side2 ?side3 ?side4 ?side5 ?side6 ?side7 ?side8 A22.out).mono ?_); (case side1 => exact rc_ HO266); (case side2 => exact (Kd.R_reads' HO266.out).2.1); (case side3 => exact rc_ HO269); (case side4 => exact (Kd.R_reads' HO269.out).2.1); (case side5 => exact rc_ HO272); (case side6 => exact (Kd.R_reads' HO272.out).2.1); (case side7 => exact rc_ HO275); (case side8 => exact (Kd.R_reads' HO275.out).2.1); rintro e w39 ⟨v280, v283, rfl, ho0, ho1, hb⟩; refine ⟨_, rfl, ?_⟩; have HO281 := Aside0.mk (Kd.R_lower (Kd.R_new' (Kd.R_new' ho0 (Kd.R_lt (hd_ HO266))) (Kd.R_lt (hd_ HO272))) (bz_ HB)); have HO284 := Aside0.mk (Kd.R_lower (Kd.R_new' (Kd.R_new' ho1 (Kd.R_lt (hd_ HO269))) (Kd.R_lt (hd_ HO275))) (bz_ HB)); replace HO266 := Aside0.mk (Kd.R_elder' (hd_ HO266) (Kd.R_base ho0) hb); replace HO272 := Aside0.mk (Kd.R_elder' (hd_ HO272) (Kd.R_base ho0) hb); replace HO269 := Aside0.mk (Kd.R_elder' (hd_ HO269) (Kd.R_base ho1) hb); replace HO275 := Aside0.mk (Kd.R_elder' (hd_ HO275) (Kd.R_base ho1) hb); replace BK257 := Aside0.mk (bb_ BK257 hb); replace HB := Aside0.mk (bt_ HB hb); (try clear hb); (try clear hb2); (try clear hk); (try clear hi); (try clear ho0); (try clear ho1)) | ((with_reducible refine gate_dst (N := 8) rfl ?_); refine box_event ?hg (N := 8) ?hd (cs := #[.int .i64 0, .int .i64 0, .int .i64 0, .slice none 0 0, .slice none 0 0]) (t := 31) ?hr ?_; (case hd => rfl); (case hg => rfl); (case hr => first | (go_simp; done) | (go_simp; rfl)); intro gb286 hg w40 hbox hb; have BK286 := Aside0.mk hbox; have GW286 := ge_ HB hg; have GE286 := ge_ HB hg; have NB257_286 := nl_ BK257 hg; have NB286_257 := ng_ BK257 hg; replace HO266 := rb_ HO266 hb; replace HO269 := rb_ HO269 hb; replace HO272 := rb_ HO272 hb; replace HO275 := rb_ HO275 hb; replace HO281 := rb_ HO281 hb; replace HO284 := rb_ HO284 hb; replace HB := Aside0.mk (bt_ HB hb); replace BK257 := Aside0.mk (bb_ BK257 hb); clear hb hbox hg; have hnb41 := NB286_257.out; have hnc41 := NB257_286.out; have hcz42_0 := cz_ BK286 0 (.int .i64 0); have hcz42_1 := cz_ BK286 1 (.int .i64 0); have hcz42_2 := cz_ BK286 2 (.int .i64 0); have hcz42_3 := cz_ BK286 3 (.slice none 0 0); have hcz42_4 := cz_ BK286 4 (.slice none 0 0); have hfz42_0 := blk_frozen BK286.out 0; have hfz42_1 := blk_frozen BK286.out 1; have hfz42_2 := blk_frozen BK286.out 2; have hfz42_3 := blk_frozen BK286.out 3; have hfz42_4 := blk_frozen BK286.out 4; obtain ⟨Ao43, co43, eo43⟩ := Kd.R_slice HO281.out; subst eo43; obtain ⟨Ao44, co44, eo44⟩ := Kd.R_slice HO284.out; subst eo44; have hcz45_0 := cz_ BK257 0 (.int .i64 a0_0); have hcz45_1 := cz_ BK257 1 (.int .i64 a0_1); have hcz45_2 := cz_ BK257 2 (.int .i64 a0_2); have hcz45_3 := cz_ BK257 3 (.slice A0_3 l0_3.length c0_3); have hcz45_4 := cz_ BK257 4 (.slice A0_4 l0_4.length c0_4); have hfz45_0 := blk_frozen BK257.out 0; have hfz45_1 := blk_frozen BK257.out 1; have hfz45_2 := blk_frozen BK257.out 2; have hfz45_3 := blk_frozen BK257.out 3; have hfz45_4 := blk_frozen BK257.out 4) | ((with_reducible refine gate_callee (f := 15) rfl ?_); refine gl_ (some 46) Try.func15 #[.agg #[.int .i64 a0_0, .int .i64 a0_1, .int .i64 a0_2, .slice A0_3 l0_3.length c0_3, .slice A0_4 l0_4.length c0_4]] ?_; (with_reducible refine (laws_toLsa.calls k a0_0 a0_1 a0_2 _ _ l0_3 _ _ l0_4 t287 t288 t289 t290 t293 _ ?side1 ?side2 ?side3 ?side4 A23.out).mono ?_); (case side1 => exact Kd.C_below HR0_3.out (by repeat (first | (with_reducible first | exact HB.out | apply below_alloc | apply pw_below_drewN | apply below_drew1 | refine below_set ?_ GE257.out | refine below_set ?_ GE286.out) | exact HB.out))); (case side2 => exact HC0_3.out); (case side3 => exact Kd.C_below HR0_4.out (by repeat (first | (with_reducible first | exact HB.out | apply below_alloc | apply pw_below_drewN | apply below_drew1 | refine below_set ?_ GE257.out | refine below_set ?_ GE286.out) | exact HB.out))); (case side4 => exact HC0_4.out); rintro e w46 ⟨v291, v294, rfl, ho0, ho1, hb⟩; refine ⟨_, rfl, ?_⟩; have HO292 := Aside0.mk (Kd.R_lower (Kd.R_new' (Kd.R_new' (Kd.R_new' ho0 (Kd.R_lt (hs_ HO266 BK286))) (Kd.R_lt (hs_ HO272 BK286))) (Kd.R_lt (hs_ HO281 BK286))) (bz_ HB)); have HO295 := Aside0.mk (Kd.R_lower (Kd.R_new' (Kd.R_new' (Kd.R_new' ho1 (Kd.R_lt (hs_ HO269 BK286))) (Kd.R_lt (hs_ HO275 BK286))) (Kd.R_lt (hs_ HO284 BK286))) (bz_ HB)); replace HO266 := Aside0.mk (Kd.R_elder' (hs_ HO266 BK286) (Kd.R_base ho0) hb); replace HO272 := Aside0.mk (Kd.R_elder' (hs_ HO272 BK286) (Kd.R_base ho0) hb); replace HO281 := Aside0.mk (Kd.R_elder' (hs_ HO281 BK286) (Kd.R_base ho0) hb); replace HO269 := Aside0.mk (Kd.R_elder' (hs_ HO269 BK286) (Kd.R_base ho1) hb); replace HO275 := Aside0.mk (Kd.R_elder' (hs_ HO275 BK286) (Kd.R_base ho1) hb); replace HO284 := Aside0.mk (Kd.R_elder' (hs_ HO284 BK286) (Kd.R_base ho1) hb); replace BK257 := bf_ BK257 NB257_286 hb; replace BK286 := Aside0.mk (blk_below (g := gb286) (o := .cells #[.int .i64 t276, .int .i64 t277, .int .i64 t278, .slice Ao43 t279.length co43, .slice Ao44 t282.length co44] 31 (0, 0)) (by (with_reducible repeat (first | refine blk_drewN ?_ _ | refine blk_drew ?_ | refine blk_alloc ?_ _)); refine blk_put (cs := #[.int .i64 t276, .int .i64 t277, .int .i64 t278, .slice Ao43 t279.length co43, .slice none 0 0]) ?_ 4 _ rfl; (with_reducible repeat (first | refine blk_drewN ?_ _ | refine blk_drew ?_ | refine blk_alloc ?_ _)); refine blk_put (cs := #[.int .i64 t276, .int .i64 t277, .int .i64 t278, .slice none 0 0, .slice none 0 0]) ?_ 3 _ rfl; (with_reducible repeat (first | refine blk_drewN ?_ _ | refine blk_drew ?_ | refine blk_alloc ?_ _)); refine blk_put (cs := #[.int .i64 t276, .int .i64 t277, .int .i64 0, .slice none 0 0, .slice none 0 0]) ?_ 2 _ rfl; (with_reducible repeat (first | refine blk_drewN ?_ _ | refine blk_drew ?_ | refine blk_alloc ?_ _)); refine blk_put (cs := #[.int .i64 t276, .int .i64 0, .int .i64 0, .slice none 0 0, .slice none 0 0]) ?_ 1 _ rfl; (with_reducible repeat (first | refine blk_drewN ?_ _ | refine blk_drew ?_ | refine blk_alloc ?_ _)); refine blk_put (cs := #[.int .i64 0, .int .i64 0, .int .i64 0, .slice none 0 0, .slice none 0 0]) ?_ 0 _ rfl; (with_reducible repeat (first | refine blk_drewN ?_ _ | refine blk_drew ?_ | refine blk_alloc ?_ _)); exact BK286.out) hb); replace HB := Aside0.mk (bt_ HB hb); (try clear hb); (try clear hb2); (try clear hk); (try clear hi); (try clear ho0); (try clear ho1)) | ((with_reducible refine gate_dst (N := 10) rfl ?_); refine box_event ?hg (N := 10) ?hd (cs := #[.int .i64 0, .int .i64 0, .int .i64 0, .slice none 0 0, .slice none 0 0]) (t := 31) ?hr ?_; (case hd => rfl); (case hg => rfl); (case hr => first | (go_simp; done) | (go_simp; rfl)); intro gb296 hg w47 hbox hb; have BK296 := Aside0.mk hbox; have GW296 := ge_ HB hg; have GE296 := ge_ HB hg; have NB257_296 := nl_ BK257 hg; have NB296_257 := ng_ BK257 hg; have NB286_296 := nl_ BK286 hg; have NB296_286 := ng_ BK286 hg; replace HO266 := rb_ HO266 hb; replace HO269 := rb_ HO269 hb; replace HO272 := rb_ HO272 hb; replace HO275 := rb_ HO275 hb; replace HO281 := rb_ HO281 hb; replace HO284 := rb_ HO284 hb; replace HO292 := rb_ HO292 hb; replace HO295 := rb_ HO295 hb; replace HB := Aside0.mk (bt_ HB hb); replace BK257 := Aside0.mk (bb_ BK257 hb); replace BK286 := Aside0.mk (bb_ BK286 hb); clear hb hbox hg; have hnb48 := NB296_257.out; have hnc48 := NB257_296.out; have hnb49 := NB296_286.out; have hnc49 := NB286_296.out; have hcz50_0 := cz_ BK296 0 (.int .i64 0); have hcz50_1 := cz_ BK296 1 (.int .i64 0); have hcz50_2 := cz_ BK296 2 (.int .i64 0); have hcz50_3 := cz_ BK296 3 (.slice none 0 0); have hcz50_4 := cz_ BK296 4 (.slice none 0 0); have hfz50_0 := blk_frozen BK296.out 0; have hfz50_1 := blk_frozen BK296.out 1; have hfz50_2 := blk_frozen BK296.out 2; have hfz50_3 := blk_frozen BK296.out 3; have hfz50_4 := blk_frozen BK296.out 4; obtain ⟨Ao51, co51, eo51⟩ := Kd.R_slice HO292.out; subst eo51; obtain ⟨Ao52, co52, eo52⟩ := Kd.R_slice HO295.out; subst eo52) | ((with_reducible refine gate_callee (f := 30) rfl ?_); refine gl_ (some 48) Try.func30 #[.slice A1 l1.length c1] ?_; (with_reducible refine (laws_toLinkS.calls k _ _ l1 t297 _ ?side1 ?side2 A24.out).mono ?_); (case side1 => exact Kd.C_below HR1.out (by repeat (first | (with_reducible first | exact HB.out | apply below_alloc | apply pw_below_drewN | apply below_drew1 | refine below_set ?_ GE257.out | refine below_set ?_ GE286.out | refine below_set ?_ GE296.out) | exact HB.out))); (case side2 => exact HC1.out); rintro e w53 ⟨v298, rfl, ho0, hb⟩; refine ⟨_, rfl, ?_⟩; have HO299 := Aside0.mk (Kd.R_lower (Kd.R_new' (Kd.R_new' (Kd.R_new' (Kd.R_new' ho0 (Kd.R_lt (hs_ HO266 BK296))) (Kd.R_lt (hs_ HO272 BK296))) (Kd.R_lt (hs_ HO281 BK296))) (Kd.R_lt (hs_ HO292 BK296))) (bz_ HB)); replace HO269 := rs_ HO269 BK296 hb; replace HO275 := rs_ HO275 BK296 hb; replace HO284 := rs_ HO284 BK296 hb; replace HO295 := rs_ HO295 BK296 hb; replace HO266 := Aside0.mk (Kd.R_elder' (hs_ HO266 BK296) (Kd.R_base ho0) hb); replace HO272 := Aside0.mk (Kd.R_elder' (hs_ HO272 BK296) (Kd.R_base ho0) hb); replace HO281 := Aside0.mk (Kd.R_elder' (hs_ HO281 BK296) (Kd.R_base ho0) hb); replace HO292 := Aside0.mk (Kd.R_elder' (hs_ HO292 BK296) (Kd.R_base ho0) hb); replace BK257 := bf_ BK257 NB257_296 hb; replace BK286 := bf_ BK286 NB286_296 hb; replace BK296 := Aside0.mk (blk_below (g := gb296) (o := .cells #[.int .i64 t287, .int .i64 t288, .int .i64 t289, .slice Ao51 t290.length co51, .slice Ao52 t293.length co52] 31 (0, 0)) (by (with_reducible repeat (first | refine blk_drewN ?_ _ | refine blk_drew ?_ | refine blk_alloc ?_ _)); refine blk_put (cs := #[.int .i64 t287, .int .i64 t288, .int .i64 t289, .slice Ao51 t290.length co51, .slice none 0 0]) ?_ 4 _ rfl; (with_reducible repeat (first | refine blk_drewN ?_ _ | refine blk_drew ?_ | refine blk_alloc ?_ _)); refine blk_put (cs := #[.int .i64 t287, .int .i64 t288, .int .i64 t289, .slice none 0 0, .slice none 0 0]) ?_ 3 _ rfl; (with_reducible repeat (first | refine blk_drewN ?_ _ | refine blk_drew ?_ | refine blk_alloc ?_ _)); refine blk_put (cs := #[.int .i64 t287, .int .i64 t288, .int .i64 0, .slice none 0 0, .slice none 0 0]) ?_ 2 _ rfl; (with_reducible repeat (first | refine blk_drewN ?_ _ | refine blk_drew ?_ | refine blk_alloc ?_ _)); refine blk_put (cs := #[.int .i64 t287, .int .i64 0, .int .i64 0, .slice none 0 0, .slice none 0 0]) ?_ 1 _ rfl; (with_reducible repeat (first | refine blk_drewN ?_ _ | refine blk_drew ?_ | refine blk_alloc ?_ _)); refine blk_put (cs := #[.int .i64 0, .int .i64 0, .int .i64 0, .slice none 0 0, .slice none 0 0]) ?_ 0 _ rfl; (with_reducible repeat (first | refine blk_drewN ?_ _ | refine blk_drew ?_ | refine blk_alloc ?_ _)); exact BK296.out) hb); replace HB := Aside0.mk (bt_ HB hb); (try clear hb); (try clear hb2); (try clear hk); (try clear hi); (try clear ho0)) | ((with_reducible refine gate_callee (f := 31) rfl ?_); refine gl_ (some 50) Try.func31 #[.slice A2 l2.length c2] ?_; (with_reducible refine (laws_toStubS.calls k _ _ l2 t300 _ ?side1 ?side2 A25.out).mono ?_); (case side1 => exact cb_ HR2 HB); (case side2 => exact HC2.out); rintro e w54 ⟨v301, rfl, ho0, hb⟩; refine ⟨_, rfl, ?_⟩; have HO302 := Aside0.mk (Kd.R_lower (Kd.R_new' (Kd.R_new' (Kd.R_new' (Kd.R_new' ho0 (Kd.R_lt (hd_ HO269))) (Kd.R_lt (hd_ HO275))) (Kd.R_lt (hd_ HO284))) (Kd.R_lt (hd_ HO295))) (bz_ HB)); replace HO266 := rb_ HO266 hb; replace HO272 := rb_ HO272 hb; replace HO281 := rb_ HO281 hb; replace HO292 := rb_ HO292 hb; replace HO299 := rb_ HO299 hb; replace HO269 := Aside0.mk (Kd.R_elder' (hd_ HO269) (Kd.R_base ho0) hb); replace HO275 := Aside0.mk (Kd.R_elder' (hd_ HO275) (Kd.R_base ho0) hb); replace HO284 := Aside0.mk (Kd.R_elder' (hd_ HO284) (Kd.R_base ho0) hb); replace HO295 := Aside0.mk (Kd.R_elder' (hd_ HO295) (Kd.R_base ho0) hb); replace BK257 := Aside0.mk (bb_ BK257 hb); replace BK286 := Aside0.mk (bb_ BK286 hb); replace BK296 := Aside0.mk (bb_ BK296 hb); replace HB := Aside0.mk (bt_ HB hb); (try clear hb); (try clear hb2); (try clear hk); (try clear hi); (try clear ho0); have hcz55_0 := cz_ BK296 0 (.int .i64 t287); have hcz55_1 := cz_ BK296 1 (.int .i64 t288); have hcz55_2 := cz_ BK296 2 (.int .i64 t289); have hcz55_3 := cz_ BK296 3 (.slice Ao51 t290.length co51); have hcz55_4 := cz_ BK296 4 (.slice Ao52 t293.length co52); have hfz55_0 := blk_frozen BK296.out 0; have hfz55_1 := blk_frozen BK296.out 1; have hfz55_2 := blk_frozen BK296.out 2; have hfz55_3 := blk_frozen BK296.out 3; have hfz55_4 := blk_frozen BK296.out 4; obtain ⟨Ao56, co56, eo56⟩ := Kd.R_slice HO299.out; subst eo56; obtain ⟨Ao57, co57, eo57⟩ := Kd.R_slice HO302.out; subst eo57) | ((with_reducible refine gate_callee (f := 32) rfl ?_); refine gl_ (some 55) Try.func32 #[.agg #[.int .i64 t287, .int .i64 t288, .int .i64 t289, .slice Ao51 t290.length co51, .slice Ao52 t293.length co52], .slice Ao56 t297.length co56, .slice Ao57 t300.length co57] ?_; (with_reducible refine (impl_NextLsa.calls k t287 t288 t289 _ _ t290 _ _ t293 _ _ t297 _ _ t300 t303 t304 t305 t306 t309 t312 _ ?side1 ?side2 ?side3 ?side4 ?side5 ?side6 ?side7 ?side8 A26.out).mono ?_); (case side1 => exact rc_ HO292); (case side2 => exact (Kd.R_reads' HO292.out).2.1); (case side3 => exact rc_ HO295); (case side4 => exact (Kd.R_reads' HO295.out).2.1); (case side5 => exact rc_ HO299); (case side6 => exact (Kd.R_reads' HO299.out).2.1); (case side7 => exact rc_ HO302); (case side8 => exact (Kd.R_reads' HO302.out).2.1); rintro e w58 ⟨v307, v310, rfl, ho0, ho1, hb⟩; refine ⟨_, rfl, ?_⟩; have HO308 := Aside0.mk (Kd.R_lower (Kd.R_new' (Kd.R_new' (Kd.R_new' (Kd.R_new' (Kd.R_new' ho0 (Kd.R_lt (hd_ HO266))) (Kd.R_lt (hd_ HO272))) (Kd.R_lt (hd_ HO281))) (Kd.R_lt (hd_ HO292))) (Kd.R_lt (hd_ HO299))) (bz_ HB)); have HO311 := Aside0.mk (Kd.R_lower (Kd.R_new' (Kd.R_new' (Kd.R_new' (Kd.R_new' (Kd.R_new' ho1 (Kd.R_lt (hd_ HO269))) (Kd.R_lt (hd_ HO275))) (Kd.R_lt (hd_ HO284))) (Kd.R_lt (hd_ HO295))) (Kd.R_lt (hd_ HO302))) (bz_ HB)); replace HO266 := Aside0.mk (Kd.R_elder' (hd_ HO266) (Kd.R_base ho0) hb); replace HO272 := Aside0.mk (Kd.R_elder' (hd_ HO272) (Kd.R_base ho0) hb); replace HO281 := Aside0.mk (Kd.R_elder' (hd_ HO281) (Kd.R_base ho0) hb); replace HO292 := Aside0.mk (Kd.R_elder' (hd_ HO292) (Kd.R_base ho0) hb); replace HO299 := Aside0.mk (Kd.R_elder' (hd_ HO299) (Kd.R_base ho0) hb); replace HO269 := Aside0.mk (Kd.R_elder' (hd_ HO269) (Kd.R_base ho1) hb); replace HO275 := Aside0.mk (Kd.R_elder' (hd_ HO275) (Kd.R_base ho1) hb); replace HO284 := Aside0.mk (Kd.R_elder' (hd_ HO284) (Kd.R_base ho1) hb); replace HO295 := Aside0.mk (Kd.R_elder' (hd_ HO295) (Kd.R_base ho1) hb); replace HO302 := Aside0.mk (Kd.R_elder' (hd_ HO302) (Kd.R_base ho1) hb); replace BK257 := Aside0.mk (bb_ BK257 hb); replace BK286 := Aside0.mk (bb_ BK286 hb); replace BK296 := Aside0.mk (bb_ BK296 hb); replace HB := Aside0.mk (bt_ HB hb); (try clear hb); (try clear hb2); (try clear hk); (try clear hi); (try clear ho0); (try clear ho1)) | ((with_reducible refine gate_dst (N := 13) rfl ?_); refine box_event ?hg (N := 13) ?hd (cs := #[.int .i64 0, .int .i64 0, .int .i64 0, .slice none 0 0, .slice none 0 0]) (t := 31) ?hr ?_; (case hd => rfl); (case hg => rfl); (case hr => first | (go_simp; done) | (go_simp; rfl)); intro gb313 hg w59 hbox hb; have BK313 := Aside0.mk hbox; have GW313 := ge_ HB hg; have GE313 := ge_ HB hg; have NB257_313 := nl_ BK257 hg; have NB313_257 := ng_ BK257 hg; have NB286_313 := nl_ BK286 hg; have NB313_286 := ng_ BK286 hg; have NB296_313 := nl_ BK296 hg; have NB313_296 := ng_ BK296 hg; replace HO266 := rb_ HO266 hb; replace HO269 := rb_ HO269 hb; replace HO272 := rb_ HO272 hb; replace HO275 := rb_ HO275 hb; replace HO281 := rb_ HO281 hb; replace HO284 := rb_ HO284 hb; replace HO292 := rb_ HO292 hb; replace HO295 := rb_ HO295 hb; replace HO299 := rb_ HO299 hb; replace HO302 := rb_ HO302 hb; replace HO308 := rb_ HO308 hb; replace HO311 := rb_ HO311 hb; replace HB := Aside0.mk (bt_ HB hb); replace BK257 := Aside0.mk (bb_ BK257 hb); replace BK286 := Aside0.mk (bb_ BK286 hb); replace BK296 := Aside0.mk (bb_ BK296 hb); clear hb hbox hg; have hnb60 := NB313_257.out; have hnc60 := NB257_313.out; have hnb61 := NB313_286.out; have hnc61 := NB286_313.out; have hnb62 := NB313_296.out; have hnc62 := NB296_313.out; have hcz63_0 := cz_ BK313 0 (.int .i64 0); have hcz63_1 := cz_ BK313 1 (.int .i64 0); have hcz63_2 := cz_ BK313 2 (.int .i64 0); have hcz63_3 := cz_ BK313 3 (.slice none 0 0); have hcz63_4 := cz_ BK313 4 (.slice none 0 0); have hfz63_0 := blk_frozen BK313.out 0; have hfz63_1 := blk_frozen BK313.out 1; have hfz63_2 := blk_frozen BK313.out 2; have hfz63_3 := blk_frozen BK313.out 3; have hfz63_4 := blk_frozen BK313.out 4; obtain ⟨Ao64, co64, eo64⟩ := Kd.R_slice HO308.out; subst eo64; obtain ⟨Ao65, co65, eo65⟩ := Kd.R_slice HO311.out; subst eo65))
    (try simp only [Act.put, List.setIfInBounds_toArray, List.set_cons_zero, List.set_cons_succ])
    go_cut [66] (fun v66 wc => ∃ (kq : Nat) (x66_26 : Bool), v66 = .bool x66_26 ∧ Aside0 (laws_FnExactNextLsa.j0 kq l1 l2 t285 t297 t300 t312 x66_26 a0_0 a0_1 a0_2 l0_3 l0_4 t276 t277 t278 t279 t282 t287 t288 t289 t290 t293 t303 t304 t305 t306 t309 = some r) ∧ Aside0 (kq ≤ k) ∧ Aside0 (Kd.R k70 70 wc w.heap.size (fun k_ => some k_ ≠ ((.slice Ao43 t279.length co43) : Value).ownBlock ∧ some k_ ≠ ((.slice Ao51 t290.length co51) : Value).ownBlock ∧ some k_ ≠ ((.slice Ao64 t306.length co64) : Value).ownBlock) (.slice Ao56 t297.length co56) t297) ∧ Aside0 (Kd.R k74 74 wc w.heap.size (fun k_ => some k_ ≠ ((.slice Ao44 t282.length co44) : Value).ownBlock ∧ some k_ ≠ ((.slice Ao52 t293.length co52) : Value).ownBlock ∧ some k_ ≠ ((.slice Ao65 t309.length co65) : Value).ownBlock) (.slice Ao57 t300.length co57) t300) ∧ Aside0 (Kd.R k70 70 wc w.heap.size (fun k_ => some k_ ≠ ((.slice Ao56 t297.length co56) : Value).ownBlock ∧ some k_ ≠ ((.slice Ao51 t290.length co51) : Value).ownBlock ∧ some k_ ≠ ((.slice Ao64 t306.length co64) : Value).ownBlock) (.slice Ao43 t279.length co43) t279) ∧ Aside0 (Kd.R k74 74 wc w.heap.size (fun k_ => some k_ ≠ ((.slice Ao57 t300.length co57) : Value).ownBlock ∧ some k_ ≠ ((.slice Ao52 t293.length co52) : Value).ownBlock ∧ some k_ ≠ ((.slice Ao65 t309.length co65) : Value).ownBlock) (.slice Ao44 t282.length co44) t282) ∧ Aside0 (Kd.R k70 70 wc w.heap.size (fun k_ => some k_ ≠ ((.slice Ao56 t297.length co56) : Value).ownBlock ∧ some k_ ≠ ((.slice Ao43 t279.length co43) : Value).ownBlock ∧ some k_ ≠ ((.slice Ao64 t306.length co64) : Value).ownBlock) (.slice Ao51 t290.length co51) t290) ∧ Aside0 (Kd.R k74 74 wc w.heap.size (fun k_ => some k_ ≠ ((.slice Ao57 t300.length co57) : Value).ownBlock ∧ some k_ ≠ ((.slice Ao44 t282.length co44) : Value).ownBlock ∧ some k_ ≠ ((.slice Ao65 t309.length co65) : Value).ownBlock) (.slice Ao52 t293.length co52) t293) ∧ Aside0 (Kd.R k70 70 wc w.heap.size (fun k_ => some k_ ≠ ((.slice Ao56 t297.length co56) : Value).ownBlock ∧ some k_ ≠ ((.slice Ao43 t279.length co43) : Value).ownBlock ∧ some k_ ≠ ((.slice Ao51 t290.length co51) : Value).ownBlock) (.slice Ao64 t306.length co64) t306) ∧ Aside0 (Kd.R k74 74 wc w.heap.size (fun k_ => some k_ ≠ ((.slice Ao57 t300.length co57) : Value).ownBlock ∧ some k_ ≠ ((.slice Ao44 t282.length co44) : Value).ownBlock ∧ some k_ ≠ ((.slice Ao52 t293.length co52) : Value).ownBlock) (.slice Ao65 t309.length co65) t309) ∧ Aside0 (wc.heap[gb257]? = some (.cells #[.int .i64 a0_0, .int .i64 a0_1, .int .i64 a0_2, (.slice A0_3 l0_3.length c0_3), (.slice A0_4 l0_4.length c0_4)] 25 (0, 0))) ∧ Aside0 (wc.heap[gb286]? = some (.cells #[.int .i64 t276, .int .i64 t277, .int .i64 t278, (.slice Ao43 t279.length co43), (.slice Ao44 t282.length co44)] 31 (0, 0))) ∧ Aside0 (wc.heap[gb296]? = some (.cells #[.int .i64 t287, .int .i64 t288, .int .i64 t289, (.slice Ao51 t290.length co51), (.slice Ao52 t293.length co52)] 31 (0, 0))) ∧ Aside0 (wc.heap[gb313]? = some (.cells #[.int .i64 t303, .int .i64 t304, .int .i64 t305, (.slice Ao64 t306.length co64), (.slice Ao65 t309.length co65)] 31 (0, 0))) ∧ Aside0 (Below w.heap.size w wc))
    case first =>
     have H := HC27.out
     clear HC27
     replace H := Option.bind_eq_some_iff.mp H
     obtain ⟨t314, A660, H⟩ := H
     have A66 := Aside0.mk A660
     clear A660
     by_cases c67 : t314 = true
     ·subst c67
      rw [if_pos rfl] at H
      have H' := Aside0.mk H
      clear H
      have hnb68 := NB313_257.out
      have hnc68 := NB257_313.out
      have hnb69 := NB313_286.out
      have hnc69 := NB286_313.out
      have hnb70 := NB313_296.out
      have hnc70 := NB296_313.out
      have hcz71_0 := cz_ BK313 0 (.int .i64 0)
      have hcz71_1 := cz_ BK313 1 (.int .i64 0)
      have hcz71_2 := cz_ BK313 2 (.int .i64 0)
      have hcz71_3 := cz_ BK313 3 (.slice none 0 0)
      have hcz71_4 := cz_ BK313 4 (.slice none 0 0)
      have hfz71_0 := blk_frozen BK313.out 0
      have hfz71_1 := blk_frozen BK313.out 1
      have hfz71_2 := blk_frozen BK313.out 2
      have hfz71_3 := blk_frozen BK313.out 3
      have hfz71_4 := blk_frozen BK313.out 4
      have hnb72 := NB286_257.out
      have hnc72 := NB257_286.out
      have hnb73 := NB286_296.out
      have hnc73 := NB296_286.out
      have hcz74_0 := cz_ BK286 0 (.int .i64 t276)
      have hcz74_1 := cz_ BK286 1 (.int .i64 t277)
      have hcz74_2 := cz_ BK286 2 (.int .i64 t278)
      have hcz74_3 := cz_ BK286 3 (.slice Ao43 t279.length co43)
      have hcz74_4 := cz_ BK286 4 (.slice Ao44 t282.length co44)
      have hfz74_0 := blk_frozen BK286.out 0
      have hfz74_1 := blk_frozen BK286.out 1
      have hfz74_2 := blk_frozen BK286.out 2
      have hfz74_3 := blk_frozen BK286.out 3
      have hfz74_4 := blk_frozen BK286.out 4
      go_wp2_with (first | ((with_reducible refine gate_callee (f := 17) rfl ?_); refine gl_ (some 60) Try.func17 #[.agg #[.int .i64 t303, .int .i64 t304, .int .i64 t305, .slice Ao64 t306.length co64, .slice Ao65 t309.length co65], .agg #[.int .i64 t276, .int .i64 t277, .int .i64 t278, .slice Ao43 t279.length co43, .slice Ao44 t282.length co44]] ?_; (with_reducible refine (laws_eqLsa.calls k t303 t304 t305 _ _ t306 _ _ t309 t276 t277 t278 _ _ t279 _ _ t282 true _ ?side1 ?side2 ?side3 ?side4 ?side5 ?side6 ?side7 ?side8 A66.out).mono ?_); (case side1 => refine (Kd.R_reads' (e := 70) (base := w.heap.size) (ok := fun k_ => (((((True ∧ some k_ ≠ (.slice Ao35 t264.length co35 : Value).ownBlock) ∧ some k_ ≠ (.slice Ao37 t270.length co37 : Value).ownBlock) ∧ some k_ ≠ (.slice Ao43 t279.length co43 : Value).ownBlock) ∧ some k_ ≠ (.slice Ao51 t290.length co51 : Value).ownBlock) ∧ some k_ ≠ (.slice Ao56 t297.length co56 : Value).ownBlock)) (n := t306.length) (c := co64) ?_).2.2; exact (hs_ HO308 BK313)); (case side2 => exact (Kd.R_reads' HO308.out).2.1); (case side3 => refine (Kd.R_reads' (e := 74) (base := w.heap.size) (ok := fun k_ => (((((True ∧ some k_ ≠ (.slice Ao36 t267.length co36 : Value).ownBlock) ∧ some k_ ≠ (.slice Ao38 t273.length co38 : Value).ownBlock) ∧ some k_ ≠ (.slice Ao44 t282.length co44 : Value).ownBlock) ∧ some k_ ≠ (.slice Ao52 t293.length co52 : Value).ownBlock) ∧ some k_ ≠ (.slice Ao57 t300.length co57 : Value).ownBlock)) (n := t309.length) (c := co65) ?_).2.2; exact (hs_ HO311 BK313)); (case side4 => exact (Kd.R_reads' HO311.out).2.1); (case side5 => refine (Kd.R_reads' (e := 70) (base := w.heap.size) (ok := fun k_ => (((((True ∧ some k_ ≠ (.slice Ao35 t264.length co35 : Value).ownBlock) ∧ some k_ ≠ (.slice Ao37 t270.length co37 : Value).ownBlock) ∧ some k_ ≠ (.slice Ao51 t290.length co51 : Value).ownBlock) ∧ some k_ ≠ (.slice Ao56 t297.length co56 : Value).ownBlock) ∧ some k_ ≠ (.slice Ao64 t306.length co64 : Value).ownBlock)) (n := t279.length) (c := co43) ?_).2.2; exact (hs_ HO281 BK313)); (case side6 => exact (Kd.R_reads' HO281.out).2.1); (case side7 => refine (Kd.R_reads' (e := 74) (base := w.heap.size) (ok := fun k_ => (((((True ∧ some k_ ≠ (.slice Ao36 t267.length co36 : Value).ownBlock) ∧ some k_ ≠ (.slice Ao38 t273.length co38 : Value).ownBlock) ∧ some k_ ≠ (.slice Ao52 t293.length co52 : Value).ownBlock) ∧ some k_ ≠ (.slice Ao57 t300.length co57 : Value).ownBlock) ∧ some k_ ≠ (.slice Ao65 t309.length co65 : Value).ownBlock)) (n := t282.length) (c := co44) ?_).2.2; exact (hs_ HO284 BK313)); (case side8 => exact (Kd.R_reads' HO284.out).2.1); rintro e w75 ⟨rfl, hb⟩; refine ⟨_, rfl, ?_⟩; replace HO266 := rs_ HO266 BK313 hb; replace HO269 := rs_ HO269 BK313 hb; replace HO272 := rs_ HO272 BK313 hb; replace HO275 := rs_ HO275 BK313 hb; replace HO281 := rs_ HO281 BK313 hb; replace HO284 := rs_ HO284 BK313 hb; replace HO292 := rs_ HO292 BK313 hb; replace HO295 := rs_ HO295 BK313 hb; replace HO299 := rs_ HO299 BK313 hb; replace HO302 := rs_ HO302 BK313 hb; replace HO308 := rs_ HO308 BK313 hb; replace HO311 := rs_ HO311 BK313 hb; replace BK257 := bf_ BK257 NB257_313 hb; replace BK286 := bf_ BK286 NB286_313 hb; replace BK296 := bf_ BK296 NB296_313 hb; replace BK313 := Aside0.mk (blk_below (g := gb313) (o := .cells #[.int .i64 t303, .int .i64 t304, .int .i64 t305, .slice Ao64 t306.length co64, .slice Ao65 t309.length co65] 31 (0, 0)) (by (with_reducible repeat (first | refine blk_drewN ?_ _ | refine blk_drew ?_ | refine blk_alloc ?_ _)); refine blk_put (cs := #[.int .i64 t303, .int .i64 t304, .int .i64 t305, .slice Ao64 t306.length co64, .slice none 0 0]) ?_ 4 _ rfl; (with_reducible repeat (first | refine blk_drewN ?_ _ | refine blk_drew ?_ | refine blk_alloc ?_ _)); refine blk_put (cs := #[.int .i64 t303, .int .i64 t304, .int .i64 t305, .slice none 0 0, .slice none 0 0]) ?_ 3 _ rfl; (with_reducible repeat (first | refine blk_drewN ?_ _ | refine blk_drew ?_ | refine blk_alloc ?_ _)); refine blk_put (cs := #[.int .i64 t303, .int .i64 t304, .int .i64 0, .slice none 0 0, .slice none 0 0]) ?_ 2 _ rfl; (with_reducible repeat (first | refine blk_drewN ?_ _ | refine blk_drew ?_ | refine blk_alloc ?_ _)); refine blk_put (cs := #[.int .i64 t303, .int .i64 0, .int .i64 0, .slice none 0 0, .slice none 0 0]) ?_ 1 _ rfl; (with_reducible repeat (first | refine blk_drewN ?_ _ | refine blk_drew ?_ | refine blk_alloc ?_ _)); refine blk_put (cs := #[.int .i64 0, .int .i64 0, .int .i64 0, .slice none 0 0, .slice none 0 0]) ?_ 0 _ rfl; (with_reducible repeat (first | refine blk_drewN ?_ _ | refine blk_drew ?_ | refine blk_alloc ?_ _)); exact BK313.out) hb); replace HB := Aside0.mk (bt_ HB hb); (try clear hb); (try clear hb2); (try clear hk); (try clear hi)))
      go_meet
      case rel => exact ⟨_, ((t312 != t285)), (by first | rfl | (simp; done) | (simp [*]; done)), H', ⟨by first | omega | exact Nat.le_refl _⟩, ⟨by (with_reducible repeat (first | apply Kd.R_alloc | apply Kd.R_drewN | apply Kd.R_drew)); exact Kd.R_mono HO299.out (fun _ hk => ⟨hk.1.1.2, ⟨hk.1.2, hk.2⟩⟩)⟩, ⟨by (with_reducible repeat (first | apply Kd.R_alloc | apply Kd.R_drewN | apply Kd.R_drew)); exact Kd.R_mono HO302.out (fun _ hk => ⟨hk.1.1.2, ⟨hk.1.2, hk.2⟩⟩)⟩, ⟨by (with_reducible repeat (first | apply Kd.R_alloc | apply Kd.R_drewN | apply Kd.R_drew)); exact Kd.R_mono HO281.out (fun _ hk => ⟨hk.1.2, ⟨hk.1.1.2, hk.2⟩⟩)⟩, ⟨by (with_reducible repeat (first | apply Kd.R_alloc | apply Kd.R_drewN | apply Kd.R_drew)); exact Kd.R_mono HO284.out (fun _ hk => ⟨hk.1.2, ⟨hk.1.1.2, hk.2⟩⟩)⟩, ⟨by (with_reducible repeat (first | apply Kd.R_alloc | apply Kd.R_drewN | apply Kd.R_drew)); exact Kd.R_mono HO292.out (fun _ hk => ⟨hk.1.2, ⟨hk.1.1.2, hk.2⟩⟩)⟩, ⟨by (with_reducible repeat (first | apply Kd.R_alloc | apply Kd.R_drewN | apply Kd.R_drew)); exact Kd.R_mono HO295.out (fun _ hk => ⟨hk.1.2, ⟨hk.1.1.2, hk.2⟩⟩)⟩, ⟨by (with_reducible repeat (first | apply Kd.R_alloc | apply Kd.R_drewN | apply Kd.R_drew)); exact Kd.R_mono HO308.out (fun _ hk => ⟨hk.2, ⟨hk.1.1.2, hk.1.2⟩⟩)⟩, ⟨by (with_reducible repeat (first | apply Kd.R_alloc | apply Kd.R_drewN | apply Kd.R_drew)); exact Kd.R_mono HO311.out (fun _ hk => ⟨hk.2, ⟨hk.1.1.2, hk.1.2⟩⟩)⟩, ⟨by (with_reducible repeat (first | refine blk_drewN ?_ _ | refine blk_drew ?_ | refine blk_alloc ?_ _)); exact BK257.out⟩, ⟨by (with_reducible repeat (first | refine blk_drewN ?_ _ | refine blk_drew ?_ | refine blk_alloc ?_ _)); exact BK286.out⟩, ⟨by (with_reducible repeat (first | refine blk_drewN ?_ _ | refine blk_drew ?_ | refine blk_alloc ?_ _)); exact BK296.out⟩, ⟨by (with_reducible repeat (first | refine blk_drewN ?_ _ | refine blk_drew ?_ | refine blk_alloc ?_ _)); exact BK313.out⟩, ⟨by repeat (first | (with_reducible first | exact HB.out | apply below_alloc | apply pw_below_drewN | apply below_drew1 | refine below_set ?_ GE257.out | refine below_set ?_ GE286.out | refine below_set ?_ GE296.out | refine below_set ?_ GE313.out) | exact HB.out)⟩⟩
     ·replace c67 := Bool.eq_false_iff.mpr c67
      subst c67
      rw [if_neg (show ¬ (false = true) by decide)] at H
      have H' := Aside0.mk H
      clear H
      have hnb76 := NB313_257.out
      have hnc76 := NB257_313.out
      have hnb77 := NB313_286.out
      have hnc77 := NB286_313.out
      have hnb78 := NB313_296.out
      have hnc78 := NB296_313.out
      have hcz79_0 := cz_ BK313 0 (.int .i64 0)
      have hcz79_1 := cz_ BK313 1 (.int .i64 0)
      have hcz79_2 := cz_ BK313 2 (.int .i64 0)
      have hcz79_3 := cz_ BK313 3 (.slice none 0 0)
      have hcz79_4 := cz_ BK313 4 (.slice none 0 0)
      have hfz79_0 := blk_frozen BK313.out 0
      have hfz79_1 := blk_frozen BK313.out 1
      have hfz79_2 := blk_frozen BK313.out 2
      have hfz79_3 := blk_frozen BK313.out 3
      have hfz79_4 := blk_frozen BK313.out 4
      have hnb80 := NB286_257.out
      have hnc80 := NB257_286.out
      have hnb81 := NB286_296.out
      have hnc81 := NB296_286.out
      have hcz82_0 := cz_ BK286 0 (.int .i64 t276)
      have hcz82_1 := cz_ BK286 1 (.int .i64 t277)
      have hcz82_2 := cz_ BK286 2 (.int .i64 t278)
      have hcz82_3 := cz_ BK286 3 (.slice Ao43 t279.length co43)
      have hcz82_4 := cz_ BK286 4 (.slice Ao44 t282.length co44)
      have hfz82_0 := blk_frozen BK286.out 0
      have hfz82_1 := blk_frozen BK286.out 1
      have hfz82_2 := blk_frozen BK286.out 2
      have hfz82_3 := blk_frozen BK286.out 3
      have hfz82_4 := blk_frozen BK286.out 4
      go_wp2_with (first | ((with_reducible refine gate_callee (f := 17) rfl ?_); refine gl_ (some 60) Try.func17 #[.agg #[.int .i64 t303, .int .i64 t304, .int .i64 t305, .slice Ao64 t306.length co64, .slice Ao65 t309.length co65], .agg #[.int .i64 t276, .int .i64 t277, .int .i64 t278, .slice Ao43 t279.length co43, .slice Ao44 t282.length co44]] ?_; (with_reducible refine (laws_eqLsa.calls k t303 t304 t305 _ _ t306 _ _ t309 t276 t277 t278 _ _ t279 _ _ t282 false _ ?side1 ?side2 ?side3 ?side4 ?side5 ?side6 ?side7 ?side8 A66.out).mono ?_); (case side1 => refine (Kd.R_reads' (e := 70) (base := w.heap.size) (ok := fun k_ => (((((True ∧ some k_ ≠ (.slice Ao35 t264.length co35 : Value).ownBlock) ∧ some k_ ≠ (.slice Ao37 t270.length co37 : Value).ownBlock) ∧ some k_ ≠ (.slice Ao43 t279.length co43 : Value).ownBlock) ∧ some k_ ≠ (.slice Ao51 t290.length co51 : Value).ownBlock) ∧ some k_ ≠ (.slice Ao56 t297.length co56 : Value).ownBlock)) (n := t306.length) (c := co64) ?_).2.2; exact (hs_ HO308 BK313)); (case side2 => exact (Kd.R_reads' HO308.out).2.1); (case side3 => refine (Kd.R_reads' (e := 74) (base := w.heap.size) (ok := fun k_ => (((((True ∧ some k_ ≠ (.slice Ao36 t267.length co36 : Value).ownBlock) ∧ some k_ ≠ (.slice Ao38 t273.length co38 : Value).ownBlock) ∧ some k_ ≠ (.slice Ao44 t282.length co44 : Value).ownBlock) ∧ some k_ ≠ (.slice Ao52 t293.length co52 : Value).ownBlock) ∧ some k_ ≠ (.slice Ao57 t300.length co57 : Value).ownBlock)) (n := t309.length) (c := co65) ?_).2.2; exact (hs_ HO311 BK313)); (case side4 => exact (Kd.R_reads' HO311.out).2.1); (case side5 => refine (Kd.R_reads' (e := 70) (base := w.heap.size) (ok := fun k_ => (((((True ∧ some k_ ≠ (.slice Ao35 t264.length co35 : Value).ownBlock) ∧ some k_ ≠ (.slice Ao37 t270.length co37 : Value).ownBlock) ∧ some k_ ≠ (.slice Ao51 t290.length co51 : Value).ownBlock) ∧ some k_ ≠ (.slice Ao56 t297.length co56 : Value).ownBlock) ∧ some k_ ≠ (.slice Ao64 t306.length co64 : Value).ownBlock)) (n := t279.length) (c := co43) ?_).2.2; exact (hs_ HO281 BK313)); (case side6 => exact (Kd.R_reads' HO281.out).2.1); (case side7 => refine (Kd.R_reads' (e := 74) (base := w.heap.size) (ok := fun k_ => (((((True ∧ some k_ ≠ (.slice Ao36 t267.length co36 : Value).ownBlock) ∧ some k_ ≠ (.slice Ao38 t273.length co38 : Value).ownBlock) ∧ some k_ ≠ (.slice Ao52 t293.length co52 : Value).ownBlock) ∧ some k_ ≠ (.slice Ao57 t300.length co57 : Value).ownBlock) ∧ some k_ ≠ (.slice Ao65 t309.length co65 : Value).ownBlock)) (n := t282.length) (c := co44) ?_).2.2; exact (hs_ HO284 BK313)); (case side8 => exact (Kd.R_reads' HO284.out).2.1); rintro e w83 ⟨rfl, hb⟩; refine ⟨_, rfl, ?_⟩; replace HO266 := rs_ HO266 BK313 hb; replace HO269 := rs_ HO269 BK313 hb; replace HO272 := rs_ HO272 BK313 hb; replace HO275 := rs_ HO275 BK313 hb; replace HO281 := rs_ HO281 BK313 hb; replace HO284 := rs_ HO284 BK313 hb; replace HO292 := rs_ HO292 BK313 hb; replace HO295 := rs_ HO295 BK313 hb; replace HO299 := rs_ HO299 BK313 hb; replace HO302 := rs_ HO302 BK313 hb; replace HO308 := rs_ HO308 BK313 hb; replace HO311 := rs_ HO311 BK313 hb; replace BK257 := bf_ BK257 NB257_313 hb; replace BK286 := bf_ BK286 NB286_313 hb; replace BK296 := bf_ BK296 NB296_313 hb; replace BK313 := Aside0.mk (blk_below (g := gb313) (o := .cells #[.int .i64 t303, .int .i64 t304, .int .i64 t305, .slice Ao64 t306.length co64, .slice Ao65 t309.length co65] 31 (0, 0)) (by (with_reducible repeat (first | refine blk_drewN ?_ _ | refine blk_drew ?_ | refine blk_alloc ?_ _)); refine blk_put (cs := #[.int .i64 t303, .int .i64 t304, .int .i64 t305, .slice Ao64 t306.length co64, .slice none 0 0]) ?_ 4 _ rfl; (with_reducible repeat (first | refine blk_drewN ?_ _ | refine blk_drew ?_ | refine blk_alloc ?_ _)); refine blk_put (cs := #[.int .i64 t303, .int .i64 t304, .int .i64 t305, .slice none 0 0, .slice none 0 0]) ?_ 3 _ rfl; (with_reducible repeat (first | refine blk_drewN ?_ _ | refine blk_drew ?_ | refine blk_alloc ?_ _)); refine blk_put (cs := #[.int .i64 t303, .int .i64 t304, .int .i64 0, .slice none 0 0, .slice none 0 0]) ?_ 2 _ rfl; (with_reducible repeat (first | refine blk_drewN ?_ _ | refine blk_drew ?_ | refine blk_alloc ?_ _)); refine blk_put (cs := #[.int .i64 t303, .int .i64 0, .int .i64 0, .slice none 0 0, .slice none 0 0]) ?_ 1 _ rfl; (with_reducible repeat (first | refine blk_drewN ?_ _ | refine blk_drew ?_ | refine blk_alloc ?_ _)); refine blk_put (cs := #[.int .i64 0, .int .i64 0, .int .i64 0, .slice none 0 0, .slice none 0 0]) ?_ 0 _ rfl; (with_reducible repeat (first | refine blk_drewN ?_ _ | refine blk_drew ?_ | refine blk_alloc ?_ _)); exact BK313.out) hb); replace HB := Aside0.mk (bt_ HB hb); (try clear hb); (try clear hb2); (try clear hk); (try clear hi)))
      go_meet
      case rel => exact ⟨_, (true), (by first | rfl | (simp; done) | (simp [*]; done)), H', ⟨by first | omega | exact Nat.le_refl _⟩, ⟨by (with_reducible repeat (first | apply Kd.R_alloc | apply Kd.R_drewN | apply Kd.R_drew)); exact Kd.R_mono HO299.out (fun _ hk => ⟨hk.1.1.2, ⟨hk.1.2, hk.2⟩⟩)⟩, ⟨by (with_reducible repeat (first | apply Kd.R_alloc | apply Kd.R_drewN | apply Kd.R_drew)); exact Kd.R_mono HO302.out (fun _ hk => ⟨hk.1.1.2, ⟨hk.1.2, hk.2⟩⟩)⟩, ⟨by (with_reducible repeat (first | apply Kd.R_alloc | apply Kd.R_drewN | apply Kd.R_drew)); exact Kd.R_mono HO281.out (fun _ hk => ⟨hk.1.2, ⟨hk.1.1.2, hk.2⟩⟩)⟩, ⟨by (with_reducible repeat (first | apply Kd.R_alloc | apply Kd.R_drewN | apply Kd.R_drew)); exact Kd.R_mono HO284.out (fun _ hk => ⟨hk.1.2, ⟨hk.1.1.2, hk.2⟩⟩)⟩, ⟨by (with_reducible repeat (first | apply Kd.R_alloc | apply Kd.R_drewN | apply Kd.R_drew)); exact Kd.R_mono HO292.out (fun _ hk => ⟨hk.1.2, ⟨hk.1.1.2, hk.2⟩⟩)⟩, ⟨by (with_reducible repeat (first | apply Kd.R_alloc | apply Kd.R_drewN | apply Kd.R_drew)); exact Kd.R_mono HO295.out (fun _ hk => ⟨hk.1.2, ⟨hk.1.1.2, hk.2⟩⟩)⟩, ⟨by (with_reducible repeat (first | apply Kd.R_alloc | apply Kd.R_drewN | apply Kd.R_drew)); exact Kd.R_mono HO308.out (fun _ hk => ⟨hk.2, ⟨hk.1.1.2, hk.1.2⟩⟩)⟩, ⟨by (with_reducible repeat (first | apply Kd.R_alloc | apply Kd.R_drewN | apply Kd.R_drew)); exact Kd.R_mono HO311.out (fun _ hk => ⟨hk.2, ⟨hk.1.1.2, hk.1.2⟩⟩)⟩, ⟨by (with_reducible repeat (first | refine blk_drewN ?_ _ | refine blk_drew ?_ | refine blk_alloc ?_ _)); exact BK257.out⟩, ⟨by (with_reducible repeat (first | refine blk_drewN ?_ _ | refine blk_drew ?_ | refine blk_alloc ?_ _)); exact BK286.out⟩, ⟨by (with_reducible repeat (first | refine blk_drewN ?_ _ | refine blk_drew ?_ | refine blk_alloc ?_ _)); exact BK296.out⟩, ⟨by (with_reducible repeat (first | refine blk_drewN ?_ _ | refine blk_drew ?_ | refine blk_alloc ?_ _)); exact BK313.out⟩, ⟨by repeat (first | (with_reducible first | exact HB.out | apply below_alloc | apply pw_below_drewN | apply below_drew1 | refine below_set ?_ GE257.out | refine below_set ?_ GE286.out | refine below_set ?_ GE296.out | refine below_set ?_ GE313.out) | exact HB.out)⟩⟩
    case rest =>
     clear HC27
     try clear c1
     try clear c2
     try clear p2
     try clear c3
     try clear c4
     try clear c5
     try clear c5b0
     try clear c6
     try clear c7
     try clear c8
     try clear c10
     try clear c10b0
     try clear c13
     try clear c15
     try clear c15b0
     try clear c17
     try clear c27
     try clear c28
     try clear c29
     try clear c30
     try clear c31
     try clear c32
     try clear c41
     try clear c48
     try clear c49
     try clear c60
     try clear c61
     try clear c62
     try clear c67
     try clear c68
     try clear c69
     try clear c70
     try clear c72
     try clear c73
     try clear c76
     try clear c77
     try clear c78
     try clear c80
     try clear c81
     try clear hcz12_0
     try clear hcz12_1
     try clear hcz12_2
     try clear hcz12_3
     try clear hcz12_4
     try clear hcz17_0
     try clear hcz17_1
     try clear hcz17_2
     try clear hcz17_3
     try clear hcz17_4
     try clear hcz29_0
     try clear hcz29_1
     try clear hcz29_2
     try clear hcz29_3
     try clear hcz29_4
     try clear hcz31_0
     try clear hcz31_1
     try clear hcz31_2
     try clear hcz31_3
     try clear hcz31_4
     try clear hcz42_0
     try clear hcz42_1
     try clear hcz42_2
     try clear hcz42_3
     try clear hcz42_4
     try clear hcz45_0
     try clear hcz45_1
     try clear hcz45_2
     try clear hcz45_3
     try clear hcz45_4
     try clear hcz50_0
     try clear hcz50_1
     try clear hcz50_2
     try clear hcz50_3
     try clear hcz50_4
     try clear hcz55_0
     try clear hcz55_1
     try clear hcz55_2
     try clear hcz55_3
     try clear hcz55_4
     try clear hcz63_0
     try clear hcz63_1
     try clear hcz63_2
     try clear hcz63_3
     try clear hcz63_4
     try clear hcz71_0
     try clear hcz71_1
     try clear hcz71_2
     try clear hcz71_3
     try clear hcz71_4
     try clear hcz74_0
     try clear hcz74_1
     try clear hcz74_2
     try clear hcz74_3
     try clear hcz74_4
     try clear hcz79_0
     try clear hcz79_1
     try clear hcz79_2
     try clear hcz79_3
     try clear hcz79_4
     try clear hcz7_0
     try clear hcz7_1
     try clear hcz7_2
     try clear hcz7_3
     try clear hcz7_4
     try clear hcz82_0
     try clear hcz82_1
     try clear hcz82_2
     try clear hcz82_3
     try clear hcz82_4
     try clear hfz12_0
     try clear hfz12_1
     try clear hfz12_2
     try clear hfz12_3
     try clear hfz12_4
     try clear hfz17_0
     try clear hfz17_1
     try clear hfz17_2
     try clear hfz17_3
     try clear hfz17_4
     try clear hfz29_0
     try clear hfz29_1
     try clear hfz29_2
     try clear hfz29_3
     try clear hfz29_4
     try clear hfz31_0
     try clear hfz31_1
     try clear hfz31_2
     try clear hfz31_3
     try clear hfz31_4
     try clear hfz42_0
     try clear hfz42_1
     try clear hfz42_2
     try clear hfz42_3
     try clear hfz42_4
     try clear hfz45_0
     try clear hfz45_1
     try clear hfz45_2
     try clear hfz45_3
     try clear hfz45_4
     try clear hfz50_0
     try clear hfz50_1
     try clear hfz50_2
     try clear hfz50_3
     try clear hfz50_4
     try clear hfz55_0
     try clear hfz55_1
     try clear hfz55_2
     try clear hfz55_3
     try clear hfz55_4
     try clear hfz63_0
     try clear hfz63_1
     try clear hfz63_2
     try clear hfz63_3
     try clear hfz63_4
     try clear hfz71_0
     try clear hfz71_1
     try clear hfz71_2
     try clear hfz71_3
     try clear hfz71_4
     try clear hfz74_0
     try clear hfz74_1
     try clear hfz74_2
     try clear hfz74_3
     try clear hfz74_4
     try clear hfz79_0
     try clear hfz79_1
     try clear hfz79_2
     try clear hfz79_3
     try clear hfz79_4
     try clear hfz7_0
     try clear hfz7_1
     try clear hfz7_2
     try clear hfz7_3
     try clear hfz7_4
     try clear hfz82_0
     try clear hfz82_1
     try clear hfz82_2
     try clear hfz82_3
     try clear hfz82_4
     obtain ⟨kq, x66_26, rfl, HA, HJ26, HO_11, HO_12, HO_287003, HO_287004, HO_297003, HO_297004, HO_314003, HO_314004, BK257, BK286, BK296, BK313, HB⟩ := hcut
     cases kq with
     | zero => exact absurd HA.out (by simp [laws_FnExactNextLsa.j0])
     | succ kj26 =>
      have H := HA.out
      clear HA
      simp only [laws_FnExactNextLsa.j0] at H
      by_cases c84 : x66_26 = true
      ·subst c84
       rw [if_pos rfl] at H
       obtain rfl := Option.some.inj H
       go_wp2
       go_ret
       exact ⟨by first | rfl | (simp [errW_none, errW_some] <;> rfl) | (simp [*, errW_none, errW_some] <;> rfl), by repeat (first | (with_reducible first | exact HB.out | apply below_alloc | apply pw_below_drewN | apply below_drew1 | refine below_set ?_ GE257.out | refine below_set ?_ GE286.out | refine below_set ?_ GE296.out | refine below_set ?_ GE313.out) | exact HB.out)⟩
      ·replace c84 := Bool.eq_false_iff.mpr c84
       subst c84
       rw [if_neg (show ¬ (false = true) by decide)] at H
       replace H := Option.bind_eq_some_iff.mp H
       obtain ⟨⟨t315, t316, t317, t318, t321⟩, A850, H⟩ := H
       have A85 := Aside0.mk A850
       clear A850
       replace H := Option.bind_eq_some_iff.mp H
       obtain ⟨t324, A860, H⟩ := H
       have A86 := Aside0.mk A860
       clear A860
       by_cases c87 : t324 = true
       ·subst c87
        rw [if_pos rfl] at H
        replace H := Option.bind_eq_some_iff.mp H
        obtain ⟨t325, A880, H⟩ := H
        have A88 := Aside0.mk A880
        clear A880
        replace H := Option.bind_eq_some_iff.mp H
        obtain ⟨t328, A890, H⟩ := H
        have A89 := Aside0.mk A890
        clear A890
        by_cases c90 : t328 = true
        ·subst c90
         rw [if_pos rfl] at H
         replace H := Option.bind_eq_some_iff.mp H
         obtain ⟨t329, A910, H⟩ := H
         have A91 := Aside0.mk A910
         clear A910
         replace H := Option.bind_eq_some_iff.mp H
         obtain ⟨t332, A920, H⟩ := H
         have A92 := Aside0.mk A920
         clear A920
         by_cases c93 : t332 = true
         ·subst c93
          rw [if_pos rfl] at H
          replace H := Option.bind_eq_some_iff.mp H
          obtain ⟨⟨t333, t334, t335⟩, A940, H⟩ := H
          have A94 := Aside0.mk A940
          clear A940
          replace H := Option.bind_eq_some_iff.mp H
          obtain ⟨⟨t336, t337⟩, A950, H⟩ := H
          have A95 := Aside0.mk A950
          clear A950
          replace H := Option.bind_eq_some_iff.mp H
          obtain ⟨⟨t338, t339⟩, A960, H⟩ := H
          have A96 := Aside0.mk A960
          clear A960
          have HC97 := Aside0.mk H
          clear H
          try go_wp2
          replace HO_11 := Aside0.mk (Kd.R_drew HO_11.out)
          replace HO_12 := Aside0.mk (Kd.R_drew HO_12.out)
          replace HO_287003 := Aside0.mk (Kd.R_drew HO_287003.out)
          replace HO_287004 := Aside0.mk (Kd.R_drew HO_287004.out)
          replace HO_297003 := Aside0.mk (Kd.R_drew HO_297003.out)
          replace HO_297004 := Aside0.mk (Kd.R_drew HO_297004.out)
          replace HO_314003 := Aside0.mk (Kd.R_drew HO_314003.out)
          replace HO_314004 := Aside0.mk (Kd.R_drew HO_314004.out)
          replace BK257 := Aside0.mk (blk_drew BK257.out)
          replace BK286 := Aside0.mk (blk_drew BK286.out)
          replace BK296 := Aside0.mk (blk_drew BK296.out)
          replace BK313 := Aside0.mk (blk_drew BK313.out)
          replace HB := Aside0.mk (below_drew1 HB.out)
          refine start_ (n := 5) (S := fun w' => w'.cell? ⟨gb296, 0, none⟩ = some (.int .i64 t287) ∧ w'.cell? ⟨gb296, 1, none⟩ = some (.int .i64 t288) ∧ w'.cell? ⟨gb296, 2, none⟩ = some (.int .i64 t289) ∧ w'.cell? ⟨gb296, 3, none⟩ = some (.slice Ao51 t290.length co51) ∧ w'.cell? ⟨gb296, 4, none⟩ = some (.slice Ao52 t293.length co52) ∧ w'.cell? ⟨gb257, 0, none⟩ = some (.int .i64 a0_0) ∧ w'.cell? ⟨gb257, 1, none⟩ = some (.int .i64 a0_1) ∧ w'.cell? ⟨gb257, 2, none⟩ = some (.int .i64 a0_2) ∧ w'.cell? ⟨gb257, 3, none⟩ = some (.slice A0_3 l0_3.length c0_3) ∧ w'.cell? ⟨gb257, 4, none⟩ = some (.slice A0_4 l0_4.length c0_4)) (ds := []) ba12_0 (by kernel_rfl) rfl rfl ⟨(blk_cell BK296.out 0).trans rfl, (blk_cell BK296.out 1).trans rfl, (blk_cell BK296.out 2).trans rfl, (blk_cell BK296.out 3).trans rfl, (blk_cell BK296.out 4).trans rfl, (blk_cell BK257.out 0).trans rfl, (blk_cell BK257.out 1).trans rfl, (blk_cell BK257.out 2).trans rfl, (blk_cell BK257.out 3).trans rfl, (blk_cell BK257.out 4).trans rfl⟩ (fun hHeld => ?_)
          generalize wc.drew = w98 at HO_11 HO_12 HO_287003 HO_287004 HO_297003 HO_297004 HO_314003 HO_314004 BK257 BK286 BK296 BK313 HB hHeld ⊢
          refine take_ (i := 0) (N := some 67) (v := ?_) (a' := ?_) ba12_1 rfl rfl (by kernel_rfl) (fun _ _ _ h => h) (Or.inl ⟨by rfl, ?_⟩) hHeld ?_ ?_
          rotate_left; · rintro w' ⟨s0, s1, s2, s3, s4, s5, s6, s7, s8, s9⟩; go_simp; with_reducible rfl
          rotate_left; · simp only [Act.put, List.setIfInBounds_toArray, List.set_cons_zero, List.set_cons_succ, i64_w, i32_w]; rfl
          refine take_ (i := 1) (N := some 68) (v := ?_) (a' := ?_) ba12_2 rfl rfl (by kernel_rfl) (fun _ _ _ h => h) (Or.inl ⟨by rfl, ?_⟩) hHeld ?_ ?_
          rotate_left; · rintro w' ⟨s0, s1, s2, s3, s4, s5, s6, s7, s8, s9⟩; go_simp; with_reducible rfl
          rotate_left; · simp only [Act.put, List.setIfInBounds_toArray, List.set_cons_zero, List.set_cons_succ, i64_w, i32_w]; rfl
          refine one_ (i := 2) (N := some 69) ba12_3 rfl rfl (by kernel_rfl) (by decide) (fun K hK => ?_)
          refine gz_ Try.func15 #[.agg #[.int .i64 a0_0, .int .i64 a0_1, .int .i64 a0_2, .slice A0_3 l0_3.length c0_3, .slice A0_4 l0_4.length c0_4]] ?_
          with_reducible refine (laws_toLsa.calls kj26 a0_0 a0_1 a0_2 _ _ l0_3 _ _ l0_4 t315 t316 t317 t318 t321 _ ?side1 ?side2 ?side3 ?side4 A85.out).mono ?_
          (case side1 => exact cb_ HR0_3 HB)
          (case side2 => exact HC0_3.out)
          (case side3 => exact cb_ HR0_4 HB)
          (case side4 => exact HC0_4.out)
          rintro e w99 ⟨v319, v322, rfl, ho0, ho1, hb⟩
          refine ⟨_, rfl, ?_⟩
          have HO320 := Aside0.mk (Kd.R_lower (Kd.R_new' (Kd.R_new' (Kd.R_new' (Kd.R_new' ho0 (Kd.R_lt (hd_ HO_11))) (Kd.R_lt (hd_ HO_287003))) (Kd.R_lt (hd_ HO_297003))) (Kd.R_lt (hd_ HO_314003))) (bz_ HB))
          have HO323 := Aside0.mk (Kd.R_lower (Kd.R_new' (Kd.R_new' (Kd.R_new' (Kd.R_new' ho1 (Kd.R_lt (hd_ HO_12))) (Kd.R_lt (hd_ HO_287004))) (Kd.R_lt (hd_ HO_297004))) (Kd.R_lt (hd_ HO_314004))) (bz_ HB))
          replace HO_11 := Aside0.mk (Kd.R_elder' (hd_ HO_11) (Kd.R_base ho0) hb)
          replace HO_287003 := Aside0.mk (Kd.R_elder' (hd_ HO_287003) (Kd.R_base ho0) hb)
          replace HO_297003 := Aside0.mk (Kd.R_elder' (hd_ HO_297003) (Kd.R_base ho0) hb)
          replace HO_314003 := Aside0.mk (Kd.R_elder' (hd_ HO_314003) (Kd.R_base ho0) hb)
          replace HO_12 := Aside0.mk (Kd.R_elder' (hd_ HO_12) (Kd.R_base ho1) hb)
          replace HO_287004 := Aside0.mk (Kd.R_elder' (hd_ HO_287004) (Kd.R_base ho1) hb)
          replace HO_297004 := Aside0.mk (Kd.R_elder' (hd_ HO_297004) (Kd.R_base ho1) hb)
          replace HO_314004 := Aside0.mk (Kd.R_elder' (hd_ HO_314004) (Kd.R_base ho1) hb)
          replace BK257 := Aside0.mk (bb_ BK257 hb)
          replace BK286 := Aside0.mk (bb_ BK286 hb)
          replace BK296 := Aside0.mk (bb_ BK296 hb)
          replace BK313 := Aside0.mk (bb_ BK313 hb)
          replace HB := Aside0.mk (bt_ HB hb)
          (try clear hb)
          (try clear hb2)
          (try clear hk)
          (try clear hi)
          (try clear ho0)
          (try clear ho1)
          obtain ⟨Ao100, co100, eo100⟩ := Kd.R_slice HO320.out
          (first | subst eo100 | (injection eo100 with f1_ f2_ f3_; have f4_ := f1_.symm; have f5_ := f3_.symm; clear f1_ f2_ f3_; subst f4_; subst f5_))
          obtain ⟨Ao101, co101, eo101⟩ := Kd.R_slice HO323.out
          (first | subst eo101 | (injection eo101 with f1_ f2_ f3_; have f4_ := f1_.symm; have f5_ := f3_.symm; clear f1_ f2_ f3_; subst f4_; subst f5_))
          refine hK.out _ _ ⟨(blk_cell BK296.out 0).trans rfl, (blk_cell BK296.out 1).trans rfl, (blk_cell BK296.out 2).trans rfl, (blk_cell BK296.out 3).trans rfl, (blk_cell BK296.out 4).trans rfl, (blk_cell BK257.out 0).trans rfl, (blk_cell BK257.out 1).trans rfl, (blk_cell BK257.out 2).trans rfl, (blk_cell BK257.out 3).trans rfl, (blk_cell BK257.out 4).trans rfl⟩ (fun hHeld => ?_)
          clear hK K
          refine nz_ 69 ?_
          refine one_ (i := 3) (N := some 70) ba12_4 rfl rfl (by kernel_rfl) (by decide) (fun K hK => ?_)
          refine gz_ Try.func17 #[.agg #[.int .i64 t287, .int .i64 t288, .int .i64 t289, .slice Ao51 t290.length co51, .slice Ao52 t293.length co52], .agg #[.int .i64 t315, .int .i64 t316, .int .i64 t317, .slice Ao100 t318.length co100, .slice Ao101 t321.length co101]] ?_
          with_reducible refine (laws_eqLsa.calls kj26 t287 t288 t289 _ _ t290 _ _ t293 t315 t316 t317 _ _ t318 _ _ t321 true _ ?side1 ?side2 ?side3 ?side4 ?side5 ?side6 ?side7 ?side8 A86.out).mono ?_
          (case side1 => exact rc_ HO_297003)
          (case side2 => exact (Kd.R_reads' HO_297003.out).2.1)
          (case side3 => exact rc_ HO_297004)
          (case side4 => exact (Kd.R_reads' HO_297004.out).2.1)
          (case side5 => exact rc_ HO320)
          (case side6 => exact (Kd.R_reads' HO320.out).2.1)
          (case side7 => exact rc_ HO323)
          (case side8 => exact (Kd.R_reads' HO323.out).2.1)
          rintro e w102 ⟨rfl, hb⟩
          refine ⟨_, rfl, ?_⟩
          replace HO_11 := rb_ HO_11 hb
          replace HO_12 := rb_ HO_12 hb
          replace HO_287003 := rb_ HO_287003 hb
          replace HO_287004 := rb_ HO_287004 hb
          replace HO_297003 := rb_ HO_297003 hb
          replace HO_297004 := rb_ HO_297004 hb
          replace HO_314003 := rb_ HO_314003 hb
          replace HO_314004 := rb_ HO_314004 hb
          replace HO320 := rb_ HO320 hb
          replace HO323 := rb_ HO323 hb
          replace BK257 := Aside0.mk (bb_ BK257 hb)
          replace BK286 := Aside0.mk (bb_ BK286 hb)
          replace BK296 := Aside0.mk (bb_ BK296 hb)
          replace BK313 := Aside0.mk (bb_ BK313 hb)
          replace HB := Aside0.mk (bt_ HB hb)
          (try clear hb)
          (try clear hb2)
          (try clear hk)
          (try clear hi)
          refine hK.out _ _ ⟨(blk_cell BK296.out 0).trans rfl, (blk_cell BK296.out 1).trans rfl, (blk_cell BK296.out 2).trans rfl, (blk_cell BK296.out 3).trans rfl, (blk_cell BK296.out 4).trans rfl, (blk_cell BK257.out 0).trans rfl, (blk_cell BK257.out 1).trans rfl, (blk_cell BK257.out 2).trans rfl, (blk_cell BK257.out 3).trans rfl, (blk_cell BK257.out 4).trans rfl⟩ (fun hHeld => ?_)
          clear hK K
          refine nz_ 70 ?_
          refine pure_ (i := 4) (N := some 71) (v := ?_) (a' := ?_) ba12_5 rfl rfl (by kernel_rfl) (fun _ _ _ h => h) (Or.inl ⟨by rfl, ?_⟩) ?_ ?_
          rotate_left; · intro w'; go_simp; with_reducible rfl
          rotate_left; · simp only [Act.put, List.setIfInBounds_toArray, List.set_cons_zero, List.set_cons_succ, i64_w, i32_w]; rfl
          refine done_ (by kernel_rfl) ?_
          go_upto_region 28 with (first | ((with_reducible refine gate_callee (f := 30) rfl ?_); refine gl_ (some 74) Try.func30 #[.slice A1 l1.length c1] ?_; (with_reducible refine (laws_toLinkS.calls kj26 _ _ l1 t325 _ ?side1 ?side2 A88.out).mono ?_); (case side1 => exact cb_ HR1 HB); (case side2 => exact HC1.out); rintro e w103 ⟨v326, rfl, ho0, hb⟩; refine ⟨_, rfl, ?_⟩; have HO327 := Aside0.mk (Kd.R_lower (Kd.R_new' (Kd.R_new' (Kd.R_new' (Kd.R_new' (Kd.R_new' ho0 (Kd.R_lt (hd_ HO_11))) (Kd.R_lt (hd_ HO_287003))) (Kd.R_lt (hd_ HO_297003))) (Kd.R_lt (hd_ HO_314003))) (Kd.R_lt (hd_ HO320))) (bz_ HB)); replace HO_12 := rb_ HO_12 hb; replace HO_287004 := rb_ HO_287004 hb; replace HO_297004 := rb_ HO_297004 hb; replace HO_314004 := rb_ HO_314004 hb; replace HO323 := rb_ HO323 hb; replace HO_11 := Aside0.mk (Kd.R_elder' (hd_ HO_11) (Kd.R_base ho0) hb); replace HO_287003 := Aside0.mk (Kd.R_elder' (hd_ HO_287003) (Kd.R_base ho0) hb); replace HO_297003 := Aside0.mk (Kd.R_elder' (hd_ HO_297003) (Kd.R_base ho0) hb); replace HO_314003 := Aside0.mk (Kd.R_elder' (hd_ HO_314003) (Kd.R_base ho0) hb); replace HO320 := Aside0.mk (Kd.R_elder' (hd_ HO320) (Kd.R_base ho0) hb); replace BK257 := Aside0.mk (bb_ BK257 hb); replace BK286 := Aside0.mk (bb_ BK286 hb); replace BK296 := Aside0.mk (bb_ BK296 hb); replace BK313 := Aside0.mk (bb_ BK313 hb); replace HB := Aside0.mk (bt_ HB hb); (try clear hb); (try clear hb2); (try clear hk); (try clear hi); (try clear ho0); obtain ⟨Ao104, co104, eo104⟩ := Kd.R_slice HO327.out; subst eo104) | ((with_reducible refine gate_callee (f := 33) rfl ?_); refine gl_ (some 75) Try.func33 #[.slice Ao56 t297.length co56, .slice Ao104 t325.length co104] ?_; (with_reducible refine (laws_eqLinkS.calls kj26 _ _ t297 _ _ t325 true _ ?side1 ?side2 ?side3 ?side4 A89.out).mono ?_); (case side1 => exact rc_ HO_11); (case side2 => exact (Kd.R_reads' HO_11.out).2.1); (case side3 => exact rc_ HO327); (case side4 => exact (Kd.R_reads' HO327.out).2.1); rintro e w105 ⟨rfl, hb⟩; refine ⟨_, rfl, ?_⟩; replace HO_11 := rb_ HO_11 hb; replace HO_12 := rb_ HO_12 hb; replace HO_287003 := rb_ HO_287003 hb; replace HO_287004 := rb_ HO_287004 hb; replace HO_297003 := rb_ HO_297003 hb; replace HO_297004 := rb_ HO_297004 hb; replace HO_314003 := rb_ HO_314003 hb; replace HO_314004 := rb_ HO_314004 hb; replace HO320 := rb_ HO320 hb; replace HO323 := rb_ HO323 hb; replace HO327 := rb_ HO327 hb; replace BK257 := Aside0.mk (bb_ BK257 hb); replace BK286 := Aside0.mk (bb_ BK286 hb); replace BK296 := Aside0.mk (bb_ BK296 hb); replace BK313 := Aside0.mk (bb_ BK313 hb); replace HB := Aside0.mk (bt_ HB hb); (try clear hb); (try clear hb2); (try clear hk); (try clear hi)) | ((with_reducible refine gate_callee (f := 31) rfl ?_); refine gl_ (some 79) Try.func31 #[.slice A2 l2.length c2] ?_; (with_reducible refine (laws_toStubS.calls kj26 _ _ l2 t329 _ ?side1 ?side2 A91.out).mono ?_); (case side1 => exact cb_ HR2 HB); (case side2 => exact HC2.out); rintro e w106 ⟨v330, rfl, ho0, hb⟩; refine ⟨_, rfl, ?_⟩; have HO331 := Aside0.mk (Kd.R_lower (Kd.R_new' (Kd.R_new' (Kd.R_new' (Kd.R_new' (Kd.R_new' ho0 (Kd.R_lt (hd_ HO_12))) (Kd.R_lt (hd_ HO_287004))) (Kd.R_lt (hd_ HO_297004))) (Kd.R_lt (hd_ HO_314004))) (Kd.R_lt (hd_ HO323))) (bz_ HB)); replace HO_11 := rb_ HO_11 hb; replace HO_287003 := rb_ HO_287003 hb; replace HO_297003 := rb_ HO_297003 hb; replace HO_314003 := rb_ HO_314003 hb; replace HO320 := rb_ HO320 hb; replace HO327 := rb_ HO327 hb; replace HO_12 := Aside0.mk (Kd.R_elder' (hd_ HO_12) (Kd.R_base ho0) hb); replace HO_287004 := Aside0.mk (Kd.R_elder' (hd_ HO_287004) (Kd.R_base ho0) hb); replace HO_297004 := Aside0.mk (Kd.R_elder' (hd_ HO_297004) (Kd.R_base ho0) hb); replace HO_314004 := Aside0.mk (Kd.R_elder' (hd_ HO_314004) (Kd.R_base ho0) hb); replace HO323 := Aside0.mk (Kd.R_elder' (hd_ HO323) (Kd.R_base ho0) hb); replace BK257 := Aside0.mk (bb_ BK257 hb); replace BK286 := Aside0.mk (bb_ BK286 hb); replace BK296 := Aside0.mk (bb_ BK296 hb); replace BK313 := Aside0.mk (bb_ BK313 hb); replace HB := Aside0.mk (bt_ HB hb); (try clear hb); (try clear hb2); (try clear hk); (try clear hi); (try clear ho0); obtain ⟨Ao107, co107, eo107⟩ := Kd.R_slice HO331.out; subst eo107) | ((with_reducible refine gate_callee (f := 34) rfl ?_); refine gl_ (some 80) Try.func34 #[.slice Ao57 t300.length co57, .slice Ao107 t329.length co107] ?_; (with_reducible refine (laws_eqStubS.calls kj26 _ _ t300 _ _ t329 true _ ?side1 ?side2 ?side3 ?side4 A92.out).mono ?_); (case side1 => exact rc_ HO_12); (case side2 => exact (Kd.R_reads' HO_12.out).2.1); (case side3 => exact rc_ HO331); (case side4 => exact (Kd.R_reads' HO331.out).2.1); rintro e w108 ⟨rfl, hb⟩; refine ⟨_, rfl, ?_⟩; replace HO_11 := rb_ HO_11 hb; replace HO_12 := rb_ HO_12 hb; replace HO_287003 := rb_ HO_287003 hb; replace HO_287004 := rb_ HO_287004 hb; replace HO_297003 := rb_ HO_297003 hb; replace HO_297004 := rb_ HO_297004 hb; replace HO_314003 := rb_ HO_314003 hb; replace HO_314004 := rb_ HO_314004 hb; replace HO320 := rb_ HO320 hb; replace HO323 := rb_ HO323 hb; replace HO327 := rb_ HO327 hb; replace HO331 := rb_ HO331 hb; replace BK257 := Aside0.mk (bb_ BK257 hb); replace BK286 := Aside0.mk (bb_ BK286 hb); replace BK296 := Aside0.mk (bb_ BK296 hb); replace BK313 := Aside0.mk (bb_ BK313 hb); replace HB := Aside0.mk (bt_ HB hb); (try clear hb); (try clear hb2); (try clear hk); (try clear hi); have hnb109 := NB296_257.out; have hnc109 := NB257_296.out; have hnb110 := NB296_286.out; have hnc110 := NB286_296.out; have hnb111 := NB296_313.out; have hnc111 := NB313_296.out; have hcz112_0 := cz_ BK296 0 (.int .i64 t287); have hcz112_1 := cz_ BK296 1 (.int .i64 t288); have hcz112_2 := cz_ BK296 2 (.int .i64 t289); have hcz112_3 := cz_ BK296 3 (.slice Ao51 t290.length co51); have hcz112_4 := cz_ BK296 4 (.slice Ao52 t293.length co52); have hfz112_0 := blk_frozen BK296.out 0; have hfz112_1 := blk_frozen BK296.out 1; have hfz112_2 := blk_frozen BK296.out 2; have hfz112_3 := blk_frozen BK296.out 3; have hfz112_4 := blk_frozen BK296.out 4) | ((with_reducible refine gate_callee (f := 35) rfl ?_); refine gl_ (some 84) Try.func35 #[.agg #[.int .i64 t287, .int .i64 t288, .int .i64 t289, .slice Ao51 t290.length co51, .slice Ao52 t293.length co52], .int .i64 1] ?_; (with_reducible refine (laws_markLsa.calls kj26 t287 t288 t289 (fun k_ => some k_ = (.slice Ao51 t290.length co51 : Value).ownBlock) (.slice Ao51 t290.length co51) t290 (fun k_ => some k_ = (.slice Ao52 t293.length co52 : Value).ownBlock) (.slice Ao52 t293.length co52) t293 1 t333 t334 t335 w _ ?side1 ?side2 ?side3 A94.out).mono ?_); (case side1 => exact by_ HB); (case side2 => exact Kd.R_tight rfl HO_297003.out); (case side3 => exact Kd.R_tight rfl HO_297004.out); rintro e w113 ⟨rfl, hy0, hy1, hb, hkp⟩; refine ⟨_, rfl, ?_⟩; replace HO_11 := kp_ (fun k_ => some k_ ≠ (.slice Ao43 t279.length co43 : Value).ownBlock ∧ some k_ ≠ (.slice Ao51 t290.length co51 : Value).ownBlock ∧ some k_ ≠ (.slice Ao64 t306.length co64 : Value).ownBlock ∧ some k_ ≠ (.slice Ao100 t318.length co100 : Value).ownBlock ∧ some k_ ≠ (.slice Ao104 t325.length co104 : Value).ownBlock) ((Kd.R_apart' HO_11.out (Kd.R_typed HO_297004.out) (by decide))) hkp; replace HO_12 := kp_ (fun k_ => some k_ ≠ (.slice Ao44 t282.length co44 : Value).ownBlock ∧ some k_ ≠ (.slice Ao52 t293.length co52 : Value).ownBlock ∧ some k_ ≠ (.slice Ao65 t309.length co65 : Value).ownBlock ∧ some k_ ≠ (.slice Ao101 t321.length co101 : Value).ownBlock ∧ some k_ ≠ (.slice Ao107 t329.length co107 : Value).ownBlock) ((Kd.R_apart' HO_12.out (Kd.R_typed HO_297003.out) (by decide))) hkp; replace HO_287003 := kp_ (fun k_ => some k_ ≠ (.slice Ao56 t297.length co56 : Value).ownBlock ∧ some k_ ≠ (.slice Ao51 t290.length co51 : Value).ownBlock ∧ some k_ ≠ (.slice Ao64 t306.length co64 : Value).ownBlock ∧ some k_ ≠ (.slice Ao100 t318.length co100 : Value).ownBlock ∧ some k_ ≠ (.slice Ao104 t325.length co104 : Value).ownBlock) ((Kd.R_apart' HO_287003.out (Kd.R_typed HO_297004.out) (by decide))) hkp; replace HO_287004 := kp_ (fun k_ => some k_ ≠ (.slice Ao57 t300.length co57 : Value).ownBlock ∧ some k_ ≠ (.slice Ao52 t293.length co52 : Value).ownBlock ∧ some k_ ≠ (.slice Ao65 t309.length co65 : Value).ownBlock ∧ some k_ ≠ (.slice Ao101 t321.length co101 : Value).ownBlock ∧ some k_ ≠ (.slice Ao107 t329.length co107 : Value).ownBlock) ((Kd.R_apart' HO_287004.out (Kd.R_typed HO_297003.out) (by decide))) hkp; replace HO_314003 := kp_ (fun k_ => some k_ ≠ (.slice Ao56 t297.length co56 : Value).ownBlock ∧ some k_ ≠ (.slice Ao43 t279.length co43 : Value).ownBlock ∧ some k_ ≠ (.slice Ao51 t290.length co51 : Value).ownBlock ∧ some k_ ≠ (.slice Ao100 t318.length co100 : Value).ownBlock ∧ some k_ ≠ (.slice Ao104 t325.length co104 : Value).ownBlock) ((Kd.R_apart' HO_314003.out (Kd.R_typed HO_297004.out) (by decide))) hkp; replace HO_314004 := kp_ (fun k_ => some k_ ≠ (.slice Ao57 t300.length co57 : Value).ownBlock ∧ some k_ ≠ (.slice Ao44 t282.length co44 : Value).ownBlock ∧ some k_ ≠ (.slice Ao52 t293.length co52 : Value).ownBlock ∧ some k_ ≠ (.slice Ao101 t321.length co101 : Value).ownBlock ∧ some k_ ≠ (.slice Ao107 t329.length co107 : Value).ownBlock) ((Kd.R_apart' HO_314004.out (Kd.R_typed HO_297003.out) (by decide))) hkp; replace BK257 := bk_ BK257 hkp (fun hs_ => Or.elim hs_ (Kd.R_ne HO_297003.out BK257.out (by decide)) (Kd.R_ne HO_297004.out BK257.out (by decide))); replace BK286 := bk_ BK286 hkp (fun hs_ => Or.elim hs_ (Kd.R_ne HO_297003.out BK286.out (by decide)) (Kd.R_ne HO_297004.out BK286.out (by decide))); replace BK296 := bk_ BK296 hkp (fun hs_ => Or.elim hs_ (Kd.R_ne HO_297003.out BK296.out (by decide)) (Kd.R_ne HO_297004.out BK296.out (by decide))); replace BK313 := bk_ BK313 hkp (fun hs_ => Or.elim hs_ (Kd.R_ne HO_297003.out BK313.out (by decide)) (Kd.R_ne HO_297004.out BK313.out (by decide))); replace HO320 := kp_ (fun k_ => some k_ ≠ (.slice Ao56 t297.length co56 : Value).ownBlock ∧ some k_ ≠ (.slice Ao43 t279.length co43 : Value).ownBlock ∧ some k_ ≠ (.slice Ao51 t290.length co51 : Value).ownBlock ∧ some k_ ≠ (.slice Ao64 t306.length co64 : Value).ownBlock ∧ some k_ ≠ (.slice Ao104 t325.length co104 : Value).ownBlock) ((Kd.R_apart' HO320.out (Kd.R_typed HO_297004.out) (by decide))) hkp; replace HO323 := kp_ (fun k_ => some k_ ≠ (.slice Ao57 t300.length co57 : Value).ownBlock ∧ some k_ ≠ (.slice Ao44 t282.length co44 : Value).ownBlock ∧ some k_ ≠ (.slice Ao52 t293.length co52 : Value).ownBlock ∧ some k_ ≠ (.slice Ao65 t309.length co65 : Value).ownBlock ∧ some k_ ≠ (.slice Ao107 t329.length co107 : Value).ownBlock) ((Kd.R_apart' HO323.out (Kd.R_typed HO_297003.out) (by decide))) hkp; replace HO327 := kp_ (fun k_ => some k_ ≠ (.slice Ao56 t297.length co56 : Value).ownBlock ∧ some k_ ≠ (.slice Ao43 t279.length co43 : Value).ownBlock ∧ some k_ ≠ (.slice Ao51 t290.length co51 : Value).ownBlock ∧ some k_ ≠ (.slice Ao64 t306.length co64 : Value).ownBlock ∧ some k_ ≠ (.slice Ao100 t318.length co100 : Value).ownBlock) ((Kd.R_apart' HO327.out (Kd.R_typed HO_297004.out) (by decide))) hkp; replace HO_297004 := Aside0.mk (Kd.R_reok rfl hy1 (fun k_ e_ => HO_297004.out.1 k_ e_)); replace HO331 := kp_ (fun k_ => some k_ ≠ (.slice Ao57 t300.length co57 : Value).ownBlock ∧ some k_ ≠ (.slice Ao44 t282.length co44 : Value).ownBlock ∧ some k_ ≠ (.slice Ao52 t293.length co52 : Value).ownBlock ∧ some k_ ≠ (.slice Ao65 t309.length co65 : Value).ownBlock ∧ some k_ ≠ (.slice Ao101 t321.length co101 : Value).ownBlock) ((Kd.R_apart' HO331.out (Kd.R_typed HO_297003.out) (by decide))) hkp; replace HO_297003 := Aside0.mk (Kd.R_reok rfl hy0 (fun k_ e_ => HO_297003.out.1 k_ e_)); replace HB := Aside0.mk (hb); (try clear hb); (try clear hkp); (try clear hy0); (try clear hy1)) | ((with_reducible refine gate_callee (f := 36) rfl ?_); refine gl_ (some 87) Try.func36 #[.slice Ao56 t297.length co56, .int .i64 t333] ?_; (with_reducible refine (laws_markLinkS.calls kj26 (fun k_ => some k_ = (.slice Ao56 t297.length co56 : Value).ownBlock) (.slice Ao56 t297.length co56) t297 t333 t336 t337 w _ ?side1 ?side2 A95.out).mono ?_); (case side1 => exact by_ HB); (case side2 => exact Kd.R_tight rfl HO_11.out); rintro e w114 ⟨rfl, hy0, hb, hkp⟩; refine ⟨_, rfl, ?_⟩; replace HO_12 := kp_ (fun k_ => some k_ ≠ (.slice Ao44 t282.length co44 : Value).ownBlock ∧ some k_ ≠ (.slice Ao52 t293.length co52 : Value).ownBlock ∧ some k_ ≠ (.slice Ao65 t309.length co65 : Value).ownBlock ∧ some k_ ≠ (.slice Ao101 t321.length co101 : Value).ownBlock ∧ some k_ ≠ (.slice Ao107 t329.length co107 : Value).ownBlock) ((Kd.R_apart' HO_12.out (Kd.R_typed HO_11.out) (by decide))) hkp; replace HO_287003 := kp_ (fun k_ => some k_ ≠ (.slice Ao56 t297.length co56 : Value).ownBlock ∧ some k_ ≠ (.slice Ao51 t290.length co51 : Value).ownBlock ∧ some k_ ≠ (.slice Ao64 t306.length co64 : Value).ownBlock ∧ some k_ ≠ (.slice Ao100 t318.length co100 : Value).ownBlock ∧ some k_ ≠ (.slice Ao104 t325.length co104 : Value).ownBlock) (HO_287003.out) hkp; replace HO_287004 := kp_ (fun k_ => some k_ ≠ (.slice Ao57 t300.length co57 : Value).ownBlock ∧ some k_ ≠ (.slice Ao52 t293.length co52 : Value).ownBlock ∧ some k_ ≠ (.slice Ao65 t309.length co65 : Value).ownBlock ∧ some k_ ≠ (.slice Ao101 t321.length co101 : Value).ownBlock ∧ some k_ ≠ (.slice Ao107 t329.length co107 : Value).ownBlock) ((Kd.R_apart' HO_287004.out (Kd.R_typed HO_11.out) (by decide))) hkp; replace HO_297003 := kp_ (fun k_ => some k_ ≠ (.slice Ao56 t297.length co56 : Value).ownBlock ∧ some k_ ≠ (.slice Ao43 t279.length co43 : Value).ownBlock ∧ some k_ ≠ (.slice Ao64 t306.length co64 : Value).ownBlock ∧ some k_ ≠ (.slice Ao100 t318.length co100 : Value).ownBlock ∧ some k_ ≠ (.slice Ao104 t325.length co104 : Value).ownBlock) (HO_297003.out) hkp; replace HO_297004 := kp_ (fun k_ => some k_ ≠ (.slice Ao57 t300.length co57 : Value).ownBlock ∧ some k_ ≠ (.slice Ao44 t282.length co44 : Value).ownBlock ∧ some k_ ≠ (.slice Ao65 t309.length co65 : Value).ownBlock ∧ some k_ ≠ (.slice Ao101 t321.length co101 : Value).ownBlock ∧ some k_ ≠ (.slice Ao107 t329.length co107 : Value).ownBlock) ((Kd.R_apart' HO_297004.out (Kd.R_typed HO_11.out) (by decide))) hkp; replace HO_314003 := kp_ (fun k_ => some k_ ≠ (.slice Ao56 t297.length co56 : Value).ownBlock ∧ some k_ ≠ (.slice Ao43 t279.length co43 : Value).ownBlock ∧ some k_ ≠ (.slice Ao51 t290.length co51 : Value).ownBlock ∧ some k_ ≠ (.slice Ao100 t318.length co100 : Value).ownBlock ∧ some k_ ≠ (.slice Ao104 t325.length co104 : Value).ownBlock) (HO_314003.out) hkp; replace HO_314004 := kp_ (fun k_ => some k_ ≠ (.slice Ao57 t300.length co57 : Value).ownBlock ∧ some k_ ≠ (.slice Ao44 t282.length co44 : Value).ownBlock ∧ some k_ ≠ (.slice Ao52 t293.length co52 : Value).ownBlock ∧ some k_ ≠ (.slice Ao101 t321.length co101 : Value).ownBlock ∧ some k_ ≠ (.slice Ao107 t329.length co107 : Value).ownBlock) ((Kd.R_apart' HO_314004.out (Kd.R_typed HO_11.out) (by decide))) hkp; replace BK257 := bk_ BK257 hkp (fun hs_ => (Kd.R_ne HO_11.out BK257.out (by decide)) hs_); replace BK286 := bk_ BK286 hkp (fun hs_ => (Kd.R_ne HO_11.out BK286.out (by decide)) hs_); replace BK296 := bk_ BK296 hkp (fun hs_ => (Kd.R_ne HO_11.out BK296.out (by decide)) hs_); replace BK313 := bk_ BK313 hkp (fun hs_ => (Kd.R_ne HO_11.out BK313.out (by decide)) hs_); replace HO320 := kp_ (fun k_ => some k_ ≠ (.slice Ao56 t297.length co56 : Value).ownBlock ∧ some k_ ≠ (.slice Ao43 t279.length co43 : Value).ownBlock ∧ some k_ ≠ (.slice Ao51 t290.length co51 : Value).ownBlock ∧ some k_ ≠ (.slice Ao64 t306.length co64 : Value).ownBlock ∧ some k_ ≠ (.slice Ao104 t325.length co104 : Value).ownBlock) (HO320.out) hkp; replace HO323 := kp_ (fun k_ => some k_ ≠ (.slice Ao57 t300.length co57 : Value).ownBlock ∧ some k_ ≠ (.slice Ao44 t282.length co44 : Value).ownBlock ∧ some k_ ≠ (.slice Ao52 t293.length co52 : Value).ownBlock ∧ some k_ ≠ (.slice Ao65 t309.length co65 : Value).ownBlock ∧ some k_ ≠ (.slice Ao107 t329.length co107 : Value).ownBlock) ((Kd.R_apart' HO323.out (Kd.R_typed HO_11.out) (by decide))) hkp; replace HO327 := kp_ (fun k_ => some k_ ≠ (.slice Ao56 t297.length co56 : Value).ownBlock ∧ some k_ ≠ (.slice Ao43 t279.length co43 : Value).ownBlock ∧ some k_ ≠ (.slice Ao51 t290.length co51 : Value).ownBlock ∧ some k_ ≠ (.slice Ao64 t306.length co64 : Value).ownBlock ∧ some k_ ≠ (.slice Ao100 t318.length co100 : Value).ownBlock) (HO327.out) hkp; replace HO331 := kp_ (fun k_ => some k_ ≠ (.slice Ao57 t300.length co57 : Value).ownBlock ∧ some k_ ≠ (.slice Ao44 t282.length co44 : Value).ownBlock ∧ some k_ ≠ (.slice Ao52 t293.length co52 : Value).ownBlock ∧ some k_ ≠ (.slice Ao65 t309.length co65 : Value).ownBlock ∧ some k_ ≠ (.slice Ao101 t321.length co101 : Value).ownBlock) ((Kd.R_apart' HO331.out (Kd.R_typed HO_11.out) (by decide))) hkp; replace HO_11 := Aside0.mk (Kd.R_reok rfl hy0 (fun k_ e_ => HO_11.out.1 k_ e_)); replace HB := Aside0.mk (hb); (try clear hb); (try clear hkp); (try clear hy0)) | ((with_reducible refine gate_callee (f := 37) rfl ?_); refine gl_ (some 90) Try.func37 #[.slice Ao57 t300.length co57, .int .i64 t336] ?_; (with_reducible refine (laws_markStubS.calls kj26 (fun k_ => some k_ = (.slice Ao57 t300.length co57 : Value).ownBlock) (.slice Ao57 t300.length co57) t300 t336 t338 t339 w _ ?side1 ?side2 A96.out).mono ?_); (case side1 => exact by_ HB); (case side2 => exact Kd.R_tight rfl HO_12.out); rintro e w115 ⟨rfl, hy0, hb, hkp⟩; refine ⟨_, rfl, ?_⟩; replace HO_11 := kp_ (fun k_ => some k_ ≠ (.slice Ao43 t279.length co43 : Value).ownBlock ∧ some k_ ≠ (.slice Ao51 t290.length co51 : Value).ownBlock ∧ some k_ ≠ (.slice Ao64 t306.length co64 : Value).ownBlock ∧ some k_ ≠ (.slice Ao100 t318.length co100 : Value).ownBlock ∧ some k_ ≠ (.slice Ao104 t325.length co104 : Value).ownBlock) ((Kd.R_apart' HO_11.out (Kd.R_typed HO_12.out) (by decide))) hkp; replace HO_287003 := kp_ (fun k_ => some k_ ≠ (.slice Ao56 t297.length co56 : Value).ownBlock ∧ some k_ ≠ (.slice Ao51 t290.length co51 : Value).ownBlock ∧ some k_ ≠ (.slice Ao64 t306.length co64 : Value).ownBlock ∧ some k_ ≠ (.slice Ao100 t318.length co100 : Value).ownBlock ∧ some k_ ≠ (.slice Ao104 t325.length co104 : Value).ownBlock) ((Kd.R_apart' HO_287003.out (Kd.R_typed HO_12.out) (by decide))) hkp; replace HO_287004 := kp_ (fun k_ => some k_ ≠ (.slice Ao57 t300.length co57 : Value).ownBlock ∧ some k_ ≠ (.slice Ao52 t293.length co52 : Value).ownBlock ∧ some k_ ≠ (.slice Ao65 t309.length co65 : Value).ownBlock ∧ some k_ ≠ (.slice Ao101 t321.length co101 : Value).ownBlock ∧ some k_ ≠ (.slice Ao107 t329.length co107 : Value).ownBlock) (HO_287004.out) hkp; replace HO_297003 := kp_ (fun k_ => some k_ ≠ (.slice Ao56 t297.length co56 : Value).ownBlock ∧ some k_ ≠ (.slice Ao43 t279.length co43 : Value).ownBlock ∧ some k_ ≠ (.slice Ao64 t306.length co64 : Value).ownBlock ∧ some k_ ≠ (.slice Ao100 t318.length co100 : Value).ownBlock ∧ some k_ ≠ (.slice Ao104 t325.length co104 : Value).ownBlock) ((Kd.R_apart' HO_297003.out (Kd.R_typed HO_12.out) (by decide))) hkp; replace HO_297004 := kp_ (fun k_ => some k_ ≠ (.slice Ao57 t300.length co57 : Value).ownBlock ∧ some k_ ≠ (.slice Ao44 t282.length co44 : Value).ownBlock ∧ some k_ ≠ (.slice Ao65 t309.length co65 : Value).ownBlock ∧ some k_ ≠ (.slice Ao101 t321.length co101 : Value).ownBlock ∧ some k_ ≠ (.slice Ao107 t329.length co107 : Value).ownBlock) (HO_297004.out) hkp; replace HO_314003 := kp_ (fun k_ => some k_ ≠ (.slice Ao56 t297.length co56 : Value).ownBlock ∧ some k_ ≠ (.slice Ao43 t279.length co43 : Value).ownBlock ∧ some k_ ≠ (.slice Ao51 t290.length co51 : Value).ownBlock ∧ some k_ ≠ (.slice Ao100 t318.length co100 : Value).ownBlock ∧ some k_ ≠ (.slice Ao104 t325.length co104 : Value).ownBlock) ((Kd.R_apart' HO_314003.out (Kd.R_typed HO_12.out) (by decide))) hkp; replace HO_314004 := kp_ (fun k_ => some k_ ≠ (.slice Ao57 t300.length co57 : Value).ownBlock ∧ some k_ ≠ (.slice Ao44 t282.length co44 : Value).ownBlock ∧ some k_ ≠ (.slice Ao52 t293.length co52 : Value).ownBlock ∧ some k_ ≠ (.slice Ao101 t321.length co101 : Value).ownBlock ∧ some k_ ≠ (.slice Ao107 t329.length co107 : Value).ownBlock) (HO_314004.out) hkp; replace BK257 := bk_ BK257 hkp (fun hs_ => (Kd.R_ne HO_12.out BK257.out (by decide)) hs_); replace BK286 := bk_ BK286 hkp (fun hs_ => (Kd.R_ne HO_12.out BK286.out (by decide)) hs_); replace BK296 := bk_ BK296 hkp (fun hs_ => (Kd.R_ne HO_12.out BK296.out (by decide)) hs_); replace BK313 := bk_ BK313 hkp (fun hs_ => (Kd.R_ne HO_12.out BK313.out (by decide)) hs_); replace HO320 := kp_ (fun k_ => some k_ ≠ (.slice Ao56 t297.length co56 : Value).ownBlock ∧ some k_ ≠ (.slice Ao43 t279.length co43 : Value).ownBlock ∧ some k_ ≠ (.slice Ao51 t290.length co51 : Value).ownBlock ∧ some k_ ≠ (.slice Ao64 t306.length co64 : Value).ownBlock ∧ some k_ ≠ (.slice Ao104 t325.length co104 : Value).ownBlock) ((Kd.R_apart' HO320.out (Kd.R_typed HO_12.out) (by decide))) hkp; replace HO323 := kp_ (fun k_ => some k_ ≠ (.slice Ao57 t300.length co57 : Value).ownBlock ∧ some k_ ≠ (.slice Ao44 t282.length co44 : Value).ownBlock ∧ some k_ ≠ (.slice Ao52 t293.length co52 : Value).ownBlock ∧ some k_ ≠ (.slice Ao65 t309.length co65 : Value).ownBlock ∧ some k_ ≠ (.slice Ao107 t329.length co107 : Value).ownBlock) (HO323.out) hkp; replace HO327 := kp_ (fun k_ => some k_ ≠ (.slice Ao56 t297.length co56 : Value).ownBlock ∧ some k_ ≠ (.slice Ao43 t279.length co43 : Value).ownBlock ∧ some k_ ≠ (.slice Ao51 t290.length co51 : Value).ownBlock ∧ some k_ ≠ (.slice Ao64 t306.length co64 : Value).ownBlock ∧ some k_ ≠ (.slice Ao100 t318.length co100 : Value).ownBlock) ((Kd.R_apart' HO327.out (Kd.R_typed HO_12.out) (by decide))) hkp; replace HO_12 := Aside0.mk (Kd.R_reok rfl hy0 (fun k_ e_ => HO_12.out.1 k_ e_)); replace HO331 := kp_ (fun k_ => some k_ ≠ (.slice Ao57 t300.length co57 : Value).ownBlock ∧ some k_ ≠ (.slice Ao44 t282.length co44 : Value).ownBlock ∧ some k_ ≠ (.slice Ao52 t293.length co52 : Value).ownBlock ∧ some k_ ≠ (.slice Ao65 t309.length co65 : Value).ownBlock ∧ some k_ ≠ (.slice Ao101 t321.length co101 : Value).ownBlock) (HO331.out) hkp; replace HB := Aside0.mk (hb); (try clear hb); (try clear hkp); (try clear hy0)))
          (try simp only [Act.put, List.setIfInBounds_toArray, List.set_cons_zero, List.set_cons_succ])
          go_cut [103] (fun v103 wc => ∃ (kq : Nat) (x103_96 : Bool), v103 = .bool x103_96 ∧ Aside0 (laws_FnExactNextLsa.j1 kq l1 l2 t285 x103_96 a0_0 a0_1 a0_2 l0_3 l0_4 t276 t277 t278 t279 t282 t303 t304 t305 t306 t309 = some r) ∧ Aside0 (kq ≤ kj26) ∧ Aside0 (Kd.R k70 70 wc w.heap.size (fun k_ => some k_ ≠ ((.slice Ao51 t290.length co51) : Value).ownBlock ∧ some k_ ≠ ((.slice Ao64 t306.length co64) : Value).ownBlock) (.slice Ao43 t279.length co43) t279) ∧ Aside0 (Kd.R k74 74 wc w.heap.size (fun k_ => some k_ ≠ ((.slice Ao52 t293.length co52) : Value).ownBlock ∧ some k_ ≠ ((.slice Ao65 t309.length co65) : Value).ownBlock) (.slice Ao44 t282.length co44) t282) ∧ Aside0 (Kd.R k70 70 wc w.heap.size (fun k_ => some k_ ≠ ((.slice Ao43 t279.length co43) : Value).ownBlock ∧ some k_ ≠ ((.slice Ao64 t306.length co64) : Value).ownBlock) (.slice Ao51 t290.length co51) t334) ∧ Aside0 (Kd.R k74 74 wc w.heap.size (fun k_ => some k_ ≠ ((.slice Ao44 t282.length co44) : Value).ownBlock ∧ some k_ ≠ ((.slice Ao65 t309.length co65) : Value).ownBlock) (.slice Ao52 t293.length co52) t335) ∧ Aside0 (Kd.R k70 70 wc w.heap.size (fun k_ => some k_ ≠ ((.slice Ao43 t279.length co43) : Value).ownBlock ∧ some k_ ≠ ((.slice Ao51 t290.length co51) : Value).ownBlock) (.slice Ao64 t306.length co64) t306) ∧ Aside0 (Kd.R k74 74 wc w.heap.size (fun k_ => some k_ ≠ ((.slice Ao44 t282.length co44) : Value).ownBlock ∧ some k_ ≠ ((.slice Ao52 t293.length co52) : Value).ownBlock) (.slice Ao65 t309.length co65) t309) ∧ Aside0 (wc.heap[gb257]? = some (.cells #[.int .i64 a0_0, .int .i64 a0_1, .int .i64 a0_2, (.slice A0_3 l0_3.length c0_3), (.slice A0_4 l0_4.length c0_4)] 25 (0, 0))) ∧ Aside0 (wc.heap[gb286]? = some (.cells #[.int .i64 t276, .int .i64 t277, .int .i64 t278, (.slice Ao43 t279.length co43), (.slice Ao44 t282.length co44)] 31 (0, 0))) ∧ Aside0 (wc.heap[gb296]? = some (.cells #[.int .i64 t287, .int .i64 t288, .int .i64 t289, (.slice Ao51 t290.length co51), (.slice Ao52 t293.length co52)] 31 (0, 0))) ∧ Aside0 (wc.heap[gb313]? = some (.cells #[.int .i64 t303, .int .i64 t304, .int .i64 t305, (.slice Ao64 t306.length co64), (.slice Ao65 t309.length co65)] 31 (0, 0))) ∧ Aside0 (Below w.heap.size w wc))
          case first =>
           have H := HC97.out
           clear HC97
           by_cases c116 : t338 < 0
           ·rw [if_pos c116] at H
            have c116b0 : decide (t338 < 0) = true := decide_eq_true c116
            clear c116
            (first | rw [c116b0] | (simp only [i64_w, i32_w]; rw [c116b0]) | skip)
            have H' := Aside0.mk H
            clear H
            go_wp2
            go_meet
            case rel => exact ⟨_, (true), (by first | rfl | (simp; done) | (simp [*]; done)), H', ⟨by have := HJ26.out; first | omega | exact Nat.le_refl _⟩, ⟨by (with_reducible repeat (first | apply Kd.R_alloc | apply Kd.R_drewN | apply Kd.R_drew)); exact Kd.R_mono HO_287003.out (fun _ hk => by first | exact ⟨hk.2.1, hk.2.2.1⟩ | grind)⟩, ⟨by (with_reducible repeat (first | apply Kd.R_alloc | apply Kd.R_drewN | apply Kd.R_drew)); exact Kd.R_mono HO_287004.out (fun _ hk => by first | exact ⟨hk.2.1, hk.2.2.1⟩ | grind)⟩, ⟨by (with_reducible repeat (first | apply Kd.R_alloc | apply Kd.R_drewN | apply Kd.R_drew)); exact Kd.R_mono HO_297003.out (fun _ hk => by first | exact ⟨hk.2.1, hk.2.2.1⟩ | grind)⟩, ⟨by (with_reducible repeat (first | apply Kd.R_alloc | apply Kd.R_drewN | apply Kd.R_drew)); exact Kd.R_mono HO_297004.out (fun _ hk => by first | exact ⟨hk.2.1, hk.2.2.1⟩ | grind)⟩, ⟨by (with_reducible repeat (first | apply Kd.R_alloc | apply Kd.R_drewN | apply Kd.R_drew)); exact Kd.R_mono HO_314003.out (fun _ hk => by first | exact ⟨hk.2.1, hk.2.2.1⟩ | grind)⟩, ⟨by (with_reducible repeat (first | apply Kd.R_alloc | apply Kd.R_drewN | apply Kd.R_drew)); exact Kd.R_mono HO_314004.out (fun _ hk => by first | exact ⟨hk.2.1, hk.2.2.1⟩ | grind)⟩, ⟨by (with_reducible repeat (first | refine blk_drewN ?_ _ | refine blk_drew ?_ | refine blk_alloc ?_ _)); exact BK257.out⟩, ⟨by (with_reducible repeat (first | refine blk_drewN ?_ _ | refine blk_drew ?_ | refine blk_alloc ?_ _)); exact BK286.out⟩, ⟨by (with_reducible repeat (first | refine blk_drewN ?_ _ | refine blk_drew ?_ | refine blk_alloc ?_ _)); exact BK296.out⟩, ⟨by (with_reducible repeat (first | refine blk_drewN ?_ _ | refine blk_drew ?_ | refine blk_alloc ?_ _)); exact BK313.out⟩, ⟨by repeat (first | (with_reducible first | exact HB.out | apply below_alloc | apply pw_below_drewN | apply below_drew1 | refine below_set ?_ GE257.out | refine below_set ?_ GE286.out | refine below_set ?_ GE296.out | refine below_set ?_ GE313.out) | exact HB.out)⟩⟩
           ·rw [if_neg c116] at H
            have c116b0 : decide (t338 < 0) = false := decide_eq_false c116
            clear c116
            (first | rw [c116b0] | (simp only [i64_w, i32_w]; rw [c116b0]) | skip)
            replace H := Option.bind_eq_some_iff.mp H
            obtain ⟨t340, A1170, H⟩ := H
            have A117 := Aside0.mk A1170
            clear A1170
            by_cases c118 : t340 = true
            ·subst c118
             rw [if_pos rfl] at H
             have H' := Aside0.mk H
             clear H
             have hnb119 := NB313_257.out
             have hnc119 := NB257_313.out
             have hnb120 := NB313_286.out
             have hnc120 := NB286_313.out
             have hnb121 := NB313_296.out
             have hnc121 := NB296_313.out
             have hcz122_0 := cz_ BK313 0 (.int .i64 t303)
             have hcz122_1 := cz_ BK313 1 (.int .i64 t304)
             have hcz122_2 := cz_ BK313 2 (.int .i64 t305)
             have hcz122_3 := cz_ BK313 3 (.slice Ao64 t306.length co64)
             have hcz122_4 := cz_ BK313 4 (.slice Ao65 t309.length co65)
             have hfz122_0 := blk_frozen BK313.out 0
             have hfz122_1 := blk_frozen BK313.out 1
             have hfz122_2 := blk_frozen BK313.out 2
             have hfz122_3 := blk_frozen BK313.out 3
             have hfz122_4 := blk_frozen BK313.out 4
             have hnb123 := NB286_257.out
             have hnc123 := NB257_286.out
             have hnb124 := NB286_296.out
             have hnc124 := NB296_286.out
             have hcz125_0 := cz_ BK286 0 (.int .i64 t276)
             have hcz125_1 := cz_ BK286 1 (.int .i64 t277)
             have hcz125_2 := cz_ BK286 2 (.int .i64 t278)
             have hcz125_3 := cz_ BK286 3 (.slice Ao43 t279.length co43)
             have hcz125_4 := cz_ BK286 4 (.slice Ao44 t282.length co44)
             have hfz125_0 := blk_frozen BK286.out 0
             have hfz125_1 := blk_frozen BK286.out 1
             have hfz125_2 := blk_frozen BK286.out 2
             have hfz125_3 := blk_frozen BK286.out 3
             have hfz125_4 := blk_frozen BK286.out 4
             go_wp2_with (first | (go_at_call 17; (with_reducible refine (laws_eqLsa.calls kj26 t303 t304 t305 _ _ t306 _ _ t309 t276 t277 t278 _ _ t279 _ _ t282 true _ ?side1 ?side2 ?side3 ?side4 ?side5 ?side6 ?side7 ?side8 A117.out).mono ?_); (case side1 => exact rc_ HO_314003); (case side2 => exact (Kd.R_reads' HO_314003.out).2.1); (case side3 => exact rc_ HO_314004); (case side4 => exact (Kd.R_reads' HO_314004.out).2.1); (case side5 => exact rc_ HO_287003); (case side6 => exact (Kd.R_reads' HO_287003.out).2.1); (case side7 => exact rc_ HO_287004); (case side8 => exact (Kd.R_reads' HO_287004.out).2.1); rintro e w126 ⟨rfl, hb⟩; replace HO_11 := rb_ HO_11 hb; replace HO_12 := rb_ HO_12 hb; replace HO_287003 := rb_ HO_287003 hb; replace HO_287004 := rb_ HO_287004 hb; replace HO_297003 := rb_ HO_297003 hb; replace HO_297004 := rb_ HO_297004 hb; replace HO_314003 := rb_ HO_314003 hb; replace HO_314004 := rb_ HO_314004 hb; replace HO320 := rb_ HO320 hb; replace HO323 := rb_ HO323 hb; replace HO327 := rb_ HO327 hb; replace HO331 := rb_ HO331 hb; replace BK257 := Aside0.mk (bb_ BK257 hb); replace BK286 := Aside0.mk (bb_ BK286 hb); replace BK296 := Aside0.mk (bb_ BK296 hb); replace BK313 := Aside0.mk (bb_ BK313 hb); replace HB := Aside0.mk (bt_ HB hb); (try clear hb); (try clear hb2); (try clear hk); (try clear hi)))
             go_meet
             case rel => exact ⟨_, ((t312 != t285)), (by first | rfl | (simp; done) | (simp [*]; done)), H', ⟨by have := HJ26.out; first | omega | exact Nat.le_refl _⟩, ⟨by (with_reducible repeat (first | apply Kd.R_alloc | apply Kd.R_drewN | apply Kd.R_drew)); exact Kd.R_mono HO_287003.out (fun _ hk => by first | exact ⟨hk.2.1, hk.2.2.1⟩ | grind)⟩, ⟨by (with_reducible repeat (first | apply Kd.R_alloc | apply Kd.R_drewN | apply Kd.R_drew)); exact Kd.R_mono HO_287004.out (fun _ hk => by first | exact ⟨hk.2.1, hk.2.2.1⟩ | grind)⟩, ⟨by (with_reducible repeat (first | apply Kd.R_alloc | apply Kd.R_drewN | apply Kd.R_drew)); exact Kd.R_mono HO_297003.out (fun _ hk => by first | exact ⟨hk.2.1, hk.2.2.1⟩ | grind)⟩, ⟨by (with_reducible repeat (first | apply Kd.R_alloc | apply Kd.R_drewN | apply Kd.R_drew)); exact Kd.R_mono HO_297004.out (fun _ hk => by first | exact ⟨hk.2.1, hk.2.2.1⟩ | grind)⟩, ⟨by (with_reducible repeat (first | apply Kd.R_alloc | apply Kd.R_drewN | apply Kd.R_drew)); exact Kd.R_mono HO_314003.out (fun _ hk => by first | exact ⟨hk.2.1, hk.2.2.1⟩ | grind)⟩, ⟨by (with_reducible repeat (first | apply Kd.R_alloc | apply Kd.R_drewN | apply Kd.R_drew)); exact Kd.R_mono HO_314004.out (fun _ hk => by first | exact ⟨hk.2.1, hk.2.2.1⟩ | grind)⟩, ⟨by (with_reducible repeat (first | refine blk_drewN ?_ _ | refine blk_drew ?_ | refine blk_alloc ?_ _)); exact BK257.out⟩, ⟨by (with_reducible repeat (first | refine blk_drewN ?_ _ | refine blk_drew ?_ | refine blk_alloc ?_ _)); exact BK286.out⟩, ⟨by (with_reducible repeat (first | refine blk_drewN ?_ _ | refine blk_drew ?_ | refine blk_alloc ?_ _)); exact BK296.out⟩, ⟨by (with_reducible repeat (first | refine blk_drewN ?_ _ | refine blk_drew ?_ | refine blk_alloc ?_ _)); exact BK313.out⟩, ⟨by repeat (first | (with_reducible first | exact HB.out | apply below_alloc | apply pw_below_drewN | apply below_drew1 | refine below_set ?_ GE257.out | refine below_set ?_ GE286.out | refine below_set ?_ GE296.out | refine below_set ?_ GE313.out) | exact HB.out)⟩⟩
            ·replace c118 := Bool.eq_false_iff.mpr c118
             subst c118
             rw [if_neg (show ¬ (false = true) by decide)] at H
             have H' := Aside0.mk H
             clear H
             have hnb127 := NB313_257.out
             have hnc127 := NB257_313.out
             have hnb128 := NB313_286.out
             have hnc128 := NB286_313.out
             have hnb129 := NB313_296.out
             have hnc129 := NB296_313.out
             have hcz130_0 := cz_ BK313 0 (.int .i64 t303)
             have hcz130_1 := cz_ BK313 1 (.int .i64 t304)
             have hcz130_2 := cz_ BK313 2 (.int .i64 t305)
             have hcz130_3 := cz_ BK313 3 (.slice Ao64 t306.length co64)
             have hcz130_4 := cz_ BK313 4 (.slice Ao65 t309.length co65)
             have hfz130_0 := blk_frozen BK313.out 0
             have hfz130_1 := blk_frozen BK313.out 1
             have hfz130_2 := blk_frozen BK313.out 2
             have hfz130_3 := blk_frozen BK313.out 3
             have hfz130_4 := blk_frozen BK313.out 4
             have hnb131 := NB286_257.out
             have hnc131 := NB257_286.out
             have hnb132 := NB286_296.out
             have hnc132 := NB296_286.out
             have hcz133_0 := cz_ BK286 0 (.int .i64 t276)
             have hcz133_1 := cz_ BK286 1 (.int .i64 t277)
             have hcz133_2 := cz_ BK286 2 (.int .i64 t278)
             have hcz133_3 := cz_ BK286 3 (.slice Ao43 t279.length co43)
             have hcz133_4 := cz_ BK286 4 (.slice Ao44 t282.length co44)
             have hfz133_0 := blk_frozen BK286.out 0
             have hfz133_1 := blk_frozen BK286.out 1
             have hfz133_2 := blk_frozen BK286.out 2
             have hfz133_3 := blk_frozen BK286.out 3
             have hfz133_4 := blk_frozen BK286.out 4
             go_wp2_with (first | (go_at_call 17; (with_reducible refine (laws_eqLsa.calls kj26 t303 t304 t305 _ _ t306 _ _ t309 t276 t277 t278 _ _ t279 _ _ t282 false _ ?side1 ?side2 ?side3 ?side4 ?side5 ?side6 ?side7 ?side8 A117.out).mono ?_); (case side1 => exact rc_ HO_314003); (case side2 => exact (Kd.R_reads' HO_314003.out).2.1); (case side3 => exact rc_ HO_314004); (case side4 => exact (Kd.R_reads' HO_314004.out).2.1); (case side5 => exact rc_ HO_287003); (case side6 => exact (Kd.R_reads' HO_287003.out).2.1); (case side7 => exact rc_ HO_287004); (case side8 => exact (Kd.R_reads' HO_287004.out).2.1); rintro e w134 ⟨rfl, hb⟩; replace HO_11 := rb_ HO_11 hb; replace HO_12 := rb_ HO_12 hb; replace HO_287003 := rb_ HO_287003 hb; replace HO_287004 := rb_ HO_287004 hb; replace HO_297003 := rb_ HO_297003 hb; replace HO_297004 := rb_ HO_297004 hb; replace HO_314003 := rb_ HO_314003 hb; replace HO_314004 := rb_ HO_314004 hb; replace HO320 := rb_ HO320 hb; replace HO323 := rb_ HO323 hb; replace HO327 := rb_ HO327 hb; replace HO331 := rb_ HO331 hb; replace BK257 := Aside0.mk (bb_ BK257 hb); replace BK286 := Aside0.mk (bb_ BK286 hb); replace BK296 := Aside0.mk (bb_ BK296 hb); replace BK313 := Aside0.mk (bb_ BK313 hb); replace HB := Aside0.mk (bt_ HB hb); (try clear hb); (try clear hb2); (try clear hk); (try clear hi)))
             go_meet
             case rel => exact ⟨_, (true), (by first | rfl | (simp; done) | (simp [*]; done)), H', ⟨by have := HJ26.out; first | omega | exact Nat.le_refl _⟩, ⟨by (with_reducible repeat (first | apply Kd.R_alloc | apply Kd.R_drewN | apply Kd.R_drew)); exact Kd.R_mono HO_287003.out (fun _ hk => by first | exact ⟨hk.2.1, hk.2.2.1⟩ | grind)⟩, ⟨by (with_reducible repeat (first | apply Kd.R_alloc | apply Kd.R_drewN | apply Kd.R_drew)); exact Kd.R_mono HO_287004.out (fun _ hk => by first | exact ⟨hk.2.1, hk.2.2.1⟩ | grind)⟩, ⟨by (with_reducible repeat (first | apply Kd.R_alloc | apply Kd.R_drewN | apply Kd.R_drew)); exact Kd.R_mono HO_297003.out (fun _ hk => by first | exact ⟨hk.2.1, hk.2.2.1⟩ | grind)⟩, ⟨by (with_reducible repeat (first | apply Kd.R_alloc | apply Kd.R_drewN | apply Kd.R_drew)); exact Kd.R_mono HO_297004.out (fun _ hk => by first | exact ⟨hk.2.1, hk.2.2.1⟩ | grind)⟩, ⟨by (with_reducible repeat (first | apply Kd.R_alloc | apply Kd.R_drewN | apply Kd.R_drew)); exact Kd.R_mono HO_314003.out (fun _ hk => by first | exact ⟨hk.2.1, hk.2.2.1⟩ | grind)⟩, ⟨by (with_reducible repeat (first | apply Kd.R_alloc | apply Kd.R_drewN | apply Kd.R_drew)); exact Kd.R_mono HO_314004.out (fun _ hk => by first | exact ⟨hk.2.1, hk.2.2.1⟩ | grind)⟩, ⟨by (with_reducible repeat (first | refine blk_drewN ?_ _ | refine blk_drew ?_ | refine blk_alloc ?_ _)); exact BK257.out⟩, ⟨by (with_reducible repeat (first | refine blk_drewN ?_ _ | refine blk_drew ?_ | refine blk_alloc ?_ _)); exact BK286.out⟩, ⟨by (with_reducible repeat (first | refine blk_drewN ?_ _ | refine blk_drew ?_ | refine blk_alloc ?_ _)); exact BK296.out⟩, ⟨by (with_reducible repeat (first | refine blk_drewN ?_ _ | refine blk_drew ?_ | refine blk_alloc ?_ _)); exact BK313.out⟩, ⟨by repeat (first | (with_reducible first | exact HB.out | apply below_alloc | apply pw_below_drewN | apply below_drew1 | refine below_set ?_ GE257.out | refine below_set ?_ GE286.out | refine below_set ?_ GE296.out | refine below_set ?_ GE313.out) | exact HB.out)⟩⟩
          case rest =>
           clear HC97
           try clear c1
           try clear c2
           try clear p2
           try clear c3
           try clear c4
           try clear c5
           try clear c5b0
           try clear c6
           try clear c7
           try clear c8
           try clear c9
           try clear c10
           try clear c10b0
           try clear c11
           try clear c12
           try clear c13
           try clear c15
           try clear c15b0
           try clear c17
           try clear c27
           try clear c28
           try clear c29
           try clear c30
           try clear c31
           try clear c32
           try clear c33
           try clear c34
           try clear c35
           try clear c36
           try clear c37
           try clear c41
           try clear c48
           try clear c49
           try clear c60
           try clear c61
           try clear c62
           try clear c67
           try clear c68
           try clear c69
           try clear c70
           try clear c72
           try clear c73
           try clear c76
           try clear c77
           try clear c78
           try clear c80
           try clear c81
           try clear c84
           try clear c87
           try clear c90
           try clear c93
           try clear c109
           try clear c110
           try clear c111
           try clear c116
           try clear c116b0
           try clear c118
           try clear c119
           try clear c120
           try clear c121
           try clear c123
           try clear c124
           try clear c127
           try clear c128
           try clear c129
           try clear c131
           try clear c132
           try clear hcz112_0
           try clear hcz112_1
           try clear hcz112_2
           try clear hcz112_3
           try clear hcz112_4
           try clear hcz122_0
           try clear hcz122_1
           try clear hcz122_2
           try clear hcz122_3
           try clear hcz122_4
           try clear hcz125_0
           try clear hcz125_1
           try clear hcz125_2
           try clear hcz125_3
           try clear hcz125_4
           try clear hcz12_0
           try clear hcz12_1
           try clear hcz12_2
           try clear hcz12_3
           try clear hcz12_4
           try clear hcz130_0
           try clear hcz130_1
           try clear hcz130_2
           try clear hcz130_3
           try clear hcz130_4
           try clear hcz133_0
           try clear hcz133_1
           try clear hcz133_2
           try clear hcz133_3
           try clear hcz133_4
           try clear hcz17_0
           try clear hcz17_1
           try clear hcz17_2
           try clear hcz17_3
           try clear hcz17_4
           try clear hcz29_0
           try clear hcz29_1
           try clear hcz29_2
           try clear hcz29_3
           try clear hcz29_4
           try clear hcz31_0
           try clear hcz31_1
           try clear hcz31_2
           try clear hcz31_3
           try clear hcz31_4
           try clear hcz42_0
           try clear hcz42_1
           try clear hcz42_2
           try clear hcz42_3
           try clear hcz42_4
           try clear hcz45_0
           try clear hcz45_1
           try clear hcz45_2
           try clear hcz45_3
           try clear hcz45_4
           try clear hcz50_0
           try clear hcz50_1
           try clear hcz50_2
           try clear hcz50_3
           try clear hcz50_4
           try clear hcz55_0
           try clear hcz55_1
           try clear hcz55_2
           try clear hcz55_3
           try clear hcz55_4
           try clear hcz63_0
           try clear hcz63_1
           try clear hcz63_2
           try clear hcz63_3
           try clear hcz63_4
           try clear hcz71_0
           try clear hcz71_1
           try clear hcz71_2
           try clear hcz71_3
           try clear hcz71_4
           try clear hcz74_0
           try clear hcz74_1
           try clear hcz74_2
           try clear hcz74_3
           try clear hcz74_4
           try clear hcz79_0
           try clear hcz79_1
           try clear hcz79_2
           try clear hcz79_3
           try clear hcz79_4
           try clear hcz7_0
           try clear hcz7_1
           try clear hcz7_2
           try clear hcz7_3
           try clear hcz7_4
           try clear hcz82_0
           try clear hcz82_1
           try clear hcz82_2
           try clear hcz82_3
           try clear hcz82_4
           try clear hfz112_0
           try clear hfz112_1
           try clear hfz112_2
           try clear hfz112_3
           try clear hfz112_4
           try clear hfz122_0
           try clear hfz122_1
           try clear hfz122_2
           try clear hfz122_3
           try clear hfz122_4
           try clear hfz125_0
           try clear hfz125_1
           try clear hfz125_2
           try clear hfz125_3
           try clear hfz125_4
           try clear hfz12_0
           try clear hfz12_1
           try clear hfz12_2
           try clear hfz12_3
           try clear hfz12_4
           try clear hfz130_0
           try clear hfz130_1
           try clear hfz130_2
           try clear hfz130_3
           try clear hfz130_4
           try clear hfz133_0
           try clear hfz133_1
           try clear hfz133_2
           try clear hfz133_3
           try clear hfz133_4
           try clear hfz17_0
           try clear hfz17_1
           try clear hfz17_2
           try clear hfz17_3
           try clear hfz17_4
           try clear hfz29_0
           try clear hfz29_1
           try clear hfz29_2
           try clear hfz29_3
           try clear hfz29_4
           try clear hfz31_0
           try clear hfz31_1
           try clear hfz31_2
           try clear hfz31_3
           try clear hfz31_4
           try clear hfz42_0
           try clear hfz42_1
           try clear hfz42_2
           try clear hfz42_3
           try clear hfz42_4
           try clear hfz45_0
           try clear hfz45_1
           try clear hfz45_2
           try clear hfz45_3
           try clear hfz45_4
           try clear hfz50_0
           try clear hfz50_1
           try clear hfz50_2
           try clear hfz50_3
           try clear hfz50_4
           try clear hfz55_0
           try clear hfz55_1
           try clear hfz55_2
           try clear hfz55_3
           try clear hfz55_4
           try clear hfz63_0
           try clear hfz63_1
           try clear hfz63_2
           try clear hfz63_3
           try clear hfz63_4
           try clear hfz71_0
           try clear hfz71_1
           try clear hfz71_2
           try clear hfz71_3
           try clear hfz71_4
           try clear hfz74_0
           try clear hfz74_1
           try clear hfz74_2
           try clear hfz74_3
           try clear hfz74_4
           try clear hfz79_0
           try clear hfz79_1
           try clear hfz79_2
           try clear hfz79_3
           try clear hfz79_4
           try clear hfz7_0
           try clear hfz7_1
           try clear hfz7_2
           try clear hfz7_3
           try clear hfz7_4
           try clear hfz82_0
           try clear hfz82_1
           try clear hfz82_2
           try clear hfz82_3
           try clear hfz82_4
           try clear p2
           obtain ⟨kq, x103_96, rfl, HA, HJ96, HO_287003, HO_287004, HO_297003, HO_297004, HO_314003, HO_314004, BK257, BK286, BK296, BK313, HB⟩ := hcut
           have hl297003_96 := (Kd.R_reads' HO_297003.out).1
           rw [hl297003_96] at HO_297003
           (try simp only [hl297003_96])
           (try simp only [hl297003_96] at BK257)
           (try simp only [hl297003_96] at BK286)
           (try simp only [hl297003_96] at BK296)
           (try simp only [hl297003_96] at BK313)
           (try simp only [hl297003_96] at HO_287003)
           (try simp only [hl297003_96] at HO_287004)
           (try simp only [hl297003_96] at HO_297004)
           (try simp only [hl297003_96] at HO_314003)
           (try simp only [hl297003_96] at HO_314004)
           have hl297004_96 := (Kd.R_reads' HO_297004.out).1
           rw [hl297004_96] at HO_297004
           (try simp only [hl297004_96])
           (try simp only [hl297004_96] at BK257)
           (try simp only [hl297004_96] at BK286)
           (try simp only [hl297004_96] at BK296)
           (try simp only [hl297004_96] at BK313)
           (try simp only [hl297004_96] at HO_287003)
           (try simp only [hl297004_96] at HO_287004)
           (try simp only [hl297004_96] at HO_297003)
           (try simp only [hl297004_96] at HO_314003)
           (try simp only [hl297004_96] at HO_314004)
           cases kq with
           | zero => exact absurd HA.out (by simp [laws_FnExactNextLsa.j1])
           | succ kj96 =>
            have H := HA.out
            clear HA
            simp only [laws_FnExactNextLsa.j1] at H
            by_cases c135 : x103_96 = true
            ·subst c135
             rw [if_pos rfl] at H
             obtain rfl := Option.some.inj H
             go_wp2
             go_ret
             exact ⟨by first | rfl | (simp [errW_none, errW_some] <;> rfl) | (simp [*, errW_none, errW_some] <;> rfl), by repeat (first | (with_reducible first | exact HB.out | apply below_alloc | apply pw_below_drewN | apply below_drew1 | refine below_set ?_ GE257.out | refine below_set ?_ GE286.out | refine below_set ?_ GE296.out | refine below_set ?_ GE313.out) | exact HB.out)⟩
            ·replace c135 := Bool.eq_false_iff.mpr c135
             subst c135
             rw [if_neg (show ¬ (false = true) by decide)] at H
             replace H := Option.bind_eq_some_iff.mp H
             obtain ⟨⟨t341, t342, t343⟩, A1360, H⟩ := H
             have A136 := Aside0.mk A1360
             clear A1360
             replace H := Option.bind_eq_some_iff.mp H
             obtain ⟨t344, A1370, H⟩ := H
             have A137 := Aside0.mk A1370
             clear A1370
             by_cases c138 : t344 < 0
             ·rw [if_pos c138] at H
              have c138b0 : decide (t344 < 0) = true := decide_eq_true c138
              clear c138
              obtain rfl := Option.some.inj H
              have hnb139 := NB313_257.out
              have hnc139 := NB257_313.out
              have hnb140 := NB313_286.out
              have hnc140 := NB286_313.out
              have hnb141 := NB313_296.out
              have hnc141 := NB296_313.out
              have hcz142_0 := cz_ BK313 0 (.int .i64 t303)
              have hcz142_1 := cz_ BK313 1 (.int .i64 t304)
              have hcz142_2 := cz_ BK313 2 (.int .i64 t305)
              have hcz142_3 := cz_ BK313 3 (.slice Ao64 t306.length co64)
              have hcz142_4 := cz_ BK313 4 (.slice Ao65 t309.length co65)
              have hfz142_0 := blk_frozen BK313.out 0
              have hfz142_1 := blk_frozen BK313.out 1
              have hfz142_2 := blk_frozen BK313.out 2
              have hfz142_3 := blk_frozen BK313.out 3
              have hfz142_4 := blk_frozen BK313.out 4
              go_wp2_with (first | ((with_reducible refine gate_callee (f := 35) rfl ?_); refine gl_ (some 106) Try.func35 #[.agg #[.int .i64 t303, .int .i64 t304, .int .i64 t305, .slice Ao64 t306.length co64, .slice Ao65 t309.length co65], .int .i64 1] ?_; (with_reducible refine (laws_markLsa.calls kj96 t303 t304 t305 (fun k_ => some k_ = (.slice Ao64 t306.length co64 : Value).ownBlock) (.slice Ao64 t306.length co64) t306 (fun k_ => some k_ = (.slice Ao65 t309.length co65 : Value).ownBlock) (.slice Ao65 t309.length co65) t309 1 t341 t342 t343 w _ ?side1 ?side2 ?side3 A136.out).mono ?_); (case side1 => exact by_ HB); (case side2 => exact Kd.R_tight rfl HO_314003.out); (case side3 => exact Kd.R_tight rfl HO_314004.out); rintro e w143 ⟨rfl, hy0, hy1, hb, hkp⟩; refine ⟨_, rfl, ?_⟩; replace HO_287003 := kp_ (fun k_ => some k_ ≠ (.slice Ao51 t334.length co51 : Value).ownBlock ∧ some k_ ≠ (.slice Ao64 t306.length co64 : Value).ownBlock) ((Kd.R_apart' HO_287003.out (Kd.R_typed HO_314004.out) (by decide))) hkp; replace HO_287004 := kp_ (fun k_ => some k_ ≠ (.slice Ao52 t335.length co52 : Value).ownBlock ∧ some k_ ≠ (.slice Ao65 t309.length co65 : Value).ownBlock) ((Kd.R_apart' HO_287004.out (Kd.R_typed HO_314003.out) (by decide))) hkp; replace HO_297003 := kp_ (fun k_ => some k_ ≠ (.slice Ao43 t279.length co43 : Value).ownBlock ∧ some k_ ≠ (.slice Ao64 t306.length co64 : Value).ownBlock) ((Kd.R_apart' HO_297003.out (Kd.R_typed HO_314004.out) (by decide))) hkp; replace HO_297004 := kp_ (fun k_ => some k_ ≠ (.slice Ao44 t282.length co44 : Value).ownBlock ∧ some k_ ≠ (.slice Ao65 t309.length co65 : Value).ownBlock) ((Kd.R_apart' HO_297004.out (Kd.R_typed HO_314003.out) (by decide))) hkp; replace BK257 := bk_ BK257 hkp (fun hs_ => Or.elim hs_ (Kd.R_ne HO_314003.out BK257.out (by decide)) (Kd.R_ne HO_314004.out BK257.out (by decide))); replace BK286 := bk_ BK286 hkp (fun hs_ => Or.elim hs_ (Kd.R_ne HO_314003.out BK286.out (by decide)) (Kd.R_ne HO_314004.out BK286.out (by decide))); replace BK296 := bk_ BK296 hkp (fun hs_ => Or.elim hs_ (Kd.R_ne HO_314003.out BK296.out (by decide)) (Kd.R_ne HO_314004.out BK296.out (by decide))); replace BK313 := bk_ BK313 hkp (fun hs_ => Or.elim hs_ (Kd.R_ne HO_314003.out BK313.out (by decide)) (Kd.R_ne HO_314004.out BK313.out (by decide))); replace HO_314003 := Aside0.mk (Kd.R_reok rfl hy0 (fun k_ e_ => HO_314003.out.1 k_ e_)); replace HO_314004 := Aside0.mk (Kd.R_reok rfl hy1 (fun k_ e_ => HO_314004.out.1 k_ e_)); replace HB := Aside0.mk (hb); (try clear hb); (try clear hkp); (try clear hy0); (try clear hy1); have hcz144_0 := cz_ BK313 0 (.int .i64 t303); have hcz144_1 := cz_ BK313 1 (.int .i64 t304); have hcz144_2 := cz_ BK313 2 (.int .i64 t305); have hcz144_3 := cz_ BK313 3 (.slice Ao64 t306.length co64); have hcz144_4 := cz_ BK313 4 (.slice Ao65 t309.length co65); have hfz144_0 := blk_frozen BK313.out 0; have hfz144_1 := blk_frozen BK313.out 1; have hfz144_2 := blk_frozen BK313.out 2; have hfz144_3 := blk_frozen BK313.out 3; have hfz144_4 := blk_frozen BK313.out 4) | ((with_reducible refine gate_callee (f := 38) rfl ?_); refine goesL_ (some 109) rfl rfl Try.func38 (by kernel_rfl) rfl #[.agg #[.int .i64 t303, .int .i64 t304, .int .i64 t305, .slice Ao64 t342.length co64, .slice Ao65 t343.length co65], .int .i64 1] rfl (by (try simp only [List.map_toArray, List.map_cons, List.map_nil]); first | done | (rw [show t342.length = t306.length from (Kd.R_reads' HO_314003.out).1.symm, show t343.length = t309.length from (Kd.R_reads' HO_314004.out).1.symm] <;> rfl) | rfl | (simp only [List.length_drop, List.length_take]; rfl)) ?_; (with_reducible refine (laws_heldLsa.calls kj96 t303 t304 t305 _ _ t342 _ _ t343 1 t344 _ ?side1 ?side2 ?side3 ?side4 A137.out).mono ?_); (case side1 => exact rc_ HO_314003); (case side2 => rw [show t342.length = t306.length from (Kd.R_reads' HO_314003.out).1.symm]; exact (Kd.R_reads' HO_314003.out).2.1); (case side3 => exact rc_ HO_314004); (case side4 => rw [show t343.length = t309.length from (Kd.R_reads' HO_314004.out).1.symm]; exact (Kd.R_reads' HO_314004.out).2.1); rintro e w145 ⟨rfl, hb⟩; refine ⟨_, rfl, ?_⟩; replace HO_287003 := rb_ HO_287003 hb; replace HO_287004 := rb_ HO_287004 hb; replace HO_297003 := rb_ HO_297003 hb; replace HO_297004 := rb_ HO_297004 hb; replace HO_314003 := rb_ HO_314003 hb; replace HO_314004 := rb_ HO_314004 hb; replace BK257 := Aside0.mk (bb_ BK257 hb); replace BK286 := Aside0.mk (bb_ BK286 hb); replace BK296 := Aside0.mk (bb_ BK296 hb); replace BK313 := Aside0.mk (bb_ BK313 hb); replace HB := Aside0.mk (bt_ HB hb); (try clear hb); (try clear hb2); (try clear hk); (try clear hi)))
              go_ret
              exact ⟨by first | rfl | (simp [errW_none, errW_some] <;> rfl) | (simp [*, errW_none, errW_some] <;> rfl), by repeat (first | (with_reducible first | exact HB.out | apply below_alloc | apply pw_below_drewN | apply below_drew1 | refine below_set ?_ GE257.out | refine below_set ?_ GE286.out | refine below_set ?_ GE296.out | refine below_set ?_ GE313.out) | exact HB.out)⟩
             ·rw [if_neg c138] at H
              have c138b0 : decide (t344 < 0) = false := decide_eq_false c138
              clear c138
              by_cases c146 : t344 = t341
              ·rw [if_pos c146] at H
               have c146b0 : (t344 == t341) = true := beq_iff_eq.mpr c146
               have c146b1 : (t344 != t341) = false := bne_eq_false_iff_eq.mpr c146
               clear c146
               replace H := Option.bind_eq_some_iff.mp H
               obtain ⟨⟨t345, t346, t347, t348, t351⟩, A1470, H⟩ := H
               have A147 := Aside0.mk A1470
               clear A1470
               replace H := Option.bind_eq_some_iff.mp H
               obtain ⟨t354, A1480, H⟩ := H
               have A148 := Aside0.mk A1480
               clear A1480
               replace H := Option.bind_eq_some_iff.mp H
               obtain ⟨t357, A1490, H⟩ := H
               have A149 := Aside0.mk A1490
               clear A1490
               replace H := Option.bind_eq_some_iff.mp H
               obtain ⟨⟨t360, t361, t362, t363, t366, t369⟩, A1500, H⟩ := H
               have A150 := Aside0.mk A1500
               clear A1500
               have HC151 := Aside0.mk H
               clear H
               have hnb152 := NB313_257.out
               have hnc152 := NB257_313.out
               have hnb153 := NB313_286.out
               have hnc153 := NB286_313.out
               have hnb154 := NB313_296.out
               have hnc154 := NB296_313.out
               have hcz155_0 := cz_ BK313 0 (.int .i64 t303)
               have hcz155_1 := cz_ BK313 1 (.int .i64 t304)
               have hcz155_2 := cz_ BK313 2 (.int .i64 t305)
               have hcz155_3 := cz_ BK313 3 (.slice Ao64 t306.length co64)
               have hcz155_4 := cz_ BK313 4 (.slice Ao65 t309.length co65)
               have hfz155_0 := blk_frozen BK313.out 0
               have hfz155_1 := blk_frozen BK313.out 1
               have hfz155_2 := blk_frozen BK313.out 2
               have hfz155_3 := blk_frozen BK313.out 3
               have hfz155_4 := blk_frozen BK313.out 4
               go_upto_region 39 with (first | ((with_reducible refine gate_callee (f := 35) rfl ?_); refine gl_ (some 106) Try.func35 #[.agg #[.int .i64 t303, .int .i64 t304, .int .i64 t305, .slice Ao64 t306.length co64, .slice Ao65 t309.length co65], .int .i64 1] ?_; (with_reducible refine (laws_markLsa.calls kj96 t303 t304 t305 (fun k_ => some k_ = (.slice Ao64 t306.length co64 : Value).ownBlock) (.slice Ao64 t306.length co64) t306 (fun k_ => some k_ = (.slice Ao65 t309.length co65 : Value).ownBlock) (.slice Ao65 t309.length co65) t309 1 t341 t342 t343 w _ ?side1 ?side2 ?side3 A136.out).mono ?_); (case side1 => exact by_ HB); (case side2 => exact Kd.R_tight rfl HO_314003.out); (case side3 => exact Kd.R_tight rfl HO_314004.out); rintro e w156 ⟨rfl, hy0, hy1, hb, hkp⟩; refine ⟨_, rfl, ?_⟩; replace HO_287003 := kp_ (fun k_ => some k_ ≠ (.slice Ao51 t334.length co51 : Value).ownBlock ∧ some k_ ≠ (.slice Ao64 t306.length co64 : Value).ownBlock) ((Kd.R_apart' HO_287003.out (Kd.R_typed HO_314004.out) (by decide))) hkp; replace HO_287004 := kp_ (fun k_ => some k_ ≠ (.slice Ao52 t335.length co52 : Value).ownBlock ∧ some k_ ≠ (.slice Ao65 t309.length co65 : Value).ownBlock) ((Kd.R_apart' HO_287004.out (Kd.R_typed HO_314003.out) (by decide))) hkp; replace HO_297003 := kp_ (fun k_ => some k_ ≠ (.slice Ao43 t279.length co43 : Value).ownBlock ∧ some k_ ≠ (.slice Ao64 t306.length co64 : Value).ownBlock) ((Kd.R_apart' HO_297003.out (Kd.R_typed HO_314004.out) (by decide))) hkp; replace HO_297004 := kp_ (fun k_ => some k_ ≠ (.slice Ao44 t282.length co44 : Value).ownBlock ∧ some k_ ≠ (.slice Ao65 t309.length co65 : Value).ownBlock) ((Kd.R_apart' HO_297004.out (Kd.R_typed HO_314003.out) (by decide))) hkp; replace BK257 := bk_ BK257 hkp (fun hs_ => Or.elim hs_ (Kd.R_ne HO_314003.out BK257.out (by decide)) (Kd.R_ne HO_314004.out BK257.out (by decide))); replace BK286 := bk_ BK286 hkp (fun hs_ => Or.elim hs_ (Kd.R_ne HO_314003.out BK286.out (by decide)) (Kd.R_ne HO_314004.out BK286.out (by decide))); replace BK296 := bk_ BK296 hkp (fun hs_ => Or.elim hs_ (Kd.R_ne HO_314003.out BK296.out (by decide)) (Kd.R_ne HO_314004.out BK296.out (by decide))); replace BK313 := bk_ BK313 hkp (fun hs_ => Or.elim hs_ (Kd.R_ne HO_314003.out BK313.out (by decide)) (Kd.R_ne HO_314004.out BK313.out (by decide))); replace HO_314003 := Aside0.mk (Kd.R_reok rfl hy0 (fun k_ e_ => HO_314003.out.1 k_ e_)); replace HO_314004 := Aside0.mk (Kd.R_reok rfl hy1 (fun k_ e_ => HO_314004.out.1 k_ e_)); replace HB := Aside0.mk (hb); (try clear hb); (try clear hkp); (try clear hy0); (try clear hy1); have hcz157_0 := cz_ BK313 0 (.int .i64 t303); have hcz157_1 := cz_ BK313 1 (.int .i64 t304); have hcz157_2 := cz_ BK313 2 (.int .i64 t305); have hcz157_3 := cz_ BK313 3 (.slice Ao64 t306.length co64); have hcz157_4 := cz_ BK313 4 (.slice Ao65 t309.length co65); have hfz157_0 := blk_frozen BK313.out 0; have hfz157_1 := blk_frozen BK313.out 1; have hfz157_2 := blk_frozen BK313.out 2; have hfz157_3 := blk_frozen BK313.out 3; have hfz157_4 := blk_frozen BK313.out 4) | ((with_reducible refine gate_callee (f := 38) rfl ?_); refine goesL_ (some 109) rfl rfl Try.func38 (by kernel_rfl) rfl #[.agg #[.int .i64 t303, .int .i64 t304, .int .i64 t305, .slice Ao64 t342.length co64, .slice Ao65 t343.length co65], .int .i64 1] rfl (by (try simp only [List.map_toArray, List.map_cons, List.map_nil]); first | done | (rw [show t342.length = t306.length from (Kd.R_reads' HO_314003.out).1.symm, show t343.length = t309.length from (Kd.R_reads' HO_314004.out).1.symm] <;> rfl) | rfl | (simp only [List.length_drop, List.length_take]; rfl)) ?_; (with_reducible refine (laws_heldLsa.calls kj96 t303 t304 t305 _ _ t342 _ _ t343 1 t344 _ ?side1 ?side2 ?side3 ?side4 A137.out).mono ?_); (case side1 => exact rc_ HO_314003); (case side2 => rw [show t342.length = t306.length from (Kd.R_reads' HO_314003.out).1.symm]; exact (Kd.R_reads' HO_314003.out).2.1); (case side3 => exact rc_ HO_314004); (case side4 => rw [show t343.length = t309.length from (Kd.R_reads' HO_314004.out).1.symm]; exact (Kd.R_reads' HO_314004.out).2.1); rintro e w158 ⟨rfl, hb⟩; refine ⟨_, rfl, ?_⟩; replace HO_287003 := rb_ HO_287003 hb; replace HO_287004 := rb_ HO_287004 hb; replace HO_297003 := rb_ HO_297003 hb; replace HO_297004 := rb_ HO_297004 hb; replace HO_314003 := rb_ HO_314003 hb; replace HO_314004 := rb_ HO_314004 hb; replace BK257 := Aside0.mk (bb_ BK257 hb); replace BK286 := Aside0.mk (bb_ BK286 hb); replace BK296 := Aside0.mk (bb_ BK296 hb); replace BK313 := Aside0.mk (bb_ BK313 hb); replace HB := Aside0.mk (bt_ HB hb); (try clear hb); (try clear hb2); (try clear hk); (try clear hi); have hnb159 := NB257_286.out; have hnc159 := NB286_257.out; have hnb160 := NB257_296.out; have hnc160 := NB296_257.out; have hcz161_0 := cz_ BK257 0 (.int .i64 a0_0); have hcz161_1 := cz_ BK257 1 (.int .i64 a0_1); have hcz161_2 := cz_ BK257 2 (.int .i64 a0_2); have hcz161_3 := cz_ BK257 3 (.slice A0_3 l0_3.length c0_3); have hcz161_4 := cz_ BK257 4 (.slice A0_4 l0_4.length c0_4); have hfz161_0 := blk_frozen BK257.out 0; have hfz161_1 := blk_frozen BK257.out 1; have hfz161_2 := blk_frozen BK257.out 2; have hfz161_3 := blk_frozen BK257.out 3; have hfz161_4 := blk_frozen BK257.out 4) | ((with_reducible refine gate_callee (f := 15) rfl ?_); refine gl_ (some 117) Try.func15 #[.agg #[.int .i64 a0_0, .int .i64 a0_1, .int .i64 a0_2, .slice A0_3 l0_3.length c0_3, .slice A0_4 l0_4.length c0_4]] ?_; (with_reducible refine (laws_toLsa.calls kj96 a0_0 a0_1 a0_2 _ _ l0_3 _ _ l0_4 t345 t346 t347 t348 t351 _ ?side1 ?side2 ?side3 ?side4 A147.out).mono ?_); (case side1 => exact cb_ HR0_3 HB); (case side2 => exact HC0_3.out); (case side3 => exact cb_ HR0_4 HB); (case side4 => exact HC0_4.out); rintro e w162 ⟨v349, v352, rfl, ho0, ho1, hb⟩; refine ⟨_, rfl, ?_⟩; have HO350 := Aside0.mk (Kd.R_lower (Kd.R_new' (Kd.R_new' (Kd.R_new' ho0 (Kd.R_lt (hd_ HO_287003))) (Kd.R_lt (hd_ HO_297003))) (Kd.R_lt (hd_ HO_314003))) (bz_ HB)); have HO353 := Aside0.mk (Kd.R_lower (Kd.R_new' (Kd.R_new' (Kd.R_new' ho1 (Kd.R_lt (hd_ HO_287004))) (Kd.R_lt (hd_ HO_297004))) (Kd.R_lt (hd_ HO_314004))) (bz_ HB)); replace HO_287003 := Aside0.mk (Kd.R_elder' (hd_ HO_287003) (Kd.R_base ho0) hb); replace HO_297003 := Aside0.mk (Kd.R_elder' (hd_ HO_297003) (Kd.R_base ho0) hb); replace HO_314003 := Aside0.mk (Kd.R_elder' (hd_ HO_314003) (Kd.R_base ho0) hb); replace HO_287004 := Aside0.mk (Kd.R_elder' (hd_ HO_287004) (Kd.R_base ho1) hb); replace HO_297004 := Aside0.mk (Kd.R_elder' (hd_ HO_297004) (Kd.R_base ho1) hb); replace HO_314004 := Aside0.mk (Kd.R_elder' (hd_ HO_314004) (Kd.R_base ho1) hb); replace BK257 := Aside0.mk (bb_ BK257 hb); replace BK286 := Aside0.mk (bb_ BK286 hb); replace BK296 := Aside0.mk (bb_ BK296 hb); replace BK313 := Aside0.mk (bb_ BK313 hb); replace HB := Aside0.mk (bt_ HB hb); (try clear hb); (try clear hb2); (try clear hk); (try clear hi); (try clear ho0); (try clear ho1)) | ((with_reducible refine gate_callee (f := 30) rfl ?_); refine gl_ (some 119) Try.func30 #[.slice A1 l1.length c1] ?_; (with_reducible refine (laws_toLinkS.calls kj96 _ _ l1 t354 _ ?side1 ?side2 A148.out).mono ?_); (case side1 => exact cb_ HR1 HB); (case side2 => exact HC1.out); rintro e w163 ⟨v355, rfl, ho0, hb⟩; refine ⟨_, rfl, ?_⟩; have HO356 := Aside0.mk (Kd.R_lower (Kd.R_new' (Kd.R_new' (Kd.R_new' (Kd.R_new' ho0 (Kd.R_lt (hd_ HO_287003))) (Kd.R_lt (hd_ HO_297003))) (Kd.R_lt (hd_ HO_314003))) (Kd.R_lt (hd_ HO350))) (bz_ HB)); replace HO_287004 := rb_ HO_287004 hb; replace HO_297004 := rb_ HO_297004 hb; replace HO_314004 := rb_ HO_314004 hb; replace HO353 := rb_ HO353 hb; replace HO_287003 := Aside0.mk (Kd.R_elder' (hd_ HO_287003) (Kd.R_base ho0) hb); replace HO_297003 := Aside0.mk (Kd.R_elder' (hd_ HO_297003) (Kd.R_base ho0) hb); replace HO_314003 := Aside0.mk (Kd.R_elder' (hd_ HO_314003) (Kd.R_base ho0) hb); replace HO350 := Aside0.mk (Kd.R_elder' (hd_ HO350) (Kd.R_base ho0) hb); replace BK257 := Aside0.mk (bb_ BK257 hb); replace BK286 := Aside0.mk (bb_ BK286 hb); replace BK296 := Aside0.mk (bb_ BK296 hb); replace BK313 := Aside0.mk (bb_ BK313 hb); replace HB := Aside0.mk (bt_ HB hb); (try clear hb); (try clear hb2); (try clear hk); (try clear hi); (try clear ho0)) | ((with_reducible refine gate_callee (f := 31) rfl ?_); refine gl_ (some 121) Try.func31 #[.slice A2 l2.length c2] ?_; (with_reducible refine (laws_toStubS.calls kj96 _ _ l2 t357 _ ?side1 ?side2 A149.out).mono ?_); (case side1 => exact cb_ HR2 HB); (case side2 => exact HC2.out); rintro e w164 ⟨v358, rfl, ho0, hb⟩; refine ⟨_, rfl, ?_⟩; have HO359 := Aside0.mk (Kd.R_lower (Kd.R_new' (Kd.R_new' (Kd.R_new' (Kd.R_new' ho0 (Kd.R_lt (hd_ HO_287004))) (Kd.R_lt (hd_ HO_297004))) (Kd.R_lt (hd_ HO_314004))) (Kd.R_lt (hd_ HO353))) (bz_ HB)); replace HO_287003 := rb_ HO_287003 hb; replace HO_297003 := rb_ HO_297003 hb; replace HO_314003 := rb_ HO_314003 hb; replace HO350 := rb_ HO350 hb; replace HO356 := rb_ HO356 hb; replace HO_287004 := Aside0.mk (Kd.R_elder' (hd_ HO_287004) (Kd.R_base ho0) hb); replace HO_297004 := Aside0.mk (Kd.R_elder' (hd_ HO_297004) (Kd.R_base ho0) hb); replace HO_314004 := Aside0.mk (Kd.R_elder' (hd_ HO_314004) (Kd.R_base ho0) hb); replace HO353 := Aside0.mk (Kd.R_elder' (hd_ HO353) (Kd.R_base ho0) hb); replace BK257 := Aside0.mk (bb_ BK257 hb); replace BK286 := Aside0.mk (bb_ BK286 hb); replace BK296 := Aside0.mk (bb_ BK296 hb); replace BK313 := Aside0.mk (bb_ BK313 hb); replace HB := Aside0.mk (bt_ HB hb); (try clear hb); (try clear hb2); (try clear hk); (try clear hi); (try clear ho0); obtain ⟨Ao165, co165, eo165⟩ := Kd.R_slice HO350.out; subst eo165; obtain ⟨Ao166, co166, eo166⟩ := Kd.R_slice HO353.out; subst eo166; obtain ⟨Ao167, co167, eo167⟩ := Kd.R_slice HO356.out; subst eo167; obtain ⟨Ao168, co168, eo168⟩ := Kd.R_slice HO359.out; subst eo168) | ((with_reducible refine gate_callee (f := 32) rfl ?_); refine gl_ (some 122) Try.func32 #[.agg #[.int .i64 t345, .int .i64 t346, .int .i64 t347, .slice Ao165 t348.length co165, .slice Ao166 t351.length co166], .slice Ao167 t354.length co167, .slice Ao168 t357.length co168] ?_; (with_reducible refine (impl_NextLsa.calls kj96 t345 t346 t347 _ _ t348 _ _ t351 _ _ t354 _ _ t357 t360 t361 t362 t363 t366 t369 _ ?side1 ?side2 ?side3 ?side4 ?side5 ?side6 ?side7 ?side8 A150.out).mono ?_); (case side1 => exact rc_ HO350); (case side2 => exact (Kd.R_reads' HO350.out).2.1); (case side3 => exact rc_ HO353); (case side4 => exact (Kd.R_reads' HO353.out).2.1); (case side5 => exact rc_ HO356); (case side6 => exact (Kd.R_reads' HO356.out).2.1); (case side7 => exact rc_ HO359); (case side8 => exact (Kd.R_reads' HO359.out).2.1); rintro e w169 ⟨v364, v367, rfl, ho0, ho1, hb⟩; refine ⟨_, rfl, ?_⟩; have HO365 := Aside0.mk (Kd.R_lower (Kd.R_new' (Kd.R_new' (Kd.R_new' (Kd.R_new' (Kd.R_new' ho0 (Kd.R_lt (hd_ HO_287003))) (Kd.R_lt (hd_ HO_297003))) (Kd.R_lt (hd_ HO_314003))) (Kd.R_lt (hd_ HO350))) (Kd.R_lt (hd_ HO356))) (bz_ HB)); have HO368 := Aside0.mk (Kd.R_lower (Kd.R_new' (Kd.R_new' (Kd.R_new' (Kd.R_new' (Kd.R_new' ho1 (Kd.R_lt (hd_ HO_287004))) (Kd.R_lt (hd_ HO_297004))) (Kd.R_lt (hd_ HO_314004))) (Kd.R_lt (hd_ HO353))) (Kd.R_lt (hd_ HO359))) (bz_ HB)); replace HO_287003 := Aside0.mk (Kd.R_elder' (hd_ HO_287003) (Kd.R_base ho0) hb); replace HO_297003 := Aside0.mk (Kd.R_elder' (hd_ HO_297003) (Kd.R_base ho0) hb); replace HO_314003 := Aside0.mk (Kd.R_elder' (hd_ HO_314003) (Kd.R_base ho0) hb); replace HO350 := Aside0.mk (Kd.R_elder' (hd_ HO350) (Kd.R_base ho0) hb); replace HO356 := Aside0.mk (Kd.R_elder' (hd_ HO356) (Kd.R_base ho0) hb); replace HO_287004 := Aside0.mk (Kd.R_elder' (hd_ HO_287004) (Kd.R_base ho1) hb); replace HO_297004 := Aside0.mk (Kd.R_elder' (hd_ HO_297004) (Kd.R_base ho1) hb); replace HO_314004 := Aside0.mk (Kd.R_elder' (hd_ HO_314004) (Kd.R_base ho1) hb); replace HO353 := Aside0.mk (Kd.R_elder' (hd_ HO353) (Kd.R_base ho1) hb); replace HO359 := Aside0.mk (Kd.R_elder' (hd_ HO359) (Kd.R_base ho1) hb); replace BK257 := Aside0.mk (bb_ BK257 hb); replace BK286 := Aside0.mk (bb_ BK286 hb); replace BK296 := Aside0.mk (bb_ BK296 hb); replace BK313 := Aside0.mk (bb_ BK313 hb); replace HB := Aside0.mk (bt_ HB hb); (try clear hb); (try clear hb2); (try clear hk); (try clear hi); (try clear ho0); (try clear ho1)) | ((with_reducible refine gate_dst (N := 18) rfl ?_); refine box_event ?hg (N := 18) ?hd (cs := #[.int .i64 0, .int .i64 0, .int .i64 0, .slice none 0 0, .slice none 0 0]) (t := 31) ?hr ?_; (case hd => rfl); (case hg => rfl); (case hr => first | (go_simp; done) | (go_simp; rfl)); intro gb370 hg w170 hbox hb; have BK370 := Aside0.mk hbox; have GW370 := ge_ HB hg; have GE370 := ge_ HB hg; have NB257_370 := nl_ BK257 hg; have NB370_257 := ng_ BK257 hg; have NB286_370 := nl_ BK286 hg; have NB370_286 := ng_ BK286 hg; have NB296_370 := nl_ BK296 hg; have NB370_296 := ng_ BK296 hg; have NB313_370 := nl_ BK313 hg; have NB370_313 := ng_ BK313 hg; replace HO_287003 := rb_ HO_287003 hb; replace HO_287004 := rb_ HO_287004 hb; replace HO_297003 := rb_ HO_297003 hb; replace HO_297004 := rb_ HO_297004 hb; replace HO_314003 := rb_ HO_314003 hb; replace HO_314004 := rb_ HO_314004 hb; replace HO350 := rb_ HO350 hb; replace HO353 := rb_ HO353 hb; replace HO356 := rb_ HO356 hb; replace HO359 := rb_ HO359 hb; replace HO365 := rb_ HO365 hb; replace HO368 := rb_ HO368 hb; replace HB := Aside0.mk (bt_ HB hb); replace BK257 := Aside0.mk (bb_ BK257 hb); replace BK286 := Aside0.mk (bb_ BK286 hb); replace BK296 := Aside0.mk (bb_ BK296 hb); replace BK313 := Aside0.mk (bb_ BK313 hb); clear hb hbox hg; have hnb171 := NB370_257.out; have hnc171 := NB257_370.out; have hnb172 := NB370_286.out; have hnc172 := NB286_370.out; have hnb173 := NB370_296.out; have hnc173 := NB296_370.out; have hnb174 := NB370_313.out; have hnc174 := NB313_370.out; have hcz175_0 := cz_ BK370 0 (.int .i64 0); have hcz175_1 := cz_ BK370 1 (.int .i64 0); have hcz175_2 := cz_ BK370 2 (.int .i64 0); have hcz175_3 := cz_ BK370 3 (.slice none 0 0); have hcz175_4 := cz_ BK370 4 (.slice none 0 0); have hfz175_0 := blk_frozen BK370.out 0; have hfz175_1 := blk_frozen BK370.out 1; have hfz175_2 := blk_frozen BK370.out 2; have hfz175_3 := blk_frozen BK370.out 3; have hfz175_4 := blk_frozen BK370.out 4; obtain ⟨Ao176, co176, eo176⟩ := Kd.R_slice HO365.out; subst eo176; obtain ⟨Ao177, co177, eo177⟩ := Kd.R_slice HO368.out; subst eo177))
               (try simp only [Act.put, List.setIfInBounds_toArray, List.set_cons_zero, List.set_cons_succ])
               go_cut [133] (fun v133 wc => ∃ (kq : Nat) (x133_150 : Bool), v133 = .bool x133_150 ∧ Aside0 (laws_FnExactNextLsa.j2 kq t341 x133_150 t303 t304 t305 t342 t343 = some r) ∧ Aside0 (kq ≤ kj96) ∧ Aside0 (Kd.R k70 70 wc w.heap.size (fun k_ => some k_ ≠ ((.slice Ao51 t334.length co51) : Value).ownBlock ∧ some k_ ≠ ((.slice Ao64 t306.length co64) : Value).ownBlock ∧ some k_ ≠ ((.slice Ao176 t363.length co176) : Value).ownBlock) (.slice Ao43 t279.length co43) t279) ∧ Aside0 (Kd.R k74 74 wc w.heap.size (fun k_ => some k_ ≠ ((.slice Ao52 t335.length co52) : Value).ownBlock ∧ some k_ ≠ ((.slice Ao65 t309.length co65) : Value).ownBlock ∧ some k_ ≠ ((.slice Ao177 t366.length co177) : Value).ownBlock) (.slice Ao44 t282.length co44) t282) ∧ Aside0 (Kd.R k70 70 wc w.heap.size (fun k_ => some k_ ≠ ((.slice Ao43 t279.length co43) : Value).ownBlock ∧ some k_ ≠ ((.slice Ao64 t306.length co64) : Value).ownBlock ∧ some k_ ≠ ((.slice Ao176 t363.length co176) : Value).ownBlock) (.slice Ao51 t334.length co51) t334) ∧ Aside0 (Kd.R k74 74 wc w.heap.size (fun k_ => some k_ ≠ ((.slice Ao44 t282.length co44) : Value).ownBlock ∧ some k_ ≠ ((.slice Ao65 t309.length co65) : Value).ownBlock ∧ some k_ ≠ ((.slice Ao177 t366.length co177) : Value).ownBlock) (.slice Ao52 t335.length co52) t335) ∧ Aside0 (Kd.R k70 70 wc w.heap.size (fun k_ => some k_ ≠ ((.slice Ao43 t279.length co43) : Value).ownBlock ∧ some k_ ≠ ((.slice Ao51 t334.length co51) : Value).ownBlock ∧ some k_ ≠ ((.slice Ao176 t363.length co176) : Value).ownBlock) (.slice Ao64 t306.length co64) t342) ∧ Aside0 (Kd.R k74 74 wc w.heap.size (fun k_ => some k_ ≠ ((.slice Ao44 t282.length co44) : Value).ownBlock ∧ some k_ ≠ ((.slice Ao52 t335.length co52) : Value).ownBlock ∧ some k_ ≠ ((.slice Ao177 t366.length co177) : Value).ownBlock) (.slice Ao65 t309.length co65) t343) ∧ Aside0 (Kd.R k70 70 wc w.heap.size (fun k_ => some k_ ≠ ((.slice Ao43 t279.length co43) : Value).ownBlock ∧ some k_ ≠ ((.slice Ao51 t334.length co51) : Value).ownBlock ∧ some k_ ≠ ((.slice Ao64 t306.length co64) : Value).ownBlock) (.slice Ao176 t363.length co176) t363) ∧ Aside0 (Kd.R k74 74 wc w.heap.size (fun k_ => some k_ ≠ ((.slice Ao44 t282.length co44) : Value).ownBlock ∧ some k_ ≠ ((.slice Ao52 t335.length co52) : Value).ownBlock ∧ some k_ ≠ ((.slice Ao65 t309.length co65) : Value).ownBlock) (.slice Ao177 t366.length co177) t366) ∧ Aside0 (wc.heap[gb257]? = some (.cells #[.int .i64 a0_0, .int .i64 a0_1, .int .i64 a0_2, (.slice A0_3 l0_3.length c0_3), (.slice A0_4 l0_4.length c0_4)] 25 (0, 0))) ∧ Aside0 (wc.heap[gb286]? = some (.cells #[.int .i64 t276, .int .i64 t277, .int .i64 t278, (.slice Ao43 t279.length co43), (.slice Ao44 t282.length co44)] 31 (0, 0))) ∧ Aside0 (wc.heap[gb296]? = some (.cells #[.int .i64 t287, .int .i64 t288, .int .i64 t289, (.slice Ao51 t334.length co51), (.slice Ao52 t335.length co52)] 31 (0, 0))) ∧ Aside0 (wc.heap[gb313]? = some (.cells #[.int .i64 t303, .int .i64 t304, .int .i64 t305, (.slice Ao64 t306.length co64), (.slice Ao65 t309.length co65)] 31 (0, 0))) ∧ Aside0 (wc.heap[gb370]? = some (.cells #[.int .i64 t360, .int .i64 t361, .int .i64 t362, (.slice Ao176 t363.length co176), (.slice Ao177 t366.length co177)] 31 (0, 0))) ∧ Aside0 (Below w.heap.size w wc))
               case first =>
                have H := HC151.out
                clear HC151
                replace H := Option.bind_eq_some_iff.mp H
                obtain ⟨t371, A1780, H⟩ := H
                have A178 := Aside0.mk A1780
                clear A1780
                by_cases c179 : t371 = true
                ·subst c179
                 rw [if_pos rfl] at H
                 have H' := Aside0.mk H
                 clear H
                 have hnb180 := NB370_257.out
                 have hnc180 := NB257_370.out
                 have hnb181 := NB370_286.out
                 have hnc181 := NB286_370.out
                 have hnb182 := NB370_296.out
                 have hnc182 := NB296_370.out
                 have hnb183 := NB370_313.out
                 have hnc183 := NB313_370.out
                 have hcz184_0 := cz_ BK370 0 (.int .i64 0)
                 have hcz184_1 := cz_ BK370 1 (.int .i64 0)
                 have hcz184_2 := cz_ BK370 2 (.int .i64 0)
                 have hcz184_3 := cz_ BK370 3 (.slice none 0 0)
                 have hcz184_4 := cz_ BK370 4 (.slice none 0 0)
                 have hfz184_0 := blk_frozen BK370.out 0
                 have hfz184_1 := blk_frozen BK370.out 1
                 have hfz184_2 := blk_frozen BK370.out 2
                 have hfz184_3 := blk_frozen BK370.out 3
                 have hfz184_4 := blk_frozen BK370.out 4
                 have hnb185 := NB286_257.out
                 have hnc185 := NB257_286.out
                 have hnb186 := NB286_296.out
                 have hnc186 := NB296_286.out
                 have hnb187 := NB286_313.out
                 have hnc187 := NB313_286.out
                 have hcz188_0 := cz_ BK286 0 (.int .i64 t276)
                 have hcz188_1 := cz_ BK286 1 (.int .i64 t277)
                 have hcz188_2 := cz_ BK286 2 (.int .i64 t278)
                 have hcz188_3 := cz_ BK286 3 (.slice Ao43 t279.length co43)
                 have hcz188_4 := cz_ BK286 4 (.slice Ao44 t282.length co44)
                 have hfz188_0 := blk_frozen BK286.out 0
                 have hfz188_1 := blk_frozen BK286.out 1
                 have hfz188_2 := blk_frozen BK286.out 2
                 have hfz188_3 := blk_frozen BK286.out 3
                 have hfz188_4 := blk_frozen BK286.out 4
                 go_wp2_with (first | ((with_reducible refine gate_callee (f := 17) rfl ?_); refine gl_ (some 127) Try.func17 #[.agg #[.int .i64 t360, .int .i64 t361, .int .i64 t362, .slice Ao176 t363.length co176, .slice Ao177 t366.length co177], .agg #[.int .i64 t276, .int .i64 t277, .int .i64 t278, .slice Ao43 t279.length co43, .slice Ao44 t282.length co44]] ?_; (with_reducible refine (laws_eqLsa.calls kj96 t360 t361 t362 _ _ t363 _ _ t366 t276 t277 t278 _ _ t279 _ _ t282 true _ ?side1 ?side2 ?side3 ?side4 ?side5 ?side6 ?side7 ?side8 A178.out).mono ?_); (case side1 => refine (Kd.R_reads' (e := 70) (base := w.heap.size) (ok := fun k_ => (((((True ∧ some k_ ≠ (.slice Ao43 t279.length co43 : Value).ownBlock) ∧ some k_ ≠ (.slice Ao51 t334.length co51 : Value).ownBlock) ∧ some k_ ≠ (.slice Ao64 t306.length co64 : Value).ownBlock) ∧ some k_ ≠ (.slice Ao165 t348.length co165 : Value).ownBlock) ∧ some k_ ≠ (.slice Ao167 t354.length co167 : Value).ownBlock)) (n := t363.length) (c := co176) ?_).2.2; exact (hs_ HO365 BK370)); (case side2 => exact (Kd.R_reads' HO365.out).2.1); (case side3 => refine (Kd.R_reads' (e := 74) (base := w.heap.size) (ok := fun k_ => (((((True ∧ some k_ ≠ (.slice Ao44 t282.length co44 : Value).ownBlock) ∧ some k_ ≠ (.slice Ao52 t335.length co52 : Value).ownBlock) ∧ some k_ ≠ (.slice Ao65 t309.length co65 : Value).ownBlock) ∧ some k_ ≠ (.slice Ao166 t351.length co166 : Value).ownBlock) ∧ some k_ ≠ (.slice Ao168 t357.length co168 : Value).ownBlock)) (n := t366.length) (c := co177) ?_).2.2; exact (hs_ HO368 BK370)); (case side4 => exact (Kd.R_reads' HO368.out).2.1); (case side5 => refine (Kd.R_reads' (e := 70) (base := w.heap.size) (ok := fun k_ => ((((some k_ ≠ (.slice Ao51 t334.length co51 : Value).ownBlock ∧ some k_ ≠ (.slice Ao64 t306.length co64 : Value).ownBlock) ∧ some k_ ≠ (.slice Ao165 t348.length co165 : Value).ownBlock) ∧ some k_ ≠ (.slice Ao167 t354.length co167 : Value).ownBlock) ∧ some k_ ≠ (.slice Ao176 t363.length co176 : Value).ownBlock)) (n := t279.length) (c := co43) ?_).2.2; exact (hs_ HO_287003 BK370)); (case side6 => exact (Kd.R_reads' HO_287003.out).2.1); (case side7 => refine (Kd.R_reads' (e := 74) (base := w.heap.size) (ok := fun k_ => ((((some k_ ≠ (.slice Ao52 t335.length co52 : Value).ownBlock ∧ some k_ ≠ (.slice Ao65 t309.length co65 : Value).ownBlock) ∧ some k_ ≠ (.slice Ao166 t351.length co166 : Value).ownBlock) ∧ some k_ ≠ (.slice Ao168 t357.length co168 : Value).ownBlock) ∧ some k_ ≠ (.slice Ao177 t366.length co177 : Value).ownBlock)) (n := t282.length) (c := co44) ?_).2.2; exact (hs_ HO_287004 BK370)); (case side8 => exact (Kd.R_reads' HO_287004.out).2.1); rintro e w189 ⟨rfl, hb⟩; refine ⟨_, rfl, ?_⟩; replace HO_287003 := rs_ HO_287003 BK370 hb; replace HO_287004 := rs_ HO_287004 BK370 hb; replace HO_297003 := rs_ HO_297003 BK370 hb; replace HO_297004 := rs_ HO_297004 BK370 hb; replace HO_314003 := rs_ HO_314003 BK370 hb; replace HO_314004 := rs_ HO_314004 BK370 hb; replace HO350 := rs_ HO350 BK370 hb; replace HO353 := rs_ HO353 BK370 hb; replace HO356 := rs_ HO356 BK370 hb; replace HO359 := rs_ HO359 BK370 hb; replace HO365 := rs_ HO365 BK370 hb; replace HO368 := rs_ HO368 BK370 hb; replace BK257 := bf_ BK257 NB257_370 hb; replace BK286 := bf_ BK286 NB286_370 hb; replace BK296 := bf_ BK296 NB296_370 hb; replace BK313 := bf_ BK313 NB313_370 hb; replace BK370 := Aside0.mk (blk_below (g := gb370) (o := .cells #[.int .i64 t360, .int .i64 t361, .int .i64 t362, .slice Ao176 t363.length co176, .slice Ao177 t366.length co177] 31 (0, 0)) (by (with_reducible repeat (first | refine blk_drewN ?_ _ | refine blk_drew ?_ | refine blk_alloc ?_ _)); refine blk_put (cs := #[.int .i64 t360, .int .i64 t361, .int .i64 t362, .slice Ao176 t363.length co176, .slice none 0 0]) ?_ 4 _ rfl; (with_reducible repeat (first | refine blk_drewN ?_ _ | refine blk_drew ?_ | refine blk_alloc ?_ _)); refine blk_put (cs := #[.int .i64 t360, .int .i64 t361, .int .i64 t362, .slice none 0 0, .slice none 0 0]) ?_ 3 _ rfl; (with_reducible repeat (first | refine blk_drewN ?_ _ | refine blk_drew ?_ | refine blk_alloc ?_ _)); refine blk_put (cs := #[.int .i64 t360, .int .i64 t361, .int .i64 0, .slice none 0 0, .slice none 0 0]) ?_ 2 _ rfl; (with_reducible repeat (first | refine blk_drewN ?_ _ | refine blk_drew ?_ | refine blk_alloc ?_ _)); refine blk_put (cs := #[.int .i64 t360, .int .i64 0, .int .i64 0, .slice none 0 0, .slice none 0 0]) ?_ 1 _ rfl; (with_reducible repeat (first | refine blk_drewN ?_ _ | refine blk_drew ?_ | refine blk_alloc ?_ _)); refine blk_put (cs := #[.int .i64 0, .int .i64 0, .int .i64 0, .slice none 0 0, .slice none 0 0]) ?_ 0 _ rfl; (with_reducible repeat (first | refine blk_drewN ?_ _ | refine blk_drew ?_ | refine blk_alloc ?_ _)); exact BK370.out) hb); replace HB := Aside0.mk (bt_ HB hb); (try clear hb); (try clear hb2); (try clear hk); (try clear hi)))
                 go_meet
                 case rel => exact ⟨_, ((t369 != t285)), (by first | rfl | (simp; done) | (simp [*]; done)), H', ⟨by have := HJ26.out; have := HJ96.out; first | omega | exact Nat.le_refl _⟩, ⟨by (try simp only [hl297003_96]); (try simp only [hl297004_96]); (with_reducible repeat (first | apply Kd.R_alloc | apply Kd.R_drewN | apply Kd.R_drew)); exact Kd.R_mono HO_287003.out (fun _ hk => ⟨hk.1.1.1.1, ⟨hk.1.1.1.2, hk.2⟩⟩)⟩, ⟨by (try simp only [hl297003_96]); (try simp only [hl297004_96]); (with_reducible repeat (first | apply Kd.R_alloc | apply Kd.R_drewN | apply Kd.R_drew)); exact Kd.R_mono HO_287004.out (fun _ hk => ⟨hk.1.1.1.1, ⟨hk.1.1.1.2, hk.2⟩⟩)⟩, ⟨by (try simp only [hl297003_96]); (try simp only [hl297004_96]); (with_reducible repeat (first | apply Kd.R_alloc | apply Kd.R_drewN | apply Kd.R_drew)); exact Kd.R_mono HO_297003.out (fun _ hk => ⟨hk.1.1.1.1, ⟨hk.1.1.1.2, hk.2⟩⟩)⟩, ⟨by (try simp only [hl297003_96]); (try simp only [hl297004_96]); (with_reducible repeat (first | apply Kd.R_alloc | apply Kd.R_drewN | apply Kd.R_drew)); exact Kd.R_mono HO_297004.out (fun _ hk => ⟨hk.1.1.1.1, ⟨hk.1.1.1.2, hk.2⟩⟩)⟩, ⟨by (try simp only [hl297003_96]); (try simp only [hl297004_96]); (with_reducible repeat (first | apply Kd.R_alloc | apply Kd.R_drewN | apply Kd.R_drew)); exact Kd.R_mono HO_314003.out (fun _ hk => ⟨hk.1.1.1.1, ⟨hk.1.1.1.2, hk.2⟩⟩)⟩, ⟨by (try simp only [hl297003_96]); (try simp only [hl297004_96]); (with_reducible repeat (first | apply Kd.R_alloc | apply Kd.R_drewN | apply Kd.R_drew)); exact Kd.R_mono HO_314004.out (fun _ hk => ⟨hk.1.1.1.1, ⟨hk.1.1.1.2, hk.2⟩⟩)⟩, ⟨by (try simp only [hl297003_96]); (try simp only [hl297004_96]); (with_reducible repeat (first | apply Kd.R_alloc | apply Kd.R_drewN | apply Kd.R_drew)); exact Kd.R_mono HO365.out (fun _ hk => ⟨hk.1.1.1.1.2, ⟨hk.1.1.1.2, hk.1.1.2⟩⟩)⟩, ⟨by (try simp only [hl297003_96]); (try simp only [hl297004_96]); (with_reducible repeat (first | apply Kd.R_alloc | apply Kd.R_drewN | apply Kd.R_drew)); exact Kd.R_mono HO368.out (fun _ hk => ⟨hk.1.1.1.1.2, ⟨hk.1.1.1.2, hk.1.1.2⟩⟩)⟩, ⟨by (try simp only [hl297003_96]); (try simp only [hl297004_96]); (with_reducible repeat (first | refine blk_drewN ?_ _ | refine blk_drew ?_ | refine blk_alloc ?_ _)); exact BK257.out⟩, ⟨by (try simp only [hl297003_96]); (try simp only [hl297004_96]); (with_reducible repeat (first | refine blk_drewN ?_ _ | refine blk_drew ?_ | refine blk_alloc ?_ _)); exact BK286.out⟩, ⟨by (try simp only [hl297003_96]); (try simp only [hl297004_96]); (with_reducible repeat (first | refine blk_drewN ?_ _ | refine blk_drew ?_ | refine blk_alloc ?_ _)); exact BK296.out⟩, ⟨by (try simp only [hl297003_96]); (try simp only [hl297004_96]); (with_reducible repeat (first | refine blk_drewN ?_ _ | refine blk_drew ?_ | refine blk_alloc ?_ _)); exact BK313.out⟩, ⟨by (try simp only [hl297003_96]); (try simp only [hl297004_96]); (with_reducible repeat (first | refine blk_drewN ?_ _ | refine blk_drew ?_ | refine blk_alloc ?_ _)); exact BK370.out⟩, ⟨by repeat (first | (with_reducible first | exact HB.out | apply below_alloc | apply pw_below_drewN | apply below_drew1 | refine below_set ?_ GE257.out | refine below_set ?_ GE286.out | refine below_set ?_ GE296.out | refine below_set ?_ GE313.out | refine below_set ?_ GE370.out) | exact HB.out)⟩⟩
                ·replace c179 := Bool.eq_false_iff.mpr c179
                 subst c179
                 rw [if_neg (show ¬ (false = true) by decide)] at H
                 have H' := Aside0.mk H
                 clear H
                 have hnb190 := NB370_257.out
                 have hnc190 := NB257_370.out
                 have hnb191 := NB370_286.out
                 have hnc191 := NB286_370.out
                 have hnb192 := NB370_296.out
                 have hnc192 := NB296_370.out
                 have hnb193 := NB370_313.out
                 have hnc193 := NB313_370.out
                 have hcz194_0 := cz_ BK370 0 (.int .i64 0)
                 have hcz194_1 := cz_ BK370 1 (.int .i64 0)
                 have hcz194_2 := cz_ BK370 2 (.int .i64 0)
                 have hcz194_3 := cz_ BK370 3 (.slice none 0 0)
                 have hcz194_4 := cz_ BK370 4 (.slice none 0 0)
                 have hfz194_0 := blk_frozen BK370.out 0
                 have hfz194_1 := blk_frozen BK370.out 1
                 have hfz194_2 := blk_frozen BK370.out 2
                 have hfz194_3 := blk_frozen BK370.out 3
                 have hfz194_4 := blk_frozen BK370.out 4
                 have hnb195 := NB286_257.out
                 have hnc195 := NB257_286.out
                 have hnb196 := NB286_296.out
                 have hnc196 := NB296_286.out
                 have hnb197 := NB286_313.out
                 have hnc197 := NB313_286.out
                 have hcz198_0 := cz_ BK286 0 (.int .i64 t276)
                 have hcz198_1 := cz_ BK286 1 (.int .i64 t277)
                 have hcz198_2 := cz_ BK286 2 (.int .i64 t278)
                 have hcz198_3 := cz_ BK286 3 (.slice Ao43 t279.length co43)
                 have hcz198_4 := cz_ BK286 4 (.slice Ao44 t282.length co44)
                 have hfz198_0 := blk_frozen BK286.out 0
                 have hfz198_1 := blk_frozen BK286.out 1
                 have hfz198_2 := blk_frozen BK286.out 2
                 have hfz198_3 := blk_frozen BK286.out 3
                 have hfz198_4 := blk_frozen BK286.out 4
                 go_wp2_with (first | ((with_reducible refine gate_callee (f := 17) rfl ?_); refine gl_ (some 127) Try.func17 #[.agg #[.int .i64 t360, .int .i64 t361, .int .i64 t362, .slice Ao176 t363.length co176, .slice Ao177 t366.length co177], .agg #[.int .i64 t276, .int .i64 t277, .int .i64 t278, .slice Ao43 t279.length co43, .slice Ao44 t282.length co44]] ?_; (with_reducible refine (laws_eqLsa.calls kj96 t360 t361 t362 _ _ t363 _ _ t366 t276 t277 t278 _ _ t279 _ _ t282 false _ ?side1 ?side2 ?side3 ?side4 ?side5 ?side6 ?side7 ?side8 A178.out).mono ?_); (case side1 => refine (Kd.R_reads' (e := 70) (base := w.heap.size) (ok := fun k_ => (((((True ∧ some k_ ≠ (.slice Ao43 t279.length co43 : Value).ownBlock) ∧ some k_ ≠ (.slice Ao51 t334.length co51 : Value).ownBlock) ∧ some k_ ≠ (.slice Ao64 t306.length co64 : Value).ownBlock) ∧ some k_ ≠ (.slice Ao165 t348.length co165 : Value).ownBlock) ∧ some k_ ≠ (.slice Ao167 t354.length co167 : Value).ownBlock)) (n := t363.length) (c := co176) ?_).2.2; exact (hs_ HO365 BK370)); (case side2 => exact (Kd.R_reads' HO365.out).2.1); (case side3 => refine (Kd.R_reads' (e := 74) (base := w.heap.size) (ok := fun k_ => (((((True ∧ some k_ ≠ (.slice Ao44 t282.length co44 : Value).ownBlock) ∧ some k_ ≠ (.slice Ao52 t335.length co52 : Value).ownBlock) ∧ some k_ ≠ (.slice Ao65 t309.length co65 : Value).ownBlock) ∧ some k_ ≠ (.slice Ao166 t351.length co166 : Value).ownBlock) ∧ some k_ ≠ (.slice Ao168 t357.length co168 : Value).ownBlock)) (n := t366.length) (c := co177) ?_).2.2; exact (hs_ HO368 BK370)); (case side4 => exact (Kd.R_reads' HO368.out).2.1); (case side5 => refine (Kd.R_reads' (e := 70) (base := w.heap.size) (ok := fun k_ => ((((some k_ ≠ (.slice Ao51 t334.length co51 : Value).ownBlock ∧ some k_ ≠ (.slice Ao64 t306.length co64 : Value).ownBlock) ∧ some k_ ≠ (.slice Ao165 t348.length co165 : Value).ownBlock) ∧ some k_ ≠ (.slice Ao167 t354.length co167 : Value).ownBlock) ∧ some k_ ≠ (.slice Ao176 t363.length co176 : Value).ownBlock)) (n := t279.length) (c := co43) ?_).2.2; exact (hs_ HO_287003 BK370)); (case side6 => exact (Kd.R_reads' HO_287003.out).2.1); (case side7 => refine (Kd.R_reads' (e := 74) (base := w.heap.size) (ok := fun k_ => ((((some k_ ≠ (.slice Ao52 t335.length co52 : Value).ownBlock ∧ some k_ ≠ (.slice Ao65 t309.length co65 : Value).ownBlock) ∧ some k_ ≠ (.slice Ao166 t351.length co166 : Value).ownBlock) ∧ some k_ ≠ (.slice Ao168 t357.length co168 : Value).ownBlock) ∧ some k_ ≠ (.slice Ao177 t366.length co177 : Value).ownBlock)) (n := t282.length) (c := co44) ?_).2.2; exact (hs_ HO_287004 BK370)); (case side8 => exact (Kd.R_reads' HO_287004.out).2.1); rintro e w199 ⟨rfl, hb⟩; refine ⟨_, rfl, ?_⟩; replace HO_287003 := rs_ HO_287003 BK370 hb; replace HO_287004 := rs_ HO_287004 BK370 hb; replace HO_297003 := rs_ HO_297003 BK370 hb; replace HO_297004 := rs_ HO_297004 BK370 hb; replace HO_314003 := rs_ HO_314003 BK370 hb; replace HO_314004 := rs_ HO_314004 BK370 hb; replace HO350 := rs_ HO350 BK370 hb; replace HO353 := rs_ HO353 BK370 hb; replace HO356 := rs_ HO356 BK370 hb; replace HO359 := rs_ HO359 BK370 hb; replace HO365 := rs_ HO365 BK370 hb; replace HO368 := rs_ HO368 BK370 hb; replace BK257 := bf_ BK257 NB257_370 hb; replace BK286 := bf_ BK286 NB286_370 hb; replace BK296 := bf_ BK296 NB296_370 hb; replace BK313 := bf_ BK313 NB313_370 hb; replace BK370 := Aside0.mk (blk_below (g := gb370) (o := .cells #[.int .i64 t360, .int .i64 t361, .int .i64 t362, .slice Ao176 t363.length co176, .slice Ao177 t366.length co177] 31 (0, 0)) (by (with_reducible repeat (first | refine blk_drewN ?_ _ | refine blk_drew ?_ | refine blk_alloc ?_ _)); refine blk_put (cs := #[.int .i64 t360, .int .i64 t361, .int .i64 t362, .slice Ao176 t363.length co176, .slice none 0 0]) ?_ 4 _ rfl; (with_reducible repeat (first | refine blk_drewN ?_ _ | refine blk_drew ?_ | refine blk_alloc ?_ _)); refine blk_put (cs := #[.int .i64 t360, .int .i64 t361, .int .i64 t362, .slice none 0 0, .slice none 0 0]) ?_ 3 _ rfl; (with_reducible repeat (first | refine blk_drewN ?_ _ | refine blk_drew ?_ | refine blk_alloc ?_ _)); refine blk_put (cs := #[.int .i64 t360, .int .i64 t361, .int .i64 0, .slice none 0 0, .slice none 0 0]) ?_ 2 _ rfl; (with_reducible repeat (first | refine blk_drewN ?_ _ | refine blk_drew ?_ | refine blk_alloc ?_ _)); refine blk_put (cs := #[.int .i64 t360, .int .i64 0, .int .i64 0, .slice none 0 0, .slice none 0 0]) ?_ 1 _ rfl; (with_reducible repeat (first | refine blk_drewN ?_ _ | refine blk_drew ?_ | refine blk_alloc ?_ _)); refine blk_put (cs := #[.int .i64 0, .int .i64 0, .int .i64 0, .slice none 0 0, .slice none 0 0]) ?_ 0 _ rfl; (with_reducible repeat (first | refine blk_drewN ?_ _ | refine blk_drew ?_ | refine blk_alloc ?_ _)); exact BK370.out) hb); replace HB := Aside0.mk (bt_ HB hb); (try clear hb); (try clear hb2); (try clear hk); (try clear hi)))
                 go_meet
                 case rel => exact ⟨_, (true), (by first | rfl | (simp; done) | (simp [*]; done)), H', ⟨by have := HJ26.out; have := HJ96.out; first | omega | exact Nat.le_refl _⟩, ⟨by (try simp only [hl297003_96]); (try simp only [hl297004_96]); (with_reducible repeat (first | apply Kd.R_alloc | apply Kd.R_drewN | apply Kd.R_drew)); exact Kd.R_mono HO_287003.out (fun _ hk => ⟨hk.1.1.1.1, ⟨hk.1.1.1.2, hk.2⟩⟩)⟩, ⟨by (try simp only [hl297003_96]); (try simp only [hl297004_96]); (with_reducible repeat (first | apply Kd.R_alloc | apply Kd.R_drewN | apply Kd.R_drew)); exact Kd.R_mono HO_287004.out (fun _ hk => ⟨hk.1.1.1.1, ⟨hk.1.1.1.2, hk.2⟩⟩)⟩, ⟨by (try simp only [hl297003_96]); (try simp only [hl297004_96]); (with_reducible repeat (first | apply Kd.R_alloc | apply Kd.R_drewN | apply Kd.R_drew)); exact Kd.R_mono HO_297003.out (fun _ hk => ⟨hk.1.1.1.1, ⟨hk.1.1.1.2, hk.2⟩⟩)⟩, ⟨by (try simp only [hl297003_96]); (try simp only [hl297004_96]); (with_reducible repeat (first | apply Kd.R_alloc | apply Kd.R_drewN | apply Kd.R_drew)); exact Kd.R_mono HO_297004.out (fun _ hk => ⟨hk.1.1.1.1, ⟨hk.1.1.1.2, hk.2⟩⟩)⟩, ⟨by (try simp only [hl297003_96]); (try simp only [hl297004_96]); (with_reducible repeat (first | apply Kd.R_alloc | apply Kd.R_drewN | apply Kd.R_drew)); exact Kd.R_mono HO_314003.out (fun _ hk => ⟨hk.1.1.1.1, ⟨hk.1.1.1.2, hk.2⟩⟩)⟩, ⟨by (try simp only [hl297003_96]); (try simp only [hl297004_96]); (with_reducible repeat (first | apply Kd.R_alloc | apply Kd.R_drewN | apply Kd.R_drew)); exact Kd.R_mono HO_314004.out (fun _ hk => ⟨hk.1.1.1.1, ⟨hk.1.1.1.2, hk.2⟩⟩)⟩, ⟨by (try simp only [hl297003_96]); (try simp only [hl297004_96]); (with_reducible repeat (first | apply Kd.R_alloc | apply Kd.R_drewN | apply Kd.R_drew)); exact Kd.R_mono HO365.out (fun _ hk => ⟨hk.1.1.1.1.2, ⟨hk.1.1.1.2, hk.1.1.2⟩⟩)⟩, ⟨by (try simp only [hl297003_96]); (try simp only [hl297004_96]); (with_reducible repeat (first | apply Kd.R_alloc | apply Kd.R_drewN | apply Kd.R_drew)); exact Kd.R_mono HO368.out (fun _ hk => ⟨hk.1.1.1.1.2, ⟨hk.1.1.1.2, hk.1.1.2⟩⟩)⟩, ⟨by (try simp only [hl297003_96]); (try simp only [hl297004_96]); (with_reducible repeat (first | refine blk_drewN ?_ _ | refine blk_drew ?_ | refine blk_alloc ?_ _)); exact BK257.out⟩, ⟨by (try simp only [hl297003_96]); (try simp only [hl297004_96]); (with_reducible repeat (first | refine blk_drewN ?_ _ | refine blk_drew ?_ | refine blk_alloc ?_ _)); exact BK286.out⟩, ⟨by (try simp only [hl297003_96]); (try simp only [hl297004_96]); (with_reducible repeat (first | refine blk_drewN ?_ _ | refine blk_drew ?_ | refine blk_alloc ?_ _)); exact BK296.out⟩, ⟨by (try simp only [hl297003_96]); (try simp only [hl297004_96]); (with_reducible repeat (first | refine blk_drewN ?_ _ | refine blk_drew ?_ | refine blk_alloc ?_ _)); exact BK313.out⟩, ⟨by (try simp only [hl297003_96]); (try simp only [hl297004_96]); (with_reducible repeat (first | refine blk_drewN ?_ _ | refine blk_drew ?_ | refine blk_alloc ?_ _)); exact BK370.out⟩, ⟨by repeat (first | (with_reducible first | exact HB.out | apply below_alloc | apply pw_below_drewN | apply below_drew1 | refine below_set ?_ GE257.out | refine below_set ?_ GE286.out | refine below_set ?_ GE296.out | refine below_set ?_ GE313.out | refine below_set ?_ GE370.out) | exact HB.out)⟩⟩
               case rest =>
                clear HC151
                try clear c1
                try clear c2
                try clear p2
                try clear c3
                try clear c4
                try clear c5
                try clear c5b0
                try clear c6
                try clear c7
                try clear c8
                try clear c9
                try clear c10
                try clear c10b0
                try clear c11
                try clear c12
                try clear c13
                try clear c14
                try clear c15
                try clear c15b0
                try clear c16
                try clear c17
                try clear c18
                try clear c19
                try clear c27
                try clear c28
                try clear c29
                try clear c30
                try clear c31
                try clear c32
                try clear c33
                try clear c34
                try clear c35
                try clear c36
                try clear c37
                try clear c38
                try clear c41
                try clear c48
                try clear c49
                try clear c60
                try clear c61
                try clear c62
                try clear c67
                try clear c68
                try clear c69
                try clear c70
                try clear c72
                try clear c73
                try clear c76
                try clear c77
                try clear c78
                try clear c80
                try clear c81
                try clear c84
                try clear c87
                try clear c90
                try clear c93
                try clear c109
                try clear c110
                try clear c111
                try clear c116
                try clear c116b0
                try clear c118
                try clear c119
                try clear c120
                try clear c121
                try clear c123
                try clear c124
                try clear c127
                try clear c128
                try clear c129
                try clear c131
                try clear c132
                try clear c135
                try clear c138
                try clear c138b0
                try clear c139
                try clear c140
                try clear c141
                try clear c146
                try clear c146b0
                try clear c146b1
                try clear c152
                try clear c153
                try clear c154
                try clear c159
                try clear c160
                try clear c171
                try clear c172
                try clear c173
                try clear c174
                try clear c179
                try clear c180
                try clear c181
                try clear c182
                try clear c183
                try clear c185
                try clear c186
                try clear c187
                try clear c190
                try clear c191
                try clear c192
                try clear c193
                try clear c195
                try clear c196
                try clear c197
                try clear hcz112_0
                try clear hcz112_1
                try clear hcz112_2
                try clear hcz112_3
                try clear hcz112_4
                try clear hcz122_0
                try clear hcz122_1
                try clear hcz122_2
                try clear hcz122_3
                try clear hcz122_4
                try clear hcz125_0
                try clear hcz125_1
                try clear hcz125_2
                try clear hcz125_3
                try clear hcz125_4
                try clear hcz12_0
                try clear hcz12_1
                try clear hcz12_2
                try clear hcz12_3
                try clear hcz12_4
                try clear hcz130_0
                try clear hcz130_1
                try clear hcz130_2
                try clear hcz130_3
                try clear hcz130_4
                try clear hcz133_0
                try clear hcz133_1
                try clear hcz133_2
                try clear hcz133_3
                try clear hcz133_4
                try clear hcz142_0
                try clear hcz142_1
                try clear hcz142_2
                try clear hcz142_3
                try clear hcz142_4
                try clear hcz144_0
                try clear hcz144_1
                try clear hcz144_2
                try clear hcz144_3
                try clear hcz144_4
                try clear hcz155_0
                try clear hcz155_1
                try clear hcz155_2
                try clear hcz155_3
                try clear hcz155_4
                try clear hcz157_0
                try clear hcz157_1
                try clear hcz157_2
                try clear hcz157_3
                try clear hcz157_4
                try clear hcz161_0
                try clear hcz161_1
                try clear hcz161_2
                try clear hcz161_3
                try clear hcz161_4
                try clear hcz175_0
                try clear hcz175_1
                try clear hcz175_2
                try clear hcz175_3
                try clear hcz175_4
                try clear hcz17_0
                try clear hcz17_1
                try clear hcz17_2
                try clear hcz17_3
                try clear hcz17_4
                try clear hcz184_0
                try clear hcz184_1
                try clear hcz184_2
                try clear hcz184_3
                try clear hcz184_4
                try clear hcz188_0
                try clear hcz188_1
                try clear hcz188_2
                try clear hcz188_3
                try clear hcz188_4
                try clear hcz194_0
                try clear hcz194_1
                try clear hcz194_2
                try clear hcz194_3
                try clear hcz194_4
                try clear hcz198_0
                try clear hcz198_1
                try clear hcz198_2
                try clear hcz198_3
                try clear hcz198_4
                try clear hcz29_0
                try clear hcz29_1
                try clear hcz29_2
                try clear hcz29_3
                try clear hcz29_4
                try clear hcz31_0
                try clear hcz31_1
                try clear hcz31_2
                try clear hcz31_3
                try clear hcz31_4
                try clear hcz42_0
                try clear hcz42_1
                try clear hcz42_2
                try clear hcz42_3
                try clear hcz42_4
                try clear hcz45_0
                try clear hcz45_1
                try clear hcz45_2
                try clear hcz45_3
                try clear hcz45_4
                try clear hcz50_0
                try clear hcz50_1
                try clear hcz50_2
                try clear hcz50_3
                try clear hcz50_4
                try clear hcz55_0
                try clear hcz55_1
                try clear hcz55_2
                try clear hcz55_3
                try clear hcz55_4
                try clear hcz63_0
                try clear hcz63_1
                try clear hcz63_2
                try clear hcz63_3
                try clear hcz63_4
                try clear hcz71_0
                try clear hcz71_1
                try clear hcz71_2
                try clear hcz71_3
                try clear hcz71_4
                try clear hcz74_0
                try clear hcz74_1
                try clear hcz74_2
                try clear hcz74_3
                try clear hcz74_4
                try clear hcz79_0
                try clear hcz79_1
                try clear hcz79_2
                try clear hcz79_3
                try clear hcz79_4
                try clear hcz7_0
                try clear hcz7_1
                try clear hcz7_2
                try clear hcz7_3
                try clear hcz7_4
                try clear hcz82_0
                try clear hcz82_1
                try clear hcz82_2
                try clear hcz82_3
                try clear hcz82_4
                try clear hfz112_0
                try clear hfz112_1
                try clear hfz112_2
                try clear hfz112_3
                try clear hfz112_4
                try clear hfz122_0
                try clear hfz122_1
                try clear hfz122_2
                try clear hfz122_3
                try clear hfz122_4
                try clear hfz125_0
                try clear hfz125_1
                try clear hfz125_2
                try clear hfz125_3
                try clear hfz125_4
                try clear hfz12_0
                try clear hfz12_1
                try clear hfz12_2
                try clear hfz12_3
                try clear hfz12_4
                try clear hfz130_0
                try clear hfz130_1
                try clear hfz130_2
                try clear hfz130_3
                try clear hfz130_4
                try clear hfz133_0
                try clear hfz133_1
                try clear hfz133_2
                try clear hfz133_3
                try clear hfz133_4
                try clear hfz142_0
                try clear hfz142_1
                try clear hfz142_2
                try clear hfz142_3
                try clear hfz142_4
                try clear hfz144_0
                try clear hfz144_1
                try clear hfz144_2
                try clear hfz144_3
                try clear hfz144_4
                try clear hfz155_0
                try clear hfz155_1
                try clear hfz155_2
                try clear hfz155_3
                try clear hfz155_4
                try clear hfz157_0
                try clear hfz157_1
                try clear hfz157_2
                try clear hfz157_3
                try clear hfz157_4
                try clear hfz161_0
                try clear hfz161_1
                try clear hfz161_2
                try clear hfz161_3
                try clear hfz161_4
                try clear hfz175_0
                try clear hfz175_1
                try clear hfz175_2
                try clear hfz175_3
                try clear hfz175_4
                try clear hfz17_0
                try clear hfz17_1
                try clear hfz17_2
                try clear hfz17_3
                try clear hfz17_4
                try clear hfz184_0
                try clear hfz184_1
                try clear hfz184_2
                try clear hfz184_3
                try clear hfz184_4
                try clear hfz188_0
                try clear hfz188_1
                try clear hfz188_2
                try clear hfz188_3
                try clear hfz188_4
                try clear hfz194_0
                try clear hfz194_1
                try clear hfz194_2
                try clear hfz194_3
                try clear hfz194_4
                try clear hfz198_0
                try clear hfz198_1
                try clear hfz198_2
                try clear hfz198_3
                try clear hfz198_4
                try clear hfz29_0
                try clear hfz29_1
                try clear hfz29_2
                try clear hfz29_3
                try clear hfz29_4
                try clear hfz31_0
                try clear hfz31_1
                try clear hfz31_2
                try clear hfz31_3
                try clear hfz31_4
                try clear hfz42_0
                try clear hfz42_1
                try clear hfz42_2
                try clear hfz42_3
                try clear hfz42_4
                try clear hfz45_0
                try clear hfz45_1
                try clear hfz45_2
                try clear hfz45_3
                try clear hfz45_4
                try clear hfz50_0
                try clear hfz50_1
                try clear hfz50_2
                try clear hfz50_3
                try clear hfz50_4
                try clear hfz55_0
                try clear hfz55_1
                try clear hfz55_2
                try clear hfz55_3
                try clear hfz55_4
                try clear hfz63_0
                try clear hfz63_1
                try clear hfz63_2
                try clear hfz63_3
                try clear hfz63_4
                try clear hfz71_0
                try clear hfz71_1
                try clear hfz71_2
                try clear hfz71_3
                try clear hfz71_4
                try clear hfz74_0
                try clear hfz74_1
                try clear hfz74_2
                try clear hfz74_3
                try clear hfz74_4
                try clear hfz79_0
                try clear hfz79_1
                try clear hfz79_2
                try clear hfz79_3
                try clear hfz79_4
                try clear hfz7_0
                try clear hfz7_1
                try clear hfz7_2
                try clear hfz7_3
                try clear hfz7_4
                try clear hfz82_0
                try clear hfz82_1
                try clear hfz82_2
                try clear hfz82_3
                try clear hfz82_4
                try clear p2
                obtain ⟨kq, x133_150, rfl, HA, HJ150, HO_287003, HO_287004, HO_297003, HO_297004, HO_314003, HO_314004, HO_371003, HO_371004, BK257, BK286, BK296, BK313, BK370, HB⟩ := hcut
                have hl314003_150 := (Kd.R_reads' HO_314003.out).1
                rw [hl314003_150] at HO_314003
                (try simp only [hl314003_150])
                (try simp only [hl314003_150] at BK257)
                (try simp only [hl314003_150] at BK286)
                (try simp only [hl314003_150] at BK296)
                (try simp only [hl314003_150] at BK313)
                (try simp only [hl314003_150] at BK370)
                (try simp only [hl314003_150] at HO_287003)
                (try simp only [hl314003_150] at HO_287004)
                (try simp only [hl314003_150] at HO_297003)
                (try simp only [hl314003_150] at HO_297004)
                (try simp only [hl314003_150] at HO_314004)
                (try simp only [hl314003_150] at HO_371003)
                (try simp only [hl314003_150] at HO_371004)
                have hl314004_150 := (Kd.R_reads' HO_314004.out).1
                rw [hl314004_150] at HO_314004
                (try simp only [hl314004_150])
                (try simp only [hl314004_150] at BK257)
                (try simp only [hl314004_150] at BK286)
                (try simp only [hl314004_150] at BK296)
                (try simp only [hl314004_150] at BK313)
                (try simp only [hl314004_150] at BK370)
                (try simp only [hl314004_150] at HO_287003)
                (try simp only [hl314004_150] at HO_287004)
                (try simp only [hl314004_150] at HO_297003)
                (try simp only [hl314004_150] at HO_297004)
                (try simp only [hl314004_150] at HO_314003)
                (try simp only [hl314004_150] at HO_371003)
                (try simp only [hl314004_150] at HO_371004)
                cases kq with
                | zero => exact absurd HA.out (by simp [laws_FnExactNextLsa.j2])
                | succ kj150 =>
                 have H := HA.out
                 clear HA
                 simp only [laws_FnExactNextLsa.j2] at H
                 by_cases c200 : x133_150 = true
                 ·subst c200
                  rw [if_pos rfl] at H
                  obtain rfl := Option.some.inj H
                  go_wp2
                  go_ret
                  exact ⟨by first | rfl | (simp [errW_none, errW_some] <;> rfl) | (simp [*, errW_none, errW_some] <;> rfl), by repeat (first | (with_reducible first | exact HB.out | apply below_alloc | apply pw_below_drewN | apply below_drew1 | refine below_set ?_ GE257.out | refine below_set ?_ GE286.out | refine below_set ?_ GE296.out | refine below_set ?_ GE313.out | refine below_set ?_ GE370.out) | exact HB.out)⟩
                 ·replace c200 := Bool.eq_false_iff.mpr c200
                  subst c200
                  rw [if_neg (show ¬ (false = true) by decide)] at H
                  replace H := Option.bind_eq_some_iff.mp H
                  obtain ⟨t372, A2010, H⟩ := H
                  have A201 := Aside0.mk A2010
                  clear A2010
                  by_cases c202 : t372 < 0
                  ·rw [if_pos c202] at H
                   have c202b0 : decide (t372 < 0) = true := decide_eq_true c202
                   clear c202
                   obtain rfl := Option.some.inj H
                   have hnb203 := NB313_257.out
                   have hnc203 := NB257_313.out
                   have hnb204 := NB313_286.out
                   have hnc204 := NB286_313.out
                   have hnb205 := NB313_296.out
                   have hnc205 := NB296_313.out
                   have hnb206 := NB313_370.out
                   have hnc206 := NB370_313.out
                   have hcz207_0 := cz_ BK313 0 (.int .i64 t303)
                   have hcz207_1 := cz_ BK313 1 (.int .i64 t304)
                   have hcz207_2 := cz_ BK313 2 (.int .i64 t305)
                   have hcz207_3 := cz_ BK313 3 (.slice Ao64 t342.length co64)
                   have hcz207_4 := cz_ BK313 4 (.slice Ao65 t343.length co65)
                   have hfz207_0 := blk_frozen BK313.out 0
                   have hfz207_1 := blk_frozen BK313.out 1
                   have hfz207_2 := blk_frozen BK313.out 2
                   have hfz207_3 := blk_frozen BK313.out 3
                   have hfz207_4 := blk_frozen BK313.out 4
                   go_wp2_with (first | ((with_reducible refine gate_callee (f := 38) rfl ?_); refine gl_ (some 136) Try.func38 #[.agg #[.int .i64 t303, .int .i64 t304, .int .i64 t305, .slice Ao64 t342.length co64, .slice Ao65 t343.length co65], .int .i64 1] ?_; (with_reducible refine (laws_heldLsa.calls kj150 t303 t304 t305 _ _ t342 _ _ t343 1 t372 _ ?side1 ?side2 ?side3 ?side4 A201.out).mono ?_); (case side1 => exact rc_ HO_314003); (case side2 => exact (Kd.R_reads' HO_314003.out).2.1); (case side3 => exact rc_ HO_314004); (case side4 => exact (Kd.R_reads' HO_314004.out).2.1); rintro e w208 ⟨rfl, hb⟩; refine ⟨_, rfl, ?_⟩; replace HO_287003 := rb_ HO_287003 hb; replace HO_287004 := rb_ HO_287004 hb; replace HO_297003 := rb_ HO_297003 hb; replace HO_297004 := rb_ HO_297004 hb; replace HO_314003 := rb_ HO_314003 hb; replace HO_314004 := rb_ HO_314004 hb; replace HO_371003 := rb_ HO_371003 hb; replace HO_371004 := rb_ HO_371004 hb; replace BK257 := Aside0.mk (bb_ BK257 hb); replace BK286 := Aside0.mk (bb_ BK286 hb); replace BK296 := Aside0.mk (bb_ BK296 hb); replace BK313 := Aside0.mk (bb_ BK313 hb); replace BK370 := Aside0.mk (bb_ BK370 hb); replace HB := Aside0.mk (bt_ HB hb); (try clear hb); (try clear hb2); (try clear hk); (try clear hi)))
                   go_ret
                   exact ⟨by first | rfl | (simp [errW_none, errW_some] <;> rfl) | (simp [*, errW_none, errW_some] <;> rfl), by repeat (first | (with_reducible first | exact HB.out | apply below_alloc | apply pw_below_drewN | apply below_drew1 | refine below_set ?_ GE257.out | refine below_set ?_ GE286.out | refine below_set ?_ GE296.out | refine below_set ?_ GE313.out | refine below_set ?_ GE370.out) | exact HB.out)⟩
                  ·rw [if_neg c202] at H
                   have c202b0 : decide (t372 < 0) = false := decide_eq_false c202
                   clear c202
                   by_cases c209 : t372 = t341
                   ·rw [if_pos c209] at H
                    have c209b0 : (t372 == t341) = true := beq_iff_eq.mpr c209
                    have c209b1 : (t372 != t341) = false := bne_eq_false_iff_eq.mpr c209
                    clear c209
                    obtain rfl := Option.some.inj H
                    have hnb210 := NB313_257.out
                    have hnc210 := NB257_313.out
                    have hnb211 := NB313_286.out
                    have hnc211 := NB286_313.out
                    have hnb212 := NB313_296.out
                    have hnc212 := NB296_313.out
                    have hnb213 := NB313_370.out
                    have hnc213 := NB370_313.out
                    have hcz214_0 := cz_ BK313 0 (.int .i64 t303)
                    have hcz214_1 := cz_ BK313 1 (.int .i64 t304)
                    have hcz214_2 := cz_ BK313 2 (.int .i64 t305)
                    have hcz214_3 := cz_ BK313 3 (.slice Ao64 t342.length co64)
                    have hcz214_4 := cz_ BK313 4 (.slice Ao65 t343.length co65)
                    have hfz214_0 := blk_frozen BK313.out 0
                    have hfz214_1 := blk_frozen BK313.out 1
                    have hfz214_2 := blk_frozen BK313.out 2
                    have hfz214_3 := blk_frozen BK313.out 3
                    have hfz214_4 := blk_frozen BK313.out 4
                    go_wp2_with (first | ((with_reducible refine gate_callee (f := 38) rfl ?_); refine gl_ (some 136) Try.func38 #[.agg #[.int .i64 t303, .int .i64 t304, .int .i64 t305, .slice Ao64 t342.length co64, .slice Ao65 t343.length co65], .int .i64 1] ?_; (with_reducible refine (laws_heldLsa.calls kj150 t303 t304 t305 _ _ t342 _ _ t343 1 t372 _ ?side1 ?side2 ?side3 ?side4 A201.out).mono ?_); (case side1 => exact rc_ HO_314003); (case side2 => exact (Kd.R_reads' HO_314003.out).2.1); (case side3 => exact rc_ HO_314004); (case side4 => exact (Kd.R_reads' HO_314004.out).2.1); rintro e w215 ⟨rfl, hb⟩; refine ⟨_, rfl, ?_⟩; replace HO_287003 := rb_ HO_287003 hb; replace HO_287004 := rb_ HO_287004 hb; replace HO_297003 := rb_ HO_297003 hb; replace HO_297004 := rb_ HO_297004 hb; replace HO_314003 := rb_ HO_314003 hb; replace HO_314004 := rb_ HO_314004 hb; replace HO_371003 := rb_ HO_371003 hb; replace HO_371004 := rb_ HO_371004 hb; replace BK257 := Aside0.mk (bb_ BK257 hb); replace BK286 := Aside0.mk (bb_ BK286 hb); replace BK296 := Aside0.mk (bb_ BK296 hb); replace BK313 := Aside0.mk (bb_ BK313 hb); replace BK370 := Aside0.mk (bb_ BK370 hb); replace HB := Aside0.mk (bt_ HB hb); (try clear hb); (try clear hb2); (try clear hk); (try clear hi)))
                    go_ret
                    exact ⟨by first | rfl | (simp [errW_none, errW_some] <;> rfl) | (simp [*, errW_none, errW_some] <;> rfl), by repeat (first | (with_reducible first | exact HB.out | apply below_alloc | apply pw_below_drewN | apply below_drew1 | refine below_set ?_ GE257.out | refine below_set ?_ GE286.out | refine below_set ?_ GE296.out | refine below_set ?_ GE313.out | refine below_set ?_ GE370.out) | exact HB.out)⟩
                   ·rw [if_neg c209] at H
                    have c209b0 : (t372 == t341) = false := beq_eq_false_iff_ne.mpr c209
                    have c209b1 : (t372 != t341) = true := bne_iff_ne.mpr c209
                    obtain rfl := Option.some.inj H
                    have hnb216 := NB313_257.out
                    have hnc216 := NB257_313.out
                    have hnb217 := NB313_286.out
                    have hnc217 := NB286_313.out
                    have hnb218 := NB313_296.out
                    have hnc218 := NB296_313.out
                    have hnb219 := NB313_370.out
                    have hnc219 := NB370_313.out
                    have hcz220_0 := cz_ BK313 0 (.int .i64 t303)
                    have hcz220_1 := cz_ BK313 1 (.int .i64 t304)
                    have hcz220_2 := cz_ BK313 2 (.int .i64 t305)
                    have hcz220_3 := cz_ BK313 3 (.slice Ao64 t342.length co64)
                    have hcz220_4 := cz_ BK313 4 (.slice Ao65 t343.length co65)
                    have hfz220_0 := blk_frozen BK313.out 0
                    have hfz220_1 := blk_frozen BK313.out 1
                    have hfz220_2 := blk_frozen BK313.out 2
                    have hfz220_3 := blk_frozen BK313.out 3
                    have hfz220_4 := blk_frozen BK313.out 4
                    go_wp2_with (first | ((with_reducible refine gate_callee (f := 38) rfl ?_); refine gl_ (some 136) Try.func38 #[.agg #[.int .i64 t303, .int .i64 t304, .int .i64 t305, .slice Ao64 t342.length co64, .slice Ao65 t343.length co65], .int .i64 1] ?_; (with_reducible refine (laws_heldLsa.calls kj150 t303 t304 t305 _ _ t342 _ _ t343 1 t372 _ ?side1 ?side2 ?side3 ?side4 A201.out).mono ?_); (case side1 => exact rc_ HO_314003); (case side2 => exact (Kd.R_reads' HO_314003.out).2.1); (case side3 => exact rc_ HO_314004); (case side4 => exact (Kd.R_reads' HO_314004.out).2.1); rintro e w221 ⟨rfl, hb⟩; refine ⟨_, rfl, ?_⟩; replace HO_287003 := rb_ HO_287003 hb; replace HO_287004 := rb_ HO_287004 hb; replace HO_297003 := rb_ HO_297003 hb; replace HO_297004 := rb_ HO_297004 hb; replace HO_314003 := rb_ HO_314003 hb; replace HO_314004 := rb_ HO_314004 hb; replace HO_371003 := rb_ HO_371003 hb; replace HO_371004 := rb_ HO_371004 hb; replace BK257 := Aside0.mk (bb_ BK257 hb); replace BK286 := Aside0.mk (bb_ BK286 hb); replace BK296 := Aside0.mk (bb_ BK296 hb); replace BK313 := Aside0.mk (bb_ BK313 hb); replace BK370 := Aside0.mk (bb_ BK370 hb); replace HB := Aside0.mk (bt_ HB hb); (try clear hb); (try clear hb2); (try clear hk); (try clear hi)))
                    go_ret
                    exact ⟨by first | rfl | (simp [errW_none, errW_some] <;> rfl) | (simp [*, errW_none, errW_some] <;> rfl), by repeat (first | (with_reducible first | exact HB.out | apply below_alloc | apply pw_below_drewN | apply below_drew1 | refine below_set ?_ GE257.out | refine below_set ?_ GE286.out | refine below_set ?_ GE296.out | refine below_set ?_ GE313.out | refine below_set ?_ GE370.out) | exact HB.out)⟩
              ·rw [if_neg c146] at H
               have c146b0 : (t344 == t341) = false := beq_eq_false_iff_ne.mpr c146
               have c146b1 : (t344 != t341) = true := bne_iff_ne.mpr c146
               obtain rfl := Option.some.inj H
               have hnb222 := NB313_257.out
               have hnc222 := NB257_313.out
               have hnb223 := NB313_286.out
               have hnc223 := NB286_313.out
               have hnb224 := NB313_296.out
               have hnc224 := NB296_313.out
               have hcz225_0 := cz_ BK313 0 (.int .i64 t303)
               have hcz225_1 := cz_ BK313 1 (.int .i64 t304)
               have hcz225_2 := cz_ BK313 2 (.int .i64 t305)
               have hcz225_3 := cz_ BK313 3 (.slice Ao64 t306.length co64)
               have hcz225_4 := cz_ BK313 4 (.slice Ao65 t309.length co65)
               have hfz225_0 := blk_frozen BK313.out 0
               have hfz225_1 := blk_frozen BK313.out 1
               have hfz225_2 := blk_frozen BK313.out 2
               have hfz225_3 := blk_frozen BK313.out 3
               have hfz225_4 := blk_frozen BK313.out 4
               go_wp2_with (first | ((with_reducible refine gate_callee (f := 35) rfl ?_); refine gl_ (some 106) Try.func35 #[.agg #[.int .i64 t303, .int .i64 t304, .int .i64 t305, .slice Ao64 t306.length co64, .slice Ao65 t309.length co65], .int .i64 1] ?_; (with_reducible refine (laws_markLsa.calls kj96 t303 t304 t305 (fun k_ => some k_ = (.slice Ao64 t306.length co64 : Value).ownBlock) (.slice Ao64 t306.length co64) t306 (fun k_ => some k_ = (.slice Ao65 t309.length co65 : Value).ownBlock) (.slice Ao65 t309.length co65) t309 1 t341 t342 t343 w _ ?side1 ?side2 ?side3 A136.out).mono ?_); (case side1 => exact by_ HB); (case side2 => exact Kd.R_tight rfl HO_314003.out); (case side3 => exact Kd.R_tight rfl HO_314004.out); rintro e w226 ⟨rfl, hy0, hy1, hb, hkp⟩; refine ⟨_, rfl, ?_⟩; replace HO_287003 := kp_ (fun k_ => some k_ ≠ (.slice Ao51 t334.length co51 : Value).ownBlock ∧ some k_ ≠ (.slice Ao64 t306.length co64 : Value).ownBlock) ((Kd.R_apart' HO_287003.out (Kd.R_typed HO_314004.out) (by decide))) hkp; replace HO_287004 := kp_ (fun k_ => some k_ ≠ (.slice Ao52 t335.length co52 : Value).ownBlock ∧ some k_ ≠ (.slice Ao65 t309.length co65 : Value).ownBlock) ((Kd.R_apart' HO_287004.out (Kd.R_typed HO_314003.out) (by decide))) hkp; replace HO_297003 := kp_ (fun k_ => some k_ ≠ (.slice Ao43 t279.length co43 : Value).ownBlock ∧ some k_ ≠ (.slice Ao64 t306.length co64 : Value).ownBlock) ((Kd.R_apart' HO_297003.out (Kd.R_typed HO_314004.out) (by decide))) hkp; replace HO_297004 := kp_ (fun k_ => some k_ ≠ (.slice Ao44 t282.length co44 : Value).ownBlock ∧ some k_ ≠ (.slice Ao65 t309.length co65 : Value).ownBlock) ((Kd.R_apart' HO_297004.out (Kd.R_typed HO_314003.out) (by decide))) hkp; replace BK257 := bk_ BK257 hkp (fun hs_ => Or.elim hs_ (Kd.R_ne HO_314003.out BK257.out (by decide)) (Kd.R_ne HO_314004.out BK257.out (by decide))); replace BK286 := bk_ BK286 hkp (fun hs_ => Or.elim hs_ (Kd.R_ne HO_314003.out BK286.out (by decide)) (Kd.R_ne HO_314004.out BK286.out (by decide))); replace BK296 := bk_ BK296 hkp (fun hs_ => Or.elim hs_ (Kd.R_ne HO_314003.out BK296.out (by decide)) (Kd.R_ne HO_314004.out BK296.out (by decide))); replace BK313 := bk_ BK313 hkp (fun hs_ => Or.elim hs_ (Kd.R_ne HO_314003.out BK313.out (by decide)) (Kd.R_ne HO_314004.out BK313.out (by decide))); replace HO_314003 := Aside0.mk (Kd.R_reok rfl hy0 (fun k_ e_ => HO_314003.out.1 k_ e_)); replace HO_314004 := Aside0.mk (Kd.R_reok rfl hy1 (fun k_ e_ => HO_314004.out.1 k_ e_)); replace HB := Aside0.mk (hb); (try clear hb); (try clear hkp); (try clear hy0); (try clear hy1); have hcz227_0 := cz_ BK313 0 (.int .i64 t303); have hcz227_1 := cz_ BK313 1 (.int .i64 t304); have hcz227_2 := cz_ BK313 2 (.int .i64 t305); have hcz227_3 := cz_ BK313 3 (.slice Ao64 t306.length co64); have hcz227_4 := cz_ BK313 4 (.slice Ao65 t309.length co65); have hfz227_0 := blk_frozen BK313.out 0; have hfz227_1 := blk_frozen BK313.out 1; have hfz227_2 := blk_frozen BK313.out 2; have hfz227_3 := blk_frozen BK313.out 3; have hfz227_4 := blk_frozen BK313.out 4) | ((with_reducible refine gate_callee (f := 38) rfl ?_); refine goesL_ (some 109) rfl rfl Try.func38 (by kernel_rfl) rfl #[.agg #[.int .i64 t303, .int .i64 t304, .int .i64 t305, .slice Ao64 t342.length co64, .slice Ao65 t343.length co65], .int .i64 1] rfl (by (try simp only [List.map_toArray, List.map_cons, List.map_nil]); first | done | (rw [show t342.length = t306.length from (Kd.R_reads' HO_314003.out).1.symm, show t343.length = t309.length from (Kd.R_reads' HO_314004.out).1.symm] <;> rfl) | rfl | (simp only [List.length_drop, List.length_take]; rfl)) ?_; (with_reducible refine (laws_heldLsa.calls kj96 t303 t304 t305 _ _ t342 _ _ t343 1 t344 _ ?side1 ?side2 ?side3 ?side4 A137.out).mono ?_); (case side1 => exact rc_ HO_314003); (case side2 => rw [show t342.length = t306.length from (Kd.R_reads' HO_314003.out).1.symm]; exact (Kd.R_reads' HO_314003.out).2.1); (case side3 => exact rc_ HO_314004); (case side4 => rw [show t343.length = t309.length from (Kd.R_reads' HO_314004.out).1.symm]; exact (Kd.R_reads' HO_314004.out).2.1); rintro e w228 ⟨rfl, hb⟩; refine ⟨_, rfl, ?_⟩; replace HO_287003 := rb_ HO_287003 hb; replace HO_287004 := rb_ HO_287004 hb; replace HO_297003 := rb_ HO_297003 hb; replace HO_297004 := rb_ HO_297004 hb; replace HO_314003 := rb_ HO_314003 hb; replace HO_314004 := rb_ HO_314004 hb; replace BK257 := Aside0.mk (bb_ BK257 hb); replace BK286 := Aside0.mk (bb_ BK286 hb); replace BK296 := Aside0.mk (bb_ BK296 hb); replace BK313 := Aside0.mk (bb_ BK313 hb); replace HB := Aside0.mk (bt_ HB hb); (try clear hb); (try clear hb2); (try clear hk); (try clear hi)))
               go_ret
               exact ⟨by first | rfl | (simp [errW_none, errW_some] <;> rfl) | (simp [*, errW_none, errW_some] <;> rfl), by repeat (first | (with_reducible first | exact HB.out | apply below_alloc | apply pw_below_drewN | apply below_drew1 | refine below_set ?_ GE257.out | refine below_set ?_ GE286.out | refine below_set ?_ GE296.out | refine below_set ?_ GE313.out) | exact HB.out)⟩
         ·replace c93 := Bool.eq_false_iff.mpr c93
          subst c93
          rw [if_neg (show ¬ (false = true) by decide)] at H
          obtain rfl := Option.some.inj H
          try go_wp2
          replace HO_11 := Aside0.mk (Kd.R_drew HO_11.out)
          replace HO_12 := Aside0.mk (Kd.R_drew HO_12.out)
          replace HO_287003 := Aside0.mk (Kd.R_drew HO_287003.out)
          replace HO_287004 := Aside0.mk (Kd.R_drew HO_287004.out)
          replace HO_297003 := Aside0.mk (Kd.R_drew HO_297003.out)
          replace HO_297004 := Aside0.mk (Kd.R_drew HO_297004.out)
          replace HO_314003 := Aside0.mk (Kd.R_drew HO_314003.out)
          replace HO_314004 := Aside0.mk (Kd.R_drew HO_314004.out)
          replace BK257 := Aside0.mk (blk_drew BK257.out)
          replace BK286 := Aside0.mk (blk_drew BK286.out)
          replace BK296 := Aside0.mk (blk_drew BK296.out)
          replace BK313 := Aside0.mk (blk_drew BK313.out)
          replace HB := Aside0.mk (below_drew1 HB.out)
          refine start_ (n := 5) (S := fun w' => w'.cell? ⟨gb296, 0, none⟩ = some (.int .i64 t287) ∧ w'.cell? ⟨gb296, 1, none⟩ = some (.int .i64 t288) ∧ w'.cell? ⟨gb296, 2, none⟩ = some (.int .i64 t289) ∧ w'.cell? ⟨gb296, 3, none⟩ = some (.slice Ao51 t290.length co51) ∧ w'.cell? ⟨gb296, 4, none⟩ = some (.slice Ao52 t293.length co52) ∧ w'.cell? ⟨gb257, 0, none⟩ = some (.int .i64 a0_0) ∧ w'.cell? ⟨gb257, 1, none⟩ = some (.int .i64 a0_1) ∧ w'.cell? ⟨gb257, 2, none⟩ = some (.int .i64 a0_2) ∧ w'.cell? ⟨gb257, 3, none⟩ = some (.slice A0_3 l0_3.length c0_3) ∧ w'.cell? ⟨gb257, 4, none⟩ = some (.slice A0_4 l0_4.length c0_4)) (ds := []) ba12_0 (by kernel_rfl) rfl rfl ⟨(blk_cell BK296.out 0).trans rfl, (blk_cell BK296.out 1).trans rfl, (blk_cell BK296.out 2).trans rfl, (blk_cell BK296.out 3).trans rfl, (blk_cell BK296.out 4).trans rfl, (blk_cell BK257.out 0).trans rfl, (blk_cell BK257.out 1).trans rfl, (blk_cell BK257.out 2).trans rfl, (blk_cell BK257.out 3).trans rfl, (blk_cell BK257.out 4).trans rfl⟩ (fun hHeld => ?_)
          generalize wc.drew = w229 at HO_11 HO_12 HO_287003 HO_287004 HO_297003 HO_297004 HO_314003 HO_314004 BK257 BK286 BK296 BK313 HB hHeld ⊢
          refine take_ (i := 0) (N := some 67) (v := ?_) (a' := ?_) ba12_1 rfl rfl (by kernel_rfl) (fun _ _ _ h => h) (Or.inl ⟨by rfl, ?_⟩) hHeld ?_ ?_
          rotate_left; · rintro w' ⟨s0, s1, s2, s3, s4, s5, s6, s7, s8, s9⟩; go_simp; with_reducible rfl
          rotate_left; · simp only [Act.put, List.setIfInBounds_toArray, List.set_cons_zero, List.set_cons_succ, i64_w, i32_w]; rfl
          refine take_ (i := 1) (N := some 68) (v := ?_) (a' := ?_) ba12_2 rfl rfl (by kernel_rfl) (fun _ _ _ h => h) (Or.inl ⟨by rfl, ?_⟩) hHeld ?_ ?_
          rotate_left; · rintro w' ⟨s0, s1, s2, s3, s4, s5, s6, s7, s8, s9⟩; go_simp; with_reducible rfl
          rotate_left; · simp only [Act.put, List.setIfInBounds_toArray, List.set_cons_zero, List.set_cons_succ, i64_w, i32_w]; rfl
          refine one_ (i := 2) (N := some 69) ba12_3 rfl rfl (by kernel_rfl) (by decide) (fun K hK => ?_)
          refine gz_ Try.func15 #[.agg #[.int .i64 a0_0, .int .i64 a0_1, .int .i64 a0_2, .slice A0_3 l0_3.length c0_3, .slice A0_4 l0_4.length c0_4]] ?_
          with_reducible refine (laws_toLsa.calls kj26 a0_0 a0_1 a0_2 _ _ l0_3 _ _ l0_4 t315 t316 t317 t318 t321 _ ?side1 ?side2 ?side3 ?side4 A85.out).mono ?_
          (case side1 => exact cb_ HR0_3 HB)
          (case side2 => exact HC0_3.out)
          (case side3 => exact cb_ HR0_4 HB)
          (case side4 => exact HC0_4.out)
          rintro e w230 ⟨v319, v322, rfl, ho0, ho1, hb⟩
          refine ⟨_, rfl, ?_⟩
          have HO320 := Aside0.mk (Kd.R_lower (Kd.R_new' (Kd.R_new' (Kd.R_new' (Kd.R_new' ho0 (Kd.R_lt (hd_ HO_11))) (Kd.R_lt (hd_ HO_287003))) (Kd.R_lt (hd_ HO_297003))) (Kd.R_lt (hd_ HO_314003))) (bz_ HB))
          have HO323 := Aside0.mk (Kd.R_lower (Kd.R_new' (Kd.R_new' (Kd.R_new' (Kd.R_new' ho1 (Kd.R_lt (hd_ HO_12))) (Kd.R_lt (hd_ HO_287004))) (Kd.R_lt (hd_ HO_297004))) (Kd.R_lt (hd_ HO_314004))) (bz_ HB))
          replace HO_11 := Aside0.mk (Kd.R_elder' (hd_ HO_11) (Kd.R_base ho0) hb)
          replace HO_287003 := Aside0.mk (Kd.R_elder' (hd_ HO_287003) (Kd.R_base ho0) hb)
          replace HO_297003 := Aside0.mk (Kd.R_elder' (hd_ HO_297003) (Kd.R_base ho0) hb)
          replace HO_314003 := Aside0.mk (Kd.R_elder' (hd_ HO_314003) (Kd.R_base ho0) hb)
          replace HO_12 := Aside0.mk (Kd.R_elder' (hd_ HO_12) (Kd.R_base ho1) hb)
          replace HO_287004 := Aside0.mk (Kd.R_elder' (hd_ HO_287004) (Kd.R_base ho1) hb)
          replace HO_297004 := Aside0.mk (Kd.R_elder' (hd_ HO_297004) (Kd.R_base ho1) hb)
          replace HO_314004 := Aside0.mk (Kd.R_elder' (hd_ HO_314004) (Kd.R_base ho1) hb)
          replace BK257 := Aside0.mk (bb_ BK257 hb)
          replace BK286 := Aside0.mk (bb_ BK286 hb)
          replace BK296 := Aside0.mk (bb_ BK296 hb)
          replace BK313 := Aside0.mk (bb_ BK313 hb)
          replace HB := Aside0.mk (bt_ HB hb)
          (try clear hb)
          (try clear hb2)
          (try clear hk)
          (try clear hi)
          (try clear ho0)
          (try clear ho1)
          obtain ⟨Ao231, co231, eo231⟩ := Kd.R_slice HO320.out
          (first | subst eo231 | (injection eo231 with f1_ f2_ f3_; have f4_ := f1_.symm; have f5_ := f3_.symm; clear f1_ f2_ f3_; subst f4_; subst f5_))
          obtain ⟨Ao232, co232, eo232⟩ := Kd.R_slice HO323.out
          (first | subst eo232 | (injection eo232 with f1_ f2_ f3_; have f4_ := f1_.symm; have f5_ := f3_.symm; clear f1_ f2_ f3_; subst f4_; subst f5_))
          refine hK.out _ _ ⟨(blk_cell BK296.out 0).trans rfl, (blk_cell BK296.out 1).trans rfl, (blk_cell BK296.out 2).trans rfl, (blk_cell BK296.out 3).trans rfl, (blk_cell BK296.out 4).trans rfl, (blk_cell BK257.out 0).trans rfl, (blk_cell BK257.out 1).trans rfl, (blk_cell BK257.out 2).trans rfl, (blk_cell BK257.out 3).trans rfl, (blk_cell BK257.out 4).trans rfl⟩ (fun hHeld => ?_)
          clear hK K
          refine nz_ 69 ?_
          refine one_ (i := 3) (N := some 70) ba12_4 rfl rfl (by kernel_rfl) (by decide) (fun K hK => ?_)
          refine gz_ Try.func17 #[.agg #[.int .i64 t287, .int .i64 t288, .int .i64 t289, .slice Ao51 t290.length co51, .slice Ao52 t293.length co52], .agg #[.int .i64 t315, .int .i64 t316, .int .i64 t317, .slice Ao231 t318.length co231, .slice Ao232 t321.length co232]] ?_
          with_reducible refine (laws_eqLsa.calls kj26 t287 t288 t289 _ _ t290 _ _ t293 t315 t316 t317 _ _ t318 _ _ t321 true _ ?side1 ?side2 ?side3 ?side4 ?side5 ?side6 ?side7 ?side8 A86.out).mono ?_
          (case side1 => exact rc_ HO_297003)
          (case side2 => exact (Kd.R_reads' HO_297003.out).2.1)
          (case side3 => exact rc_ HO_297004)
          (case side4 => exact (Kd.R_reads' HO_297004.out).2.1)
          (case side5 => exact rc_ HO320)
          (case side6 => exact (Kd.R_reads' HO320.out).2.1)
          (case side7 => exact rc_ HO323)
          (case side8 => exact (Kd.R_reads' HO323.out).2.1)
          rintro e w233 ⟨rfl, hb⟩
          refine ⟨_, rfl, ?_⟩
          replace HO_11 := rb_ HO_11 hb
          replace HO_12 := rb_ HO_12 hb
          replace HO_287003 := rb_ HO_287003 hb
          replace HO_287004 := rb_ HO_287004 hb
          replace HO_297003 := rb_ HO_297003 hb
          replace HO_297004 := rb_ HO_297004 hb
          replace HO_314003 := rb_ HO_314003 hb
          replace HO_314004 := rb_ HO_314004 hb
          replace HO320 := rb_ HO320 hb
          replace HO323 := rb_ HO323 hb
          replace BK257 := Aside0.mk (bb_ BK257 hb)
          replace BK286 := Aside0.mk (bb_ BK286 hb)
          replace BK296 := Aside0.mk (bb_ BK296 hb)
          replace BK313 := Aside0.mk (bb_ BK313 hb)
          replace HB := Aside0.mk (bt_ HB hb)
          (try clear hb)
          (try clear hb2)
          (try clear hk)
          (try clear hi)
          refine hK.out _ _ ⟨(blk_cell BK296.out 0).trans rfl, (blk_cell BK296.out 1).trans rfl, (blk_cell BK296.out 2).trans rfl, (blk_cell BK296.out 3).trans rfl, (blk_cell BK296.out 4).trans rfl, (blk_cell BK257.out 0).trans rfl, (blk_cell BK257.out 1).trans rfl, (blk_cell BK257.out 2).trans rfl, (blk_cell BK257.out 3).trans rfl, (blk_cell BK257.out 4).trans rfl⟩ (fun hHeld => ?_)
          clear hK K
          refine nz_ 70 ?_
          refine pure_ (i := 4) (N := some 71) (v := ?_) (a' := ?_) ba12_5 rfl rfl (by kernel_rfl) (fun _ _ _ h => h) (Or.inl ⟨by rfl, ?_⟩) ?_ ?_
          rotate_left; · intro w'; go_simp; with_reducible rfl
          rotate_left; · simp only [Act.put, List.setIfInBounds_toArray, List.set_cons_zero, List.set_cons_succ, i64_w, i32_w]; rfl
          refine done_ (by kernel_rfl) ?_
          try go_wp2_with (first | ((with_reducible refine gate_callee (f := 30) rfl ?_); refine gl_ (some 74) Try.func30 #[.slice A1 l1.length c1] ?_; (with_reducible refine (laws_toLinkS.calls kj26 _ _ l1 t325 _ ?side1 ?side2 A88.out).mono ?_); (case side1 => exact cb_ HR1 HB); (case side2 => exact HC1.out); rintro e w234 ⟨v326, rfl, ho0, hb⟩; refine ⟨_, rfl, ?_⟩; have HO327 := Aside0.mk (Kd.R_lower (Kd.R_new' (Kd.R_new' (Kd.R_new' (Kd.R_new' (Kd.R_new' ho0 (Kd.R_lt (hd_ HO_11))) (Kd.R_lt (hd_ HO_287003))) (Kd.R_lt (hd_ HO_297003))) (Kd.R_lt (hd_ HO_314003))) (Kd.R_lt (hd_ HO320))) (bz_ HB)); replace HO_12 := rb_ HO_12 hb; replace HO_287004 := rb_ HO_287004 hb; replace HO_297004 := rb_ HO_297004 hb; replace HO_314004 := rb_ HO_314004 hb; replace HO323 := rb_ HO323 hb; replace HO_11 := Aside0.mk (Kd.R_elder' (hd_ HO_11) (Kd.R_base ho0) hb); replace HO_287003 := Aside0.mk (Kd.R_elder' (hd_ HO_287003) (Kd.R_base ho0) hb); replace HO_297003 := Aside0.mk (Kd.R_elder' (hd_ HO_297003) (Kd.R_base ho0) hb); replace HO_314003 := Aside0.mk (Kd.R_elder' (hd_ HO_314003) (Kd.R_base ho0) hb); replace HO320 := Aside0.mk (Kd.R_elder' (hd_ HO320) (Kd.R_base ho0) hb); replace BK257 := Aside0.mk (bb_ BK257 hb); replace BK286 := Aside0.mk (bb_ BK286 hb); replace BK296 := Aside0.mk (bb_ BK296 hb); replace BK313 := Aside0.mk (bb_ BK313 hb); replace HB := Aside0.mk (bt_ HB hb); (try clear hb); (try clear hb2); (try clear hk); (try clear hi); (try clear ho0); obtain ⟨Ao235, co235, eo235⟩ := Kd.R_slice HO327.out; subst eo235) | ((with_reducible refine gate_callee (f := 33) rfl ?_); refine gl_ (some 75) Try.func33 #[.slice Ao56 t297.length co56, .slice Ao235 t325.length co235] ?_; (with_reducible refine (laws_eqLinkS.calls kj26 _ _ t297 _ _ t325 true _ ?side1 ?side2 ?side3 ?side4 A89.out).mono ?_); (case side1 => exact rc_ HO_11); (case side2 => exact (Kd.R_reads' HO_11.out).2.1); (case side3 => exact rc_ HO327); (case side4 => exact (Kd.R_reads' HO327.out).2.1); rintro e w236 ⟨rfl, hb⟩; refine ⟨_, rfl, ?_⟩; replace HO_11 := rb_ HO_11 hb; replace HO_12 := rb_ HO_12 hb; replace HO_287003 := rb_ HO_287003 hb; replace HO_287004 := rb_ HO_287004 hb; replace HO_297003 := rb_ HO_297003 hb; replace HO_297004 := rb_ HO_297004 hb; replace HO_314003 := rb_ HO_314003 hb; replace HO_314004 := rb_ HO_314004 hb; replace HO320 := rb_ HO320 hb; replace HO323 := rb_ HO323 hb; replace HO327 := rb_ HO327 hb; replace BK257 := Aside0.mk (bb_ BK257 hb); replace BK286 := Aside0.mk (bb_ BK286 hb); replace BK296 := Aside0.mk (bb_ BK296 hb); replace BK313 := Aside0.mk (bb_ BK313 hb); replace HB := Aside0.mk (bt_ HB hb); (try clear hb); (try clear hb2); (try clear hk); (try clear hi)) | ((with_reducible refine gate_callee (f := 31) rfl ?_); refine gl_ (some 79) Try.func31 #[.slice A2 l2.length c2] ?_; (with_reducible refine (laws_toStubS.calls kj26 _ _ l2 t329 _ ?side1 ?side2 A91.out).mono ?_); (case side1 => exact cb_ HR2 HB); (case side2 => exact HC2.out); rintro e w237 ⟨v330, rfl, ho0, hb⟩; refine ⟨_, rfl, ?_⟩; have HO331 := Aside0.mk (Kd.R_lower (Kd.R_new' (Kd.R_new' (Kd.R_new' (Kd.R_new' (Kd.R_new' ho0 (Kd.R_lt (hd_ HO_12))) (Kd.R_lt (hd_ HO_287004))) (Kd.R_lt (hd_ HO_297004))) (Kd.R_lt (hd_ HO_314004))) (Kd.R_lt (hd_ HO323))) (bz_ HB)); replace HO_11 := rb_ HO_11 hb; replace HO_287003 := rb_ HO_287003 hb; replace HO_297003 := rb_ HO_297003 hb; replace HO_314003 := rb_ HO_314003 hb; replace HO320 := rb_ HO320 hb; replace HO327 := rb_ HO327 hb; replace HO_12 := Aside0.mk (Kd.R_elder' (hd_ HO_12) (Kd.R_base ho0) hb); replace HO_287004 := Aside0.mk (Kd.R_elder' (hd_ HO_287004) (Kd.R_base ho0) hb); replace HO_297004 := Aside0.mk (Kd.R_elder' (hd_ HO_297004) (Kd.R_base ho0) hb); replace HO_314004 := Aside0.mk (Kd.R_elder' (hd_ HO_314004) (Kd.R_base ho0) hb); replace HO323 := Aside0.mk (Kd.R_elder' (hd_ HO323) (Kd.R_base ho0) hb); replace BK257 := Aside0.mk (bb_ BK257 hb); replace BK286 := Aside0.mk (bb_ BK286 hb); replace BK296 := Aside0.mk (bb_ BK296 hb); replace BK313 := Aside0.mk (bb_ BK313 hb); replace HB := Aside0.mk (bt_ HB hb); (try clear hb); (try clear hb2); (try clear hk); (try clear hi); (try clear ho0); obtain ⟨Ao238, co238, eo238⟩ := Kd.R_slice HO331.out; subst eo238) | ((with_reducible refine gate_callee (f := 34) rfl ?_); refine gl_ (some 80) Try.func34 #[.slice Ao57 t300.length co57, .slice Ao238 t329.length co238] ?_; (with_reducible refine (laws_eqStubS.calls kj26 _ _ t300 _ _ t329 false _ ?side1 ?side2 ?side3 ?side4 A92.out).mono ?_); (case side1 => exact rc_ HO_12); (case side2 => exact (Kd.R_reads' HO_12.out).2.1); (case side3 => exact rc_ HO331); (case side4 => exact (Kd.R_reads' HO331.out).2.1); rintro e w239 ⟨rfl, hb⟩; refine ⟨_, rfl, ?_⟩; replace HO_11 := rb_ HO_11 hb; replace HO_12 := rb_ HO_12 hb; replace HO_287003 := rb_ HO_287003 hb; replace HO_287004 := rb_ HO_287004 hb; replace HO_297003 := rb_ HO_297003 hb; replace HO_297004 := rb_ HO_297004 hb; replace HO_314003 := rb_ HO_314003 hb; replace HO_314004 := rb_ HO_314004 hb; replace HO320 := rb_ HO320 hb; replace HO323 := rb_ HO323 hb; replace HO327 := rb_ HO327 hb; replace HO331 := rb_ HO331 hb; replace BK257 := Aside0.mk (bb_ BK257 hb); replace BK286 := Aside0.mk (bb_ BK286 hb); replace BK296 := Aside0.mk (bb_ BK296 hb); replace BK313 := Aside0.mk (bb_ BK313 hb); replace HB := Aside0.mk (bt_ HB hb); (try clear hb); (try clear hb2); (try clear hk); (try clear hi)))
          go_ret
          exact ⟨by first | rfl | (simp [errW_none, errW_some] <;> rfl) | (simp [*, errW_none, errW_some] <;> rfl), by repeat (first | (with_reducible first | exact HB.out | apply below_alloc | apply pw_below_drewN | apply below_drew1 | refine below_set ?_ GE257.out | refine below_set ?_ GE286.out | refine below_set ?_ GE296.out | refine below_set ?_ GE313.out) | exact HB.out)⟩
        ·replace c90 := Bool.eq_false_iff.mpr c90
         subst c90
         rw [if_neg (show ¬ (false = true) by decide)] at H
         obtain rfl := Option.some.inj H
         try go_wp2
         replace HO_11 := Aside0.mk (Kd.R_drew HO_11.out)
         replace HO_12 := Aside0.mk (Kd.R_drew HO_12.out)
         replace HO_287003 := Aside0.mk (Kd.R_drew HO_287003.out)
         replace HO_287004 := Aside0.mk (Kd.R_drew HO_287004.out)
         replace HO_297003 := Aside0.mk (Kd.R_drew HO_297003.out)
         replace HO_297004 := Aside0.mk (Kd.R_drew HO_297004.out)
         replace HO_314003 := Aside0.mk (Kd.R_drew HO_314003.out)
         replace HO_314004 := Aside0.mk (Kd.R_drew HO_314004.out)
         replace BK257 := Aside0.mk (blk_drew BK257.out)
         replace BK286 := Aside0.mk (blk_drew BK286.out)
         replace BK296 := Aside0.mk (blk_drew BK296.out)
         replace BK313 := Aside0.mk (blk_drew BK313.out)
         replace HB := Aside0.mk (below_drew1 HB.out)
         refine start_ (n := 5) (S := fun w' => w'.cell? ⟨gb296, 0, none⟩ = some (.int .i64 t287) ∧ w'.cell? ⟨gb296, 1, none⟩ = some (.int .i64 t288) ∧ w'.cell? ⟨gb296, 2, none⟩ = some (.int .i64 t289) ∧ w'.cell? ⟨gb296, 3, none⟩ = some (.slice Ao51 t290.length co51) ∧ w'.cell? ⟨gb296, 4, none⟩ = some (.slice Ao52 t293.length co52) ∧ w'.cell? ⟨gb257, 0, none⟩ = some (.int .i64 a0_0) ∧ w'.cell? ⟨gb257, 1, none⟩ = some (.int .i64 a0_1) ∧ w'.cell? ⟨gb257, 2, none⟩ = some (.int .i64 a0_2) ∧ w'.cell? ⟨gb257, 3, none⟩ = some (.slice A0_3 l0_3.length c0_3) ∧ w'.cell? ⟨gb257, 4, none⟩ = some (.slice A0_4 l0_4.length c0_4)) (ds := []) ba12_0 (by kernel_rfl) rfl rfl ⟨(blk_cell BK296.out 0).trans rfl, (blk_cell BK296.out 1).trans rfl, (blk_cell BK296.out 2).trans rfl, (blk_cell BK296.out 3).trans rfl, (blk_cell BK296.out 4).trans rfl, (blk_cell BK257.out 0).trans rfl, (blk_cell BK257.out 1).trans rfl, (blk_cell BK257.out 2).trans rfl, (blk_cell BK257.out 3).trans rfl, (blk_cell BK257.out 4).trans rfl⟩ (fun hHeld => ?_)
         generalize wc.drew = w240 at HO_11 HO_12 HO_287003 HO_287004 HO_297003 HO_297004 HO_314003 HO_314004 BK257 BK286 BK296 BK313 HB hHeld ⊢
         refine take_ (i := 0) (N := some 67) (v := ?_) (a' := ?_) ba12_1 rfl rfl (by kernel_rfl) (fun _ _ _ h => h) (Or.inl ⟨by rfl, ?_⟩) hHeld ?_ ?_
         rotate_left; · rintro w' ⟨s0, s1, s2, s3, s4, s5, s6, s7, s8, s9⟩; go_simp; with_reducible rfl
         rotate_left; · simp only [Act.put, List.setIfInBounds_toArray, List.set_cons_zero, List.set_cons_succ, i64_w, i32_w]; rfl
         refine take_ (i := 1) (N := some 68) (v := ?_) (a' := ?_) ba12_2 rfl rfl (by kernel_rfl) (fun _ _ _ h => h) (Or.inl ⟨by rfl, ?_⟩) hHeld ?_ ?_
         rotate_left; · rintro w' ⟨s0, s1, s2, s3, s4, s5, s6, s7, s8, s9⟩; go_simp; with_reducible rfl
         rotate_left; · simp only [Act.put, List.setIfInBounds_toArray, List.set_cons_zero, List.set_cons_succ, i64_w, i32_w]; rfl
         refine one_ (i := 2) (N := some 69) ba12_3 rfl rfl (by kernel_rfl) (by decide) (fun K hK => ?_)
         refine gz_ Try.func15 #[.agg #[.int .i64 a0_0, .int .i64 a0_1, .int .i64 a0_2, .slice A0_3 l0_3.length c0_3, .slice A0_4 l0_4.length c0_4]] ?_
         with_reducible refine (laws_toLsa.calls kj26 a0_0 a0_1 a0_2 _ _ l0_3 _ _ l0_4 t315 t316 t317 t318 t321 _ ?side1 ?side2 ?side3 ?side4 A85.out).mono ?_
         (case side1 => exact cb_ HR0_3 HB)
         (case side2 => exact HC0_3.out)
         (case side3 => exact cb_ HR0_4 HB)
         (case side4 => exact HC0_4.out)
         rintro e w241 ⟨v319, v322, rfl, ho0, ho1, hb⟩
         refine ⟨_, rfl, ?_⟩
         have HO320 := Aside0.mk (Kd.R_lower (Kd.R_new' (Kd.R_new' (Kd.R_new' (Kd.R_new' ho0 (Kd.R_lt (hd_ HO_11))) (Kd.R_lt (hd_ HO_287003))) (Kd.R_lt (hd_ HO_297003))) (Kd.R_lt (hd_ HO_314003))) (bz_ HB))
         have HO323 := Aside0.mk (Kd.R_lower (Kd.R_new' (Kd.R_new' (Kd.R_new' (Kd.R_new' ho1 (Kd.R_lt (hd_ HO_12))) (Kd.R_lt (hd_ HO_287004))) (Kd.R_lt (hd_ HO_297004))) (Kd.R_lt (hd_ HO_314004))) (bz_ HB))
         replace HO_11 := Aside0.mk (Kd.R_elder' (hd_ HO_11) (Kd.R_base ho0) hb)
         replace HO_287003 := Aside0.mk (Kd.R_elder' (hd_ HO_287003) (Kd.R_base ho0) hb)
         replace HO_297003 := Aside0.mk (Kd.R_elder' (hd_ HO_297003) (Kd.R_base ho0) hb)
         replace HO_314003 := Aside0.mk (Kd.R_elder' (hd_ HO_314003) (Kd.R_base ho0) hb)
         replace HO_12 := Aside0.mk (Kd.R_elder' (hd_ HO_12) (Kd.R_base ho1) hb)
         replace HO_287004 := Aside0.mk (Kd.R_elder' (hd_ HO_287004) (Kd.R_base ho1) hb)
         replace HO_297004 := Aside0.mk (Kd.R_elder' (hd_ HO_297004) (Kd.R_base ho1) hb)
         replace HO_314004 := Aside0.mk (Kd.R_elder' (hd_ HO_314004) (Kd.R_base ho1) hb)
         replace BK257 := Aside0.mk (bb_ BK257 hb)
         replace BK286 := Aside0.mk (bb_ BK286 hb)
         replace BK296 := Aside0.mk (bb_ BK296 hb)
         replace BK313 := Aside0.mk (bb_ BK313 hb)
         replace HB := Aside0.mk (bt_ HB hb)
         (try clear hb)
         (try clear hb2)
         (try clear hk)
         (try clear hi)
         (try clear ho0)
         (try clear ho1)
         obtain ⟨Ao242, co242, eo242⟩ := Kd.R_slice HO320.out
         (first | subst eo242 | (injection eo242 with f1_ f2_ f3_; have f4_ := f1_.symm; have f5_ := f3_.symm; clear f1_ f2_ f3_; subst f4_; subst f5_))
         obtain ⟨Ao243, co243, eo243⟩ := Kd.R_slice HO323.out
         (first | subst eo243 | (injection eo243 with f1_ f2_ f3_; have f4_ := f1_.symm; have f5_ := f3_.symm; clear f1_ f2_ f3_; subst f4_; subst f5_))
         refine hK.out _ _ ⟨(blk_cell BK296.out 0).trans rfl, (blk_cell BK296.out 1).trans rfl, (blk_cell BK296.out 2).trans rfl, (blk_cell BK296.out 3).trans rfl, (blk_cell BK296.out 4).trans rfl, (blk_cell BK257.out 0).trans rfl, (blk_cell BK257.out 1).trans rfl, (blk_cell BK257.out 2).trans rfl, (blk_cell BK257.out 3).trans rfl, (blk_cell BK257.out 4).trans rfl⟩ (fun hHeld => ?_)
         clear hK K
         refine nz_ 69 ?_
         refine one_ (i := 3) (N := some 70) ba12_4 rfl rfl (by kernel_rfl) (by decide) (fun K hK => ?_)
         refine gz_ Try.func17 #[.agg #[.int .i64 t287, .int .i64 t288, .int .i64 t289, .slice Ao51 t290.length co51, .slice Ao52 t293.length co52], .agg #[.int .i64 t315, .int .i64 t316, .int .i64 t317, .slice Ao242 t318.length co242, .slice Ao243 t321.length co243]] ?_
         with_reducible refine (laws_eqLsa.calls kj26 t287 t288 t289 _ _ t290 _ _ t293 t315 t316 t317 _ _ t318 _ _ t321 true _ ?side1 ?side2 ?side3 ?side4 ?side5 ?side6 ?side7 ?side8 A86.out).mono ?_
         (case side1 => exact rc_ HO_297003)
         (case side2 => exact (Kd.R_reads' HO_297003.out).2.1)
         (case side3 => exact rc_ HO_297004)
         (case side4 => exact (Kd.R_reads' HO_297004.out).2.1)
         (case side5 => exact rc_ HO320)
         (case side6 => exact (Kd.R_reads' HO320.out).2.1)
         (case side7 => exact rc_ HO323)
         (case side8 => exact (Kd.R_reads' HO323.out).2.1)
         rintro e w244 ⟨rfl, hb⟩
         refine ⟨_, rfl, ?_⟩
         replace HO_11 := rb_ HO_11 hb
         replace HO_12 := rb_ HO_12 hb
         replace HO_287003 := rb_ HO_287003 hb
         replace HO_287004 := rb_ HO_287004 hb
         replace HO_297003 := rb_ HO_297003 hb
         replace HO_297004 := rb_ HO_297004 hb
         replace HO_314003 := rb_ HO_314003 hb
         replace HO_314004 := rb_ HO_314004 hb
         replace HO320 := rb_ HO320 hb
         replace HO323 := rb_ HO323 hb
         replace BK257 := Aside0.mk (bb_ BK257 hb)
         replace BK286 := Aside0.mk (bb_ BK286 hb)
         replace BK296 := Aside0.mk (bb_ BK296 hb)
         replace BK313 := Aside0.mk (bb_ BK313 hb)
         replace HB := Aside0.mk (bt_ HB hb)
         (try clear hb)
         (try clear hb2)
         (try clear hk)
         (try clear hi)
         refine hK.out _ _ ⟨(blk_cell BK296.out 0).trans rfl, (blk_cell BK296.out 1).trans rfl, (blk_cell BK296.out 2).trans rfl, (blk_cell BK296.out 3).trans rfl, (blk_cell BK296.out 4).trans rfl, (blk_cell BK257.out 0).trans rfl, (blk_cell BK257.out 1).trans rfl, (blk_cell BK257.out 2).trans rfl, (blk_cell BK257.out 3).trans rfl, (blk_cell BK257.out 4).trans rfl⟩ (fun hHeld => ?_)
         clear hK K
         refine nz_ 70 ?_
         refine pure_ (i := 4) (N := some 71) (v := ?_) (a' := ?_) ba12_5 rfl rfl (by kernel_rfl) (fun _ _ _ h => h) (Or.inl ⟨by rfl, ?_⟩) ?_ ?_
         rotate_left; · intro w'; go_simp; with_reducible rfl
         rotate_left; · simp only [Act.put, List.setIfInBounds_toArray, List.set_cons_zero, List.set_cons_succ, i64_w, i32_w]; rfl
         refine done_ (by kernel_rfl) ?_
         try go_wp2_with (first | ((with_reducible refine gate_callee (f := 30) rfl ?_); refine gl_ (some 74) Try.func30 #[.slice A1 l1.length c1] ?_; (with_reducible refine (laws_toLinkS.calls kj26 _ _ l1 t325 _ ?side1 ?side2 A88.out).mono ?_); (case side1 => exact cb_ HR1 HB); (case side2 => exact HC1.out); rintro e w245 ⟨v326, rfl, ho0, hb⟩; refine ⟨_, rfl, ?_⟩; have HO327 := Aside0.mk (Kd.R_lower (Kd.R_new' (Kd.R_new' (Kd.R_new' (Kd.R_new' (Kd.R_new' ho0 (Kd.R_lt (hd_ HO_11))) (Kd.R_lt (hd_ HO_287003))) (Kd.R_lt (hd_ HO_297003))) (Kd.R_lt (hd_ HO_314003))) (Kd.R_lt (hd_ HO320))) (bz_ HB)); replace HO_12 := rb_ HO_12 hb; replace HO_287004 := rb_ HO_287004 hb; replace HO_297004 := rb_ HO_297004 hb; replace HO_314004 := rb_ HO_314004 hb; replace HO323 := rb_ HO323 hb; replace HO_11 := Aside0.mk (Kd.R_elder' (hd_ HO_11) (Kd.R_base ho0) hb); replace HO_287003 := Aside0.mk (Kd.R_elder' (hd_ HO_287003) (Kd.R_base ho0) hb); replace HO_297003 := Aside0.mk (Kd.R_elder' (hd_ HO_297003) (Kd.R_base ho0) hb); replace HO_314003 := Aside0.mk (Kd.R_elder' (hd_ HO_314003) (Kd.R_base ho0) hb); replace HO320 := Aside0.mk (Kd.R_elder' (hd_ HO320) (Kd.R_base ho0) hb); replace BK257 := Aside0.mk (bb_ BK257 hb); replace BK286 := Aside0.mk (bb_ BK286 hb); replace BK296 := Aside0.mk (bb_ BK296 hb); replace BK313 := Aside0.mk (bb_ BK313 hb); replace HB := Aside0.mk (bt_ HB hb); (try clear hb); (try clear hb2); (try clear hk); (try clear hi); (try clear ho0); obtain ⟨Ao246, co246, eo246⟩ := Kd.R_slice HO327.out; subst eo246) | ((with_reducible refine gate_callee (f := 33) rfl ?_); refine gl_ (some 75) Try.func33 #[.slice Ao56 t297.length co56, .slice Ao246 t325.length co246] ?_; (with_reducible refine (laws_eqLinkS.calls kj26 _ _ t297 _ _ t325 false _ ?side1 ?side2 ?side3 ?side4 A89.out).mono ?_); (case side1 => exact rc_ HO_11); (case side2 => exact (Kd.R_reads' HO_11.out).2.1); (case side3 => exact rc_ HO327); (case side4 => exact (Kd.R_reads' HO327.out).2.1); rintro e w247 ⟨rfl, hb⟩; refine ⟨_, rfl, ?_⟩; replace HO_11 := rb_ HO_11 hb; replace HO_12 := rb_ HO_12 hb; replace HO_287003 := rb_ HO_287003 hb; replace HO_287004 := rb_ HO_287004 hb; replace HO_297003 := rb_ HO_297003 hb; replace HO_297004 := rb_ HO_297004 hb; replace HO_314003 := rb_ HO_314003 hb; replace HO_314004 := rb_ HO_314004 hb; replace HO320 := rb_ HO320 hb; replace HO323 := rb_ HO323 hb; replace HO327 := rb_ HO327 hb; replace BK257 := Aside0.mk (bb_ BK257 hb); replace BK286 := Aside0.mk (bb_ BK286 hb); replace BK296 := Aside0.mk (bb_ BK296 hb); replace BK313 := Aside0.mk (bb_ BK313 hb); replace HB := Aside0.mk (bt_ HB hb); (try clear hb); (try clear hb2); (try clear hk); (try clear hi)))
         go_ret
         exact ⟨by first | rfl | (simp [errW_none, errW_some] <;> rfl) | (simp [*, errW_none, errW_some] <;> rfl), by repeat (first | (with_reducible first | exact HB.out | apply below_alloc | apply pw_below_drewN | apply below_drew1 | refine below_set ?_ GE257.out | refine below_set ?_ GE286.out | refine below_set ?_ GE296.out | refine below_set ?_ GE313.out) | exact HB.out)⟩
       ·replace c87 := Bool.eq_false_iff.mpr c87
        subst c87
        rw [if_neg (show ¬ (false = true) by decide)] at H
        obtain rfl := Option.some.inj H
        try go_wp2
        replace HO_11 := Aside0.mk (Kd.R_drew HO_11.out)
        replace HO_12 := Aside0.mk (Kd.R_drew HO_12.out)
        replace HO_287003 := Aside0.mk (Kd.R_drew HO_287003.out)
        replace HO_287004 := Aside0.mk (Kd.R_drew HO_287004.out)
        replace HO_297003 := Aside0.mk (Kd.R_drew HO_297003.out)
        replace HO_297004 := Aside0.mk (Kd.R_drew HO_297004.out)
        replace HO_314003 := Aside0.mk (Kd.R_drew HO_314003.out)
        replace HO_314004 := Aside0.mk (Kd.R_drew HO_314004.out)
        replace BK257 := Aside0.mk (blk_drew BK257.out)
        replace BK286 := Aside0.mk (blk_drew BK286.out)
        replace BK296 := Aside0.mk (blk_drew BK296.out)
        replace BK313 := Aside0.mk (blk_drew BK313.out)
        replace HB := Aside0.mk (below_drew1 HB.out)
        refine start_ (n := 5) (S := fun w' => w'.cell? ⟨gb296, 0, none⟩ = some (.int .i64 t287) ∧ w'.cell? ⟨gb296, 1, none⟩ = some (.int .i64 t288) ∧ w'.cell? ⟨gb296, 2, none⟩ = some (.int .i64 t289) ∧ w'.cell? ⟨gb296, 3, none⟩ = some (.slice Ao51 t290.length co51) ∧ w'.cell? ⟨gb296, 4, none⟩ = some (.slice Ao52 t293.length co52) ∧ w'.cell? ⟨gb257, 0, none⟩ = some (.int .i64 a0_0) ∧ w'.cell? ⟨gb257, 1, none⟩ = some (.int .i64 a0_1) ∧ w'.cell? ⟨gb257, 2, none⟩ = some (.int .i64 a0_2) ∧ w'.cell? ⟨gb257, 3, none⟩ = some (.slice A0_3 l0_3.length c0_3) ∧ w'.cell? ⟨gb257, 4, none⟩ = some (.slice A0_4 l0_4.length c0_4)) (ds := []) ba12_0 (by kernel_rfl) rfl rfl ⟨(blk_cell BK296.out 0).trans rfl, (blk_cell BK296.out 1).trans rfl, (blk_cell BK296.out 2).trans rfl, (blk_cell BK296.out 3).trans rfl, (blk_cell BK296.out 4).trans rfl, (blk_cell BK257.out 0).trans rfl, (blk_cell BK257.out 1).trans rfl, (blk_cell BK257.out 2).trans rfl, (blk_cell BK257.out 3).trans rfl, (blk_cell BK257.out 4).trans rfl⟩ (fun hHeld => ?_)
        generalize wc.drew = w248 at HO_11 HO_12 HO_287003 HO_287004 HO_297003 HO_297004 HO_314003 HO_314004 BK257 BK286 BK296 BK313 HB hHeld ⊢
        refine take_ (i := 0) (N := some 67) (v := ?_) (a' := ?_) ba12_1 rfl rfl (by kernel_rfl) (fun _ _ _ h => h) (Or.inl ⟨by rfl, ?_⟩) hHeld ?_ ?_
        rotate_left; · rintro w' ⟨s0, s1, s2, s3, s4, s5, s6, s7, s8, s9⟩; go_simp; with_reducible rfl
        rotate_left; · simp only [Act.put, List.setIfInBounds_toArray, List.set_cons_zero, List.set_cons_succ, i64_w, i32_w]; rfl
        refine take_ (i := 1) (N := some 68) (v := ?_) (a' := ?_) ba12_2 rfl rfl (by kernel_rfl) (fun _ _ _ h => h) (Or.inl ⟨by rfl, ?_⟩) hHeld ?_ ?_
        rotate_left; · rintro w' ⟨s0, s1, s2, s3, s4, s5, s6, s7, s8, s9⟩; go_simp; with_reducible rfl
        rotate_left; · simp only [Act.put, List.setIfInBounds_toArray, List.set_cons_zero, List.set_cons_succ, i64_w, i32_w]; rfl
        refine one_ (i := 2) (N := some 69) ba12_3 rfl rfl (by kernel_rfl) (by decide) (fun K hK => ?_)
        refine gz_ Try.func15 #[.agg #[.int .i64 a0_0, .int .i64 a0_1, .int .i64 a0_2, .slice A0_3 l0_3.length c0_3, .slice A0_4 l0_4.length c0_4]] ?_
        with_reducible refine (laws_toLsa.calls kj26 a0_0 a0_1 a0_2 _ _ l0_3 _ _ l0_4 t315 t316 t317 t318 t321 _ ?side1 ?side2 ?side3 ?side4 A85.out).mono ?_
        (case side1 => exact cb_ HR0_3 HB)
        (case side2 => exact HC0_3.out)
        (case side3 => exact cb_ HR0_4 HB)
        (case side4 => exact HC0_4.out)
        rintro e w249 ⟨v319, v322, rfl, ho0, ho1, hb⟩
        refine ⟨_, rfl, ?_⟩
        have HO320 := Aside0.mk (Kd.R_lower (Kd.R_new' (Kd.R_new' (Kd.R_new' (Kd.R_new' ho0 (Kd.R_lt (hd_ HO_11))) (Kd.R_lt (hd_ HO_287003))) (Kd.R_lt (hd_ HO_297003))) (Kd.R_lt (hd_ HO_314003))) (bz_ HB))
        have HO323 := Aside0.mk (Kd.R_lower (Kd.R_new' (Kd.R_new' (Kd.R_new' (Kd.R_new' ho1 (Kd.R_lt (hd_ HO_12))) (Kd.R_lt (hd_ HO_287004))) (Kd.R_lt (hd_ HO_297004))) (Kd.R_lt (hd_ HO_314004))) (bz_ HB))
        replace HO_11 := Aside0.mk (Kd.R_elder' (hd_ HO_11) (Kd.R_base ho0) hb)
        replace HO_287003 := Aside0.mk (Kd.R_elder' (hd_ HO_287003) (Kd.R_base ho0) hb)
        replace HO_297003 := Aside0.mk (Kd.R_elder' (hd_ HO_297003) (Kd.R_base ho0) hb)
        replace HO_314003 := Aside0.mk (Kd.R_elder' (hd_ HO_314003) (Kd.R_base ho0) hb)
        replace HO_12 := Aside0.mk (Kd.R_elder' (hd_ HO_12) (Kd.R_base ho1) hb)
        replace HO_287004 := Aside0.mk (Kd.R_elder' (hd_ HO_287004) (Kd.R_base ho1) hb)
        replace HO_297004 := Aside0.mk (Kd.R_elder' (hd_ HO_297004) (Kd.R_base ho1) hb)
        replace HO_314004 := Aside0.mk (Kd.R_elder' (hd_ HO_314004) (Kd.R_base ho1) hb)
        replace BK257 := Aside0.mk (bb_ BK257 hb)
        replace BK286 := Aside0.mk (bb_ BK286 hb)
        replace BK296 := Aside0.mk (bb_ BK296 hb)
        replace BK313 := Aside0.mk (bb_ BK313 hb)
        replace HB := Aside0.mk (bt_ HB hb)
        (try clear hb)
        (try clear hb2)
        (try clear hk)
        (try clear hi)
        (try clear ho0)
        (try clear ho1)
        obtain ⟨Ao250, co250, eo250⟩ := Kd.R_slice HO320.out
        (first | subst eo250 | (injection eo250 with f1_ f2_ f3_; have f4_ := f1_.symm; have f5_ := f3_.symm; clear f1_ f2_ f3_; subst f4_; subst f5_))
        obtain ⟨Ao251, co251, eo251⟩ := Kd.R_slice HO323.out
        (first | subst eo251 | (injection eo251 with f1_ f2_ f3_; have f4_ := f1_.symm; have f5_ := f3_.symm; clear f1_ f2_ f3_; subst f4_; subst f5_))
        refine hK.out _ _ ⟨(blk_cell BK296.out 0).trans rfl, (blk_cell BK296.out 1).trans rfl, (blk_cell BK296.out 2).trans rfl, (blk_cell BK296.out 3).trans rfl, (blk_cell BK296.out 4).trans rfl, (blk_cell BK257.out 0).trans rfl, (blk_cell BK257.out 1).trans rfl, (blk_cell BK257.out 2).trans rfl, (blk_cell BK257.out 3).trans rfl, (blk_cell BK257.out 4).trans rfl⟩ (fun hHeld => ?_)
        clear hK K
        refine nz_ 69 ?_
        refine one_ (i := 3) (N := some 70) ba12_4 rfl rfl (by kernel_rfl) (by decide) (fun K hK => ?_)
        refine gz_ Try.func17 #[.agg #[.int .i64 t287, .int .i64 t288, .int .i64 t289, .slice Ao51 t290.length co51, .slice Ao52 t293.length co52], .agg #[.int .i64 t315, .int .i64 t316, .int .i64 t317, .slice Ao250 t318.length co250, .slice Ao251 t321.length co251]] ?_
        with_reducible refine (laws_eqLsa.calls kj26 t287 t288 t289 _ _ t290 _ _ t293 t315 t316 t317 _ _ t318 _ _ t321 false _ ?side1 ?side2 ?side3 ?side4 ?side5 ?side6 ?side7 ?side8 A86.out).mono ?_
        (case side1 => exact rc_ HO_297003)
        (case side2 => exact (Kd.R_reads' HO_297003.out).2.1)
        (case side3 => exact rc_ HO_297004)
        (case side4 => exact (Kd.R_reads' HO_297004.out).2.1)
        (case side5 => exact rc_ HO320)
        (case side6 => exact (Kd.R_reads' HO320.out).2.1)
        (case side7 => exact rc_ HO323)
        (case side8 => exact (Kd.R_reads' HO323.out).2.1)
        rintro e w252 ⟨rfl, hb⟩
        refine ⟨_, rfl, ?_⟩
        replace HO_11 := rb_ HO_11 hb
        replace HO_12 := rb_ HO_12 hb
        replace HO_287003 := rb_ HO_287003 hb
        replace HO_287004 := rb_ HO_287004 hb
        replace HO_297003 := rb_ HO_297003 hb
        replace HO_297004 := rb_ HO_297004 hb
        replace HO_314003 := rb_ HO_314003 hb
        replace HO_314004 := rb_ HO_314004 hb
        replace HO320 := rb_ HO320 hb
        replace HO323 := rb_ HO323 hb
        replace BK257 := Aside0.mk (bb_ BK257 hb)
        replace BK286 := Aside0.mk (bb_ BK286 hb)
        replace BK296 := Aside0.mk (bb_ BK296 hb)
        replace BK313 := Aside0.mk (bb_ BK313 hb)
        replace HB := Aside0.mk (bt_ HB hb)
        (try clear hb)
        (try clear hb2)
        (try clear hk)
        (try clear hi)
        refine hK.out _ _ ⟨(blk_cell BK296.out 0).trans rfl, (blk_cell BK296.out 1).trans rfl, (blk_cell BK296.out 2).trans rfl, (blk_cell BK296.out 3).trans rfl, (blk_cell BK296.out 4).trans rfl, (blk_cell BK257.out 0).trans rfl, (blk_cell BK257.out 1).trans rfl, (blk_cell BK257.out 2).trans rfl, (blk_cell BK257.out 3).trans rfl, (blk_cell BK257.out 4).trans rfl⟩ (fun hHeld => ?_)
        clear hK K
        refine nz_ 70 ?_
        refine pure_ (i := 4) (N := some 71) (v := ?_) (a' := ?_) ba12_5 rfl rfl (by kernel_rfl) (fun _ _ _ h => h) (Or.inl ⟨by rfl, ?_⟩) ?_ ?_
        rotate_left; · intro w'; go_simp; with_reducible rfl
        rotate_left; · simp only [Act.put, List.setIfInBounds_toArray, List.set_cons_zero, List.set_cons_succ, i64_w, i32_w]; rfl
        refine done_ (by kernel_rfl) ?_
        try go_wp2
        go_ret
        exact ⟨by first | rfl | (simp [errW_none, errW_some] <;> rfl) | (simp [*, errW_none, errW_some] <;> rfl), by repeat (first | (with_reducible first | exact HB.out | apply below_alloc | apply pw_below_drewN | apply below_drew1 | refine below_set ?_ GE257.out | refine below_set ?_ GE286.out | refine below_set ?_ GE296.out | refine below_set ?_ GE313.out) | exact HB.out)⟩

end Go.Proofs.Ytiikcfaodkiakaa.QFnExactNextLsa
