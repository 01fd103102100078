/- Contracts of functions that the law reaches: what each call returns and what it leaves in memory. Made by this session over the print of the kit. -/
import Derived.Test.YtiikcfaodkiakaaQFnExactAgeLsax0
import Derived.Test.YtiikcfaodkiakaaQFnExactAgeLsax1
import Derived.Test.YtiikcfaodkiakaaQFnExactAgeLsax3
import Derived.Test.YtiikcfaodkiakaaQFnExactAgeLsax7
import Derived.Test.YtiikcfaodkiakaaQFnExactAgeLsax11
namespace Go.Proofs.Ytiikcfaodkiakaa.QFnExactAgeLsa
open Go.RowKit Go.Proofs.YtiikcfaodkiakaaU.PrintWords Go.Proofs.YtiikcfaodkiakaaU.PrintLast Go.Proofs.YtiikcfaodkiakaaU.PrintMore
attribute [local go_sem] max2_int min2_int max_two min_two max_three min_three max_four min_four   -- for this text's walks alone
set_option linter.unusedVariables false
set_option linter.unusedSimpArgs false
def ba12_0 : Array Bool := #[false, false, false, false, false]
def ba12_1 : Array Bool := #[true, false, false, false, false]
def ba12_2 : Array Bool := #[true, true, false, false, false]
def ba12_3 : Array Bool := #[true, true, true, false, false]
def ba12_4 : Array Bool := #[true, true, true, true, false]
def ba12_5 : Array Bool := #[true, true, true, true, true]

/-! ### laws_FnExactAgeLsa: function 8 -/
mutual
def laws_FnExactAgeLsa.j0 : Nat → Int → Bool → Bool → Bool → Int → Int → Int → List (S85) → List (S89) → Int → Int → Int → List (S70) → List (S74) → Int → Int → Int → List (S70) → List (S74) → Int → Int → Int → List (S70) → List (S74) → Option (Bool)
 | 0, _, _, _, _, _, _, _, _, _, _, _, _, _, _, _, _, _, _, _, _, _, _, _, _ => none
 | k + 1, x1, x7, x10, x44, x289000, x289001, x289002, x289003, x289004, x310000, x310001, x310002, x310003, x310004, x320000, x320001, x320002, x320003, x320004, x331000, x331001, x331002, x331003, x331004 => if x44 = true then (some false) else ((laws_toLsa.f k x289000 x289001 x289002 x289003 x289004).bind fun bt332 => ((laws_eqLsa.f k x320000 x320001 x320002 x320003 x320004 bt332.1 bt332.2.1 bt332.2.2.1 bt332.2.2.2.1 bt332.2.2.2.2).bind fun t341 => (if t341 = true then ((laws_markLsa.f k x320000 x320001 x320002 x320003 x320004 1).bind fun bt342 => (if bt342.1 < 0 then (laws_FnExactAgeLsa.j1 k x1 x7 true x289000 x289001 x289002 x289003 x289004 x310000 x310001 x310002 x310003 x310004 x331000 x331001 x331002 x331003 x331004) else ((laws_eqLsa.f k x331000 x331001 x331002 x331003 x331004 x310000 x310001 x310002 x310003 x310004).bind fun t345 => (if t345 = true then (laws_FnExactAgeLsa.j1 k x1 x7 (x10 != x7) x289000 x289001 x289002 x289003 x289004 x310000 x310001 x310002 x310003 x310004 x331000 x331001 x331002 x331003 x331004) else (laws_FnExactAgeLsa.j1 k x1 x7 true x289000 x289001 x289002 x289003 x289004 x310000 x310001 x310002 x310003 x310004 x331000 x331001 x331002 x331003 x331004))))) else (some false))))
def laws_FnExactAgeLsa.j1 : Nat → Int → Bool → Bool → Int → Int → Int → List (S85) → List (S89) → Int → Int → Int → List (S70) → List (S74) → Int → Int → Int → List (S70) → List (S74) → Option (Bool)
 | 0, _, _, _, _, _, _, _, _, _, _, _, _, _, _, _, _, _, _ => none
 | k + 1, x1, x7, x65, x289000, x289001, x289002, x289003, x289004, x310000, x310001, x310002, x310003, x310004, x331000, x331001, x331002, x331003, x331004 => if x65 = true then (some false) else ((laws_markLsa.f k x331000 x331001 x331002 x331003 x331004 1).bind fun bt346 => ((laws_heldLsa.f k x331000 x331001 x331002 bt346.2.1 bt346.2.2 1).bind fun t349 => (if t349 < 0 then (some false) else (if t349 = bt346.1 then ((laws_toLsa.f k x289000 x289001 x289002 x289003 x289004).bind fun bt350 => ((impl_AgeLsa.f k bt350.1 bt350.2.1 bt350.2.2.1 bt350.2.2.2.1 bt350.2.2.2.2 x1).bind fun bt359 => ((laws_eqLsa.f k bt359.1 bt359.2.1 bt359.2.2.1 bt359.2.2.2.1 bt359.2.2.2.2.1 x310000 x310001 x310002 x310003 x310004).bind fun t370 => (if t370 = true then (laws_FnExactAgeLsa.j2 k bt346.1 (bt359.2.2.2.2.2 != x7) x331000 x331001 x331002 bt346.2.1 bt346.2.2) else (laws_FnExactAgeLsa.j2 k bt346.1 true x331000 x331001 x331002 bt346.2.1 bt346.2.2))))) else (some false)))))
def laws_FnExactAgeLsa.j2 : Nat → Int → Bool → Int → Int → Int → List (S70) → List (S74) → Option (Bool)
 | 0, _, _, _, _, _, _, _ => none
 | k + 1, x12, x92, x331000, x331001, x331002, x331003, x331004 => if x92 = true then (some false) else ((laws_heldLsa.f k x331000 x331001 x331002 x331003 x331004 1).bind fun t371 => (if t371 < 0 then (some false) else (if t371 = x12 then (some true) else (some false))))
end
def laws_FnExactAgeLsa.f (k : Nat) (a0_0 : Int) (a0_1 : Int) (a0_2 : Int) (l0_3 : List (S85)) (l0_4 : List (S89)) (a1 : Int) : Option (Bool) := (laws_szLsa.f a0_0 a0_1 a0_2 l0_3 l0_4 1048576).bind fun t289 => (if t289 < 0 then (some true) else ((laws_toLsa.f k a0_0 a0_1 a0_2 l0_3 l0_4).bind fun bt290 => ((spec_AgeLsa.f k bt290.1 bt290.2.1 bt290.2.2.1 bt290.2.2.2.1 bt290.2.2.2.2 a1).bind fun bt299 => ((laws_toLsa.f k a0_0 a0_1 a0_2 l0_3 l0_4).bind fun bt310 => ((impl_AgeLsa.f k bt310.1 bt310.2.1 bt310.2.2.1 bt310.2.2.2.1 bt310.2.2.2.2 a1).bind fun bt320 => ((laws_eqLsa.f k bt320.1 bt320.2.1 bt320.2.2.1 bt320.2.2.2.1 bt320.2.2.2.2.1 bt299.1 bt299.2.1 bt299.2.2.1 bt299.2.2.2.1 bt299.2.2.2.2.1).bind fun t331 => (if t331 = true then (laws_FnExactAgeLsa.j0 k a1 bt299.2.2.2.2.2 bt320.2.2.2.2.2 (bt320.2.2.2.2.2 != bt299.2.2.2.2.2) a0_0 a0_1 a0_2 l0_3 l0_4 bt299.1 bt299.2.1 bt299.2.2.1 bt299.2.2.2.1 bt299.2.2.2.2.1 bt310.1 bt310.2.1 bt310.2.2.1 bt310.2.2.2.1 bt310.2.2.2.2 bt320.1 bt320.2.1 bt320.2.2.1 bt320.2.2.2.1 bt320.2.2.2.2.1) else (laws_FnExactAgeLsa.j0 k a1 bt299.2.2.2.2.2 bt320.2.2.2.2.2 true a0_0 a0_1 a0_2 l0_3 l0_4 bt299.1 bt299.2.1 bt299.2.2.1 bt299.2.2.2.1 bt299.2.2.2.2.1 bt310.1 bt310.2.1 bt310.2.2.1 bt310.2.2.2.1 bt310.2.2.2.2 bt320.1 bt320.2.1 bt320.2.2.1 bt320.2.2.2.1 bt320.2.2.2.2.1))))))))
theorem laws_FnExactAgeLsa.mono_l : ∀ k, (∀ y0 y1 y2 y3 y4 y5 y6 y7 y8 y9 y10 y11 y12 y13 y14 y15 y16 y17 y18 y19 y20 y21 y22 y23, LeO (laws_FnExactAgeLsa.j0 k y0 y1 y2 y3 y4 y5 y6 y7 y8 y9 y10 y11 y12 y13 y14 y15 y16 y17 y18 y19 y20 y21 y22 y23) (laws_FnExactAgeLsa.j0 (k + 1) y0 y1 y2 y3 y4 y5 y6 y7 y8 y9 y10 y11 y12 y13 y14 y15 y16 y17 y18 y19 y20 y21 y22 y23)) ∧ (∀ y0 y1 y2 y3 y4 y5 y6 y7 y8 y9 y10 y11 y12 y13 y14 y15 y16 y17, LeO (laws_FnExactAgeLsa.j1 k y0 y1 y2 y3 y4 y5 y6 y7 y8 y9 y10 y11 y12 y13 y14 y15 y16 y17) (laws_FnExactAgeLsa.j1 (k + 1) y0 y1 y2 y3 y4 y5 y6 y7 y8 y9 y10 y11 y12 y13 y14 y15 y16 y17)) ∧ (∀ y0 y1 y2 y3 y4 y5 y6, LeO (laws_FnExactAgeLsa.j2 k y0 y1 y2 y3 y4 y5 y6) (laws_FnExactAgeLsa.j2 (k + 1) y0 y1 y2 y3 y4 y5 y6))
 | 0 => ⟨fun _ _ _ _ _ _ _ _ _ _ _ _ _ _ _ _ _ _ _ _ _ _ _ _ r h => by simp [laws_FnExactAgeLsa.j0] at h, fun _ _ _ _ _ _ _ _ _ _ _ _ _ _ _ _ _ _ r h => by simp [laws_FnExactAgeLsa.j1] at h, fun _ _ _ _ _ _ _ r h => by simp [laws_FnExactAgeLsa.j2] at h⟩
 | k + 1 => by
  obtain ⟨ih0, ih1, ih2⟩ := laws_FnExactAgeLsa.mono_l k
  refine ⟨?_, ?_, ?_⟩
  ·intro y0 y1 y2 y3 y4 y5 y6 y7 y8 y9 y10 y11 y12 y13 y14 y15 y16 y17 y18 y19 y20 y21 y22 y23
   unfold laws_FnExactAgeLsa.j0
   repeat' first
   | (with_reducible exact ih0 _ _ _ _ _ _ _ _ _ _ _ _ _ _ _ _ _ _ _ _ _ _ _ _)
   | (with_reducible exact ih1 _ _ _ _ _ _ _ _ _ _ _ _ _ _ _ _ _ _)
   | (with_reducible exact ih2 _ _ _ _ _ _ _)
   | (with_reducible exact impl_AgeLsa.mono _ _ _ _ _ _ _)
   | (with_reducible exact laws_eqLsa.mono _ _ _ _ _ _ _ _ _ _ _)
   | (with_reducible exact laws_heldLsa.mono _ _ _ _ _ _ _)
   | (with_reducible exact laws_markLsa.mono _ _ _ _ _ _ _)
   | (with_reducible exact laws_toLsa.mono _ _ _ _ _ _)
   | (with_reducible exact spec_AgeLsa.mono _ _ _ _ _ _ _)
   | (with_reducible exact LeO.refl _)
   | (with_reducible exact LeO.none _)
   | (with_reducible refine LeO.ite ?_ ?_)
   | (with_reducible refine LeO.bind ?_ (fun _ => ?_))
   | exact ih0 _ _ _ _ _ _ _ _ _ _ _ _ _ _ _ _ _ _ _ _ _ _ _ _
   | exact ih1 _ _ _ _ _ _ _ _ _ _ _ _ _ _ _ _ _ _
   | exact ih2 _ _ _ _ _ _ _
   | exact impl_AgeLsa.mono _ _ _ _ _ _ _
   | exact laws_eqLsa.mono _ _ _ _ _ _ _ _ _ _ _
   | exact laws_heldLsa.mono _ _ _ _ _ _ _
   | exact laws_markLsa.mono _ _ _ _ _ _ _
   | exact laws_toLsa.mono _ _ _ _ _ _
   | exact spec_AgeLsa.mono _ _ _ _ _ _ _
   | exact LeO.none _
   | refine LeO.ite ?_ ?_
   | refine LeO.bind ?_ (fun _ => ?_)
  ·intro y0 y1 y2 y3 y4 y5 y6 y7 y8 y9 y10 y11 y12 y13 y14 y15 y16 y17
   unfold laws_FnExactAgeLsa.j1
   repeat' first
   | (with_reducible exact ih0 _ _ _ _ _ _ _ _ _ _ _ _ _ _ _ _ _ _ _ _ _ _ _ _)
   | (with_reducible exact ih1 _ _ _ _ _ _ _ _ _ _ _ _ _ _ _ _ _ _)
   | (with_reducible exact ih2 _ _ _ _ _ _ _)
   | (with_reducible exact impl_AgeLsa.mono _ _ _ _ _ _ _)
   | (with_reducible exact laws_eqLsa.mono _ _ _ _ _ _ _ _ _ _ _)
   | (with_reducible exact laws_heldLsa.mono _ _ _ _ _ _ _)
   | (with_reducible exact laws_markLsa.mono _ _ _ _ _ _ _)
   | (with_reducible exact laws_toLsa.mono _ _ _ _ _ _)
   | (with_reducible exact spec_AgeLsa.mono _ _ _ _ _ _ _)
   | (with_reducible exact LeO.refl _)
   | (with_reducible exact LeO.none _)
   | (with_reducible refine LeO.ite ?_ ?_)
   | (with_reducible refine LeO.bind ?_ (fun _ => ?_))
   | exact ih0 _ _ _ _ _ _ _ _ _ _ _ _ _ _ _ _ _ _ _ _ _ _ _ _
   | exact ih1 _ _ _ _ _ _ _ _ _ _ _ _ _ _ _ _ _ _
   | exact ih2 _ _ _ _ _ _ _
   | exact impl_AgeLsa.mono _ _ _ _ _ _ _
   | exact laws_eqLsa.mono _ _ _ _ _ _ _ _ _ _ _
   | exact laws_heldLsa.mono _ _ _ _ _ _ _
   | exact laws_markLsa.mono _ _ _ _ _ _ _
   | exact laws_toLsa.mono _ _ _ _ _ _
   | exact spec_AgeLsa.mono _ _ _ _ _ _ _
   | exact LeO.none _
   | refine LeO.ite ?_ ?_
   | refine LeO.bind ?_ (fun _ => ?_)
  ·intro y0 y1 y2 y3 y4 y5 y6
   unfold laws_FnExactAgeLsa.j2
   repeat' first
   | (with_reducible exact ih0 _ _ _ _ _ _ _ _ _ _ _ _ _ _ _ _ _ _ _ _ _ _ _ _)
   | (with_reducible exact ih1 _ _ _ _ _ _ _ _ _ _ _ _ _ _ _ _ _ _)
   | (with_reducible exact ih2 _ _ _ _ _ _ _)
   | (with_reducible exact impl_AgeLsa.mono _ _ _ _ _ _ _)
   | (with_reducible exact laws_eqLsa.mono _ _ _ _ _ _ _ _ _ _ _)
   | (with_reducible exact laws_heldLsa.mono _ _ _ _ _ _ _)
   | (with_reducible exact laws_markLsa.mono _ _ _ _ _ _ _)
   | (with_reducible exact laws_toLsa.mono _ _ _ _ _ _)
   | (with_reducible exact spec_AgeLsa.mono _ _ _ _ _ _ _)
   | (with_reducible exact LeO.refl _)
   | (with_reducible exact LeO.none _)
   | (with_reducible refine LeO.ite ?_ ?_)
   | (with_reducible refine LeO.bind ?_ (fun _ => ?_))
   | exact ih0 _ _ _ _ _ _ _ _ _ _ _ _ _ _ _ _ _ _ _ _ _ _ _ _
   | exact ih1 _ _ _ _ _ _ _ _ _ _ _ _ _ _ _ _ _ _
   | exact ih2 _ _ _ _ _ _ _
   | exact impl_AgeLsa.mono _ _ _ _ _ _ _
   | exact laws_eqLsa.mono _ _ _ _ _ _ _ _ _ _ _
   | exact laws_heldLsa.mono _ _ _ _ _ _ _
   | exact laws_markLsa.mono _ _ _ _ _ _ _
   | exact laws_toLsa.mono _ _ _ _ _ _
   | exact spec_AgeLsa.mono _ _ _ _ _ _ _
   | exact LeO.none _
   | refine LeO.ite ?_ ?_
   | refine LeO.bind ?_ (fun _ => ?_)
theorem laws_FnExactAgeLsa.mono : ∀ a0 a1 a2 a3 a4 a5 k, LeO (laws_FnExactAgeLsa.f k a0 a1 a2 a3 a4 a5) (laws_FnExactAgeLsa.f (k + 1) a0 a1 a2 a3 a4 a5) := by
 intro a0 a1 a2 a3 a4 a5 k
 obtain ⟨ih0, ih1, ih2⟩ := laws_FnExactAgeLsa.mono_l k
 unfold laws_FnExactAgeLsa.f
 repeat' first
   | (with_reducible exact ih0 _ _ _ _ _ _ _ _ _ _ _ _ _ _ _ _ _ _ _ _ _ _ _ _)
   | (with_reducible exact ih1 _ _ _ _ _ _ _ _ _ _ _ _ _ _ _ _ _ _)
   | (with_reducible exact ih2 _ _ _ _ _ _ _)
   | (with_reducible exact impl_AgeLsa.mono _ _ _ _ _ _ _)
   | (with_reducible exact laws_eqLsa.mono _ _ _ _ _ _ _ _ _ _ _)
   | (with_reducible exact laws_heldLsa.mono _ _ _ _ _ _ _)
   | (with_reducible exact laws_markLsa.mono _ _ _ _ _ _ _)
   | (with_reducible exact laws_toLsa.mono _ _ _ _ _ _)
   | (with_reducible exact spec_AgeLsa.mono _ _ _ _ _ _ _)
   | (with_reducible exact LeO.refl _)
   | (with_reducible exact LeO.none _)
   | (with_reducible refine LeO.ite ?_ ?_)
   | (with_reducible refine LeO.bind ?_ (fun _ => ?_))
   | exact ih0 _ _ _ _ _ _ _ _ _ _ _ _ _ _ _ _ _ _ _ _ _ _ _ _
   | exact ih1 _ _ _ _ _ _ _ _ _ _ _ _ _ _ _ _ _ _
   | exact ih2 _ _ _ _ _ _ _
   | exact impl_AgeLsa.mono _ _ _ _ _ _ _
   | exact laws_eqLsa.mono _ _ _ _ _ _ _ _ _ _ _
   | exact laws_heldLsa.mono _ _ _ _ _ _ _
   | exact laws_markLsa.mono _ _ _ _ _ _ _
   | exact laws_toLsa.mono _ _ _ _ _ _
   | exact spec_AgeLsa.mono _ _ _ _ _ _ _
   | exact LeO.none _
   | refine LeO.ite ?_ ?_
   | refine LeO.bind ?_ (fun _ => ?_)
set_option maxHeartbeats 8000000 in
set_option maxRecDepth 100000 in
theorem laws_FnExactAgeLsa.calls (k : Nat) (a0_0 : Int) (a0_1 : Int) (a0_2 : Int) (A0_3 : Option Addr) (c0_3 : Nat) (l0_3 : List (S85)) (A0_4 : Option Addr) (c0_4 : Nat) (l0_4 : List (S89)) (a1 : Int) (r : Bool) (w : World) (hr0_3 : Kd.C k85 w A0_3 l0_3.length l0_3) (hc0_3 : l0_3.length ≤ c0_3) (hr0_4 : Kd.C k89 w A0_4 l0_4.length l0_4) (hc0_4 : l0_4.length ≤ c0_4) (h : laws_FnExactAgeLsa.f k a0_0 a0_1 a0_2 l0_3 l0_4 a1 = some r) :
  Calls Try.prog 8 #[.agg #[.int .i64 a0_0, .int .i64 a0_1, .int .i64 a0_2, .slice A0_3 l0_3.length c0_3, .slice A0_4 l0_4.length c0_4], .int .i64 a1] w fun e w' => e = .returned (.bool r) ∧ Below w.heap.size w w' := by
 have hu25 := Try.underlying25
 have hu31 := Try.underlying31
 have HR0_3 := Aside0.mk hr0_3
 have HC0_3 := Aside0.mk hc0_3
 clear hr0_3 hc0_3
 have HR0_4 := Aside0.mk hr0_4
 have HC0_4 := Aside0.mk hc0_4
 clear hr0_4 hc0_4
 have HB := Aside0.mk (Below.refl w.heap.size w)
 have H : ((laws_szLsa.f a0_0 a0_1 a0_2 l0_3 l0_4 1048576).bind fun t289 => (if t289 < 0 then (some true) else ((laws_toLsa.f k a0_0 a0_1 a0_2 l0_3 l0_4).bind fun bt290 => ((spec_AgeLsa.f k bt290.1 bt290.2.1 bt290.2.2.1 bt290.2.2.2.1 bt290.2.2.2.2 a1).bind fun bt299 => ((laws_toLsa.f k a0_0 a0_1 a0_2 l0_3 l0_4).bind fun bt310 => ((impl_AgeLsa.f k bt310.1 bt310.2.1 bt310.2.2.1 bt310.2.2.2.1 bt310.2.2.2.2 a1).bind fun bt320 => ((laws_eqLsa.f k bt320.1 bt320.2.1 bt320.2.2.1 bt320.2.2.2.1 bt320.2.2.2.2.1 bt299.1 bt299.2.1 bt299.2.2.1 bt299.2.2.2.1 bt299.2.2.2.2.1).bind fun t331 => (if t331 = true then (laws_FnExactAgeLsa.j0 k a1 bt299.2.2.2.2.2 bt320.2.2.2.2.2 (bt320.2.2.2.2.2 != bt299.2.2.2.2.2) a0_0 a0_1 a0_2 l0_3 l0_4 bt299.1 bt299.2.1 bt299.2.2.1 bt299.2.2.2.1 bt299.2.2.2.2.1 bt310.1 bt310.2.1 bt310.2.2.1 bt310.2.2.2.1 bt310.2.2.2.2 bt320.1 bt320.2.1 bt320.2.2.1 bt320.2.2.2.1 bt320.2.2.2.2.1) else (laws_FnExactAgeLsa.j0 k a1 bt299.2.2.2.2.2 bt320.2.2.2.2.2 true a0_0 a0_1 a0_2 l0_3 l0_4 bt299.1 bt299.2.1 bt299.2.2.1 bt299.2.2.2.1 bt299.2.2.2.2.1 bt310.1 bt310.2.1 bt310.2.2.1 bt310.2.2.2.1 bt310.2.2.2.2 bt320.1 bt320.2.1 bt320.2.2.1 bt320.2.2.2.1 bt320.2.2.2.2.1))))))))) = some r := h
 clear h
 replace H := Option.bind_eq_some_iff.mp H
 obtain ⟨t289, A30, H⟩ := H
 have A3 := Aside0.mk A30
 clear A30
 by_cases c4 : t289 < 0
 ·rw [if_pos c4] at H
  have c4b0 : decide (t289 < 0) = true := decide_eq_true c4
  clear c4
  obtain rfl := Option.some.inj H
  go_enter Try.func8, Try.ntmps8
  go_wp2_with (first | ((with_reducible refine gate_dst (N := 2) rfl ?_); refine box_event ?hg (N := 2) ?hd (cs := #[.int .i64 a0_0, .int .i64 a0_1, .int .i64 a0_2, .slice A0_3 l0_3.length c0_3, .slice A0_4 l0_4.length c0_4]) (t := 25) ?hr ?_; (case hd => rfl); (case hg => rfl); (case hr => first | (go_simp; done) | (go_simp; rfl)); intro gb288 hg w5 hbox hb; have BK288 := Aside0.mk hbox; have GW288 := ge_ HB hg; have GE288 := ge_ HB hg; replace HB := Aside0.mk (bt_ HB hb); clear hb hbox hg; have hcz6_0 := cz_ BK288 0 (.int .i64 a0_0); have hcz6_1 := cz_ BK288 1 (.int .i64 a0_1); have hcz6_2 := cz_ BK288 2 (.int .i64 a0_2); have hcz6_3 := cz_ BK288 3 (.slice A0_3 l0_3.length c0_3); have hcz6_4 := cz_ BK288 4 (.slice A0_4 l0_4.length c0_4); have hfz6_0 := blk_frozen BK288.out 0; have hfz6_1 := blk_frozen BK288.out 1; have hfz6_2 := blk_frozen BK288.out 2; have hfz6_3 := blk_frozen BK288.out 3; have hfz6_4 := blk_frozen BK288.out 4) | ((with_reducible refine gate_callee (f := 13) rfl ?_); refine gl_ (some 18) Try.func13 #[.agg #[.int .i64 a0_0, .int .i64 a0_1, .int .i64 a0_2, .slice A0_3 l0_3.length c0_3, .slice A0_4 l0_4.length c0_4], .int .i64 1048576] ?_; (with_reducible refine (laws_szLsa.calls a0_0 a0_1 a0_2 _ _ l0_3 _ _ l0_4 1048576 t289 _ ?side1 ?side2 ?side3 ?side4 A3.out).mono ?_); (case side1 => exact cb_ HR0_3 HB); (case side2 => exact HC0_3.out); (case side3 => exact cb_ HR0_4 HB); (case side4 => exact HC0_4.out); rintro e w7 ⟨rfl, hb⟩; refine ⟨_, rfl, ?_⟩; replace BK288 := Aside0.mk (bb_ BK288 hb); replace HB := Aside0.mk (bt_ HB hb); (try clear hb); (try clear hb2); (try clear hk); (try clear hi)))
  go_ret
  exact ⟨by first | rfl | (simp [errW_none, errW_some] <;> rfl) | (simp [*, errW_none, errW_some] <;> rfl), by repeat (first | (with_reducible first | exact HB.out | apply below_alloc | apply pw_below_drewN | apply below_drew1 | refine below_set ?_ GE288.out) | exact HB.out)⟩
 ·rw [if_neg c4] at H
  have c4b0 : decide (t289 < 0) = false := decide_eq_false c4
  clear c4
  replace H := Option.bind_eq_some_iff.mp H
  obtain ⟨⟨t290, t291, t292, t293, t296⟩, A80, H⟩ := H
  have A8 := Aside0.mk A80
  clear A80
  replace H := Option.bind_eq_some_iff.mp H
  obtain ⟨⟨t299, t300, t301, t302, t305, t308⟩, A90, H⟩ := H
  have A9 := Aside0.mk A90
  clear A90
  replace H := Option.bind_eq_some_iff.mp H
  obtain ⟨⟨t310, t311, t312, t313, t316⟩, A100, H⟩ := H
  have A10 := Aside0.mk A100
  clear A100
  replace H := Option.bind_eq_some_iff.mp H
  obtain ⟨⟨t320, t321, t322, t323, t326, t329⟩, A110, H⟩ := H
  have A11 := Aside0.mk A110
  clear A110
  have HC12 := Aside0.mk H
  clear H
  go_enter Try.func8, Try.ntmps8
  go_upto_region 8 with (first | ((with_reducible refine gate_dst (N := 2) rfl ?_); refine box_event ?hg (N := 2) ?hd (cs := #[.int .i64 a0_0, .int .i64 a0_1, .int .i64 a0_2, .slice A0_3 l0_3.length c0_3, .slice A0_4 l0_4.length c0_4]) (t := 25) ?hr ?_; (case hd => rfl); (case hg => rfl); (case hr => first | (go_simp; done) | (go_simp; rfl)); intro gb288 hg w13 hbox hb; have BK288 := Aside0.mk hbox; have GW288 := ge_ HB hg; have GE288 := ge_ HB hg; replace HB := Aside0.mk (bt_ HB hb); clear hb hbox hg; have hcz14_0 := cz_ BK288 0 (.int .i64 a0_0); have hcz14_1 := cz_ BK288 1 (.int .i64 a0_1); have hcz14_2 := cz_ BK288 2 (.int .i64 a0_2); have hcz14_3 := cz_ BK288 3 (.slice A0_3 l0_3.length c0_3); have hcz14_4 := cz_ BK288 4 (.slice A0_4 l0_4.length c0_4); have hfz14_0 := blk_frozen BK288.out 0; have hfz14_1 := blk_frozen BK288.out 1; have hfz14_2 := blk_frozen BK288.out 2; have hfz14_3 := blk_frozen BK288.out 3; have hfz14_4 := blk_frozen BK288.out 4) | ((with_reducible refine gate_callee (f := 13) rfl ?_); refine gl_ (some 18) Try.func13 #[.agg #[.int .i64 a0_0, .int .i64 a0_1, .int .i64 a0_2, .slice A0_3 l0_3.length c0_3, .slice A0_4 l0_4.length c0_4], .int .i64 1048576] ?_; (with_reducible refine (laws_szLsa.calls a0_0 a0_1 a0_2 _ _ l0_3 _ _ l0_4 1048576 t289 _ ?side1 ?side2 ?side3 ?side4 A3.out).mono ?_); (case side1 => exact cb_ HR0_3 HB); (case side2 => exact HC0_3.out); (case side3 => exact cb_ HR0_4 HB); (case side4 => exact HC0_4.out); rintro e w15 ⟨rfl, hb⟩; refine ⟨_, rfl, ?_⟩; replace BK288 := Aside0.mk (bb_ BK288 hb); replace HB := Aside0.mk (bt_ HB hb); (try clear hb); (try clear hb2); (try clear hk); (try clear hi); have hcz16_0 := cz_ BK288 0 (.int .i64 a0_0); have hcz16_1 := cz_ BK288 1 (.int .i64 a0_1); have hcz16_2 := cz_ BK288 2 (.int .i64 a0_2); have hcz16_3 := cz_ BK288 3 (.slice A0_3 l0_3.length c0_3); have hcz16_4 := cz_ BK288 4 (.slice A0_4 l0_4.length c0_4); have hfz16_0 := blk_frozen BK288.out 0; have hfz16_1 := blk_frozen BK288.out 1; have hfz16_2 := blk_frozen BK288.out 2; have hfz16_3 := blk_frozen BK288.out 3; have hfz16_4 := blk_frozen BK288.out 4) | ((with_reducible refine gate_callee (f := 15) rfl ?_); refine gl_ (some 23) Try.func15 #[.agg #[.int .i64 a0_0, .int .i64 a0_1, .int .i64 a0_2, .slice A0_3 l0_3.length c0_3, .slice A0_4 l0_4.length c0_4]] ?_; (with_reducible refine (laws_toLsa.calls k a0_0 a0_1 a0_2 _ _ l0_3 _ _ l0_4 t290 t291 t292 t293 t296 _ ?side1 ?side2 ?side3 ?side4 A8.out).mono ?_); (case side1 => exact cb_ HR0_3 HB); (case side2 => exact HC0_3.out); (case side3 => exact cb_ HR0_4 HB); (case side4 => exact HC0_4.out); rintro e w17 ⟨v294, v297, rfl, ho0, ho1, hb⟩; refine ⟨_, rfl, ?_⟩; have HO295 := Aside0.mk (Kd.R_lower ho0 (bz_ HB)); have HO298 := Aside0.mk (Kd.R_lower ho1 (bz_ HB)); replace BK288 := Aside0.mk (bb_ BK288 hb); replace HB := Aside0.mk (bt_ HB hb); (try clear hb); (try clear hb2); (try clear hk); (try clear hi); (try clear ho0); (try clear ho1); obtain ⟨Ao18, co18, eo18⟩ := Kd.R_slice HO295.out; subst eo18; obtain ⟨Ao19, co19, eo19⟩ := Kd.R_slice HO298.out; subst eo19) | ((with_reducible refine gate_callee (f := 39) rfl ?_); refine gl_ (some 25) Try.func39 #[.agg #[.int .i64 t290, .int .i64 t291, .int .i64 t292, .slice Ao18 t293.length co18, .slice Ao19 t296.length co19], .int .i64 a1] ?_; (with_reducible refine (spec_AgeLsa.calls k t290 t291 t292 _ _ t293 _ _ t296 a1 t299 t300 t301 t302 t305 t308 _ ?side1 ?side2 ?side3 ?side4 A9.out).mono ?_); (case side1 => exact rc_ HO295); (case side2 => exact (Kd.R_reads' HO295.out).2.1); (case side3 => exact rc_ HO298); (case side4 => exact (Kd.R_reads' HO298.out).2.1); rintro e w20 ⟨v303, v306, rfl, ho0, ho1, hb⟩; refine ⟨_, rfl, ?_⟩; have HO304 := Aside0.mk (Kd.R_lower (Kd.R_new' ho0 (Kd.R_lt (hd_ HO295))) (bz_ HB)); have HO307 := Aside0.mk (Kd.R_lower (Kd.R_new' ho1 (Kd.R_lt (hd_ HO298))) (bz_ HB)); replace HO295 := Aside0.mk (Kd.R_elder' (hd_ HO295) (Kd.R_base ho0) hb); replace HO298 := Aside0.mk (Kd.R_elder' (hd_ HO298) (Kd.R_base ho1) hb); replace BK288 := Aside0.mk (bb_ BK288 hb); replace HB := Aside0.mk (bt_ HB hb); (try clear hb); (try clear hb2); (try clear hk); (try clear hi); (try clear ho0); (try clear ho1)) | ((with_reducible refine gate_dst (N := 6) rfl ?_); refine box_event ?hg (N := 6) ?hd (cs := #[.int .i64 0, .int .i64 0, .int .i64 0, .slice none 0 0, .slice none 0 0]) (t := 31) ?hr ?_; (case hd => rfl); (case hg => rfl); (case hr => first | (go_simp; done) | (go_simp; rfl)); intro gb309 hg w21 hbox hb; have BK309 := Aside0.mk hbox; have GW309 := ge_ HB hg; have GE309 := ge_ HB hg; have NB288_309 := nl_ BK288 hg; have NB309_288 := ng_ BK288 hg; replace HO295 := rb_ HO295 hb; replace HO298 := rb_ HO298 hb; replace HO304 := rb_ HO304 hb; replace HO307 := rb_ HO307 hb; replace HB := Aside0.mk (bt_ HB hb); replace BK288 := Aside0.mk (bb_ BK288 hb); clear hb hbox hg; have hnb22 := NB309_288.out; have hnc22 := NB288_309.out; have hcz23_0 := cz_ BK309 0 (.int .i64 0); have hcz23_1 := cz_ BK309 1 (.int .i64 0); have hcz23_2 := cz_ BK309 2 (.int .i64 0); have hcz23_3 := cz_ BK309 3 (.slice none 0 0); have hcz23_4 := cz_ BK309 4 (.slice none 0 0); have hfz23_0 := blk_frozen BK309.out 0; have hfz23_1 := blk_frozen BK309.out 1; have hfz23_2 := blk_frozen BK309.out 2; have hfz23_3 := blk_frozen BK309.out 3; have hfz23_4 := blk_frozen BK309.out 4; obtain ⟨Ao24, co24, eo24⟩ := Kd.R_slice HO304.out; subst eo24; obtain ⟨Ao25, co25, eo25⟩ := Kd.R_slice HO307.out; subst eo25; have hcz26_0 := cz_ BK288 0 (.int .i64 a0_0); have hcz26_1 := cz_ BK288 1 (.int .i64 a0_1); have hcz26_2 := cz_ BK288 2 (.int .i64 a0_2); have hcz26_3 := cz_ BK288 3 (.slice A0_3 l0_3.length c0_3); have hcz26_4 := cz_ BK288 4 (.slice A0_4 l0_4.length c0_4); have hfz26_0 := blk_frozen BK288.out 0; have hfz26_1 := blk_frozen BK288.out 1; have hfz26_2 := blk_frozen BK288.out 2; have hfz26_3 := blk_frozen BK288.out 3; have hfz26_4 := blk_frozen BK288.out 4) | ((with_reducible refine gate_callee (f := 15) rfl ?_); refine gl_ (some 29) Try.func15 #[.agg #[.int .i64 a0_0, .int .i64 a0_1, .int .i64 a0_2, .slice A0_3 l0_3.length c0_3, .slice A0_4 l0_4.length c0_4]] ?_; (with_reducible refine (laws_toLsa.calls k a0_0 a0_1 a0_2 _ _ l0_3 _ _ l0_4 t310 t311 t312 t313 t316 _ ?side1 ?side2 ?side3 ?side4 A10.out).mono ?_); (case side1 => exact Kd.C_below HR0_3.out (by repeat (first | (with_reducible first | exact HB.out | apply below_alloc | apply pw_below_drewN | apply below_drew1 | refine below_set ?_ GE288.out | refine below_set ?_ GE309.out) | exact HB.out))); (case side2 => exact HC0_3.out); (case side3 => exact Kd.C_below HR0_4.out (by repeat (first | (with_reducible first | exact HB.out | apply below_alloc | apply pw_below_drewN | apply below_drew1 | refine below_set ?_ GE288.out | refine below_set ?_ GE309.out) | exact HB.out))); (case side4 => exact HC0_4.out); rintro e w27 ⟨v314, v317, rfl, ho0, ho1, hb⟩; refine ⟨_, rfl, ?_⟩; have HO315 := Aside0.mk (Kd.R_lower (Kd.R_new' (Kd.R_new' ho0 (Kd.R_lt (hs_ HO295 BK309))) (Kd.R_lt (hs_ HO304 BK309))) (bz_ HB)); have HO318 := Aside0.mk (Kd.R_lower (Kd.R_new' (Kd.R_new' ho1 (Kd.R_lt (hs_ HO298 BK309))) (Kd.R_lt (hs_ HO307 BK309))) (bz_ HB)); replace HO295 := Aside0.mk (Kd.R_elder' (hs_ HO295 BK309) (Kd.R_base ho0) hb); replace HO304 := Aside0.mk (Kd.R_elder' (hs_ HO304 BK309) (Kd.R_base ho0) hb); replace HO298 := Aside0.mk (Kd.R_elder' (hs_ HO298 BK309) (Kd.R_base ho1) hb); replace HO307 := Aside0.mk (Kd.R_elder' (hs_ HO307 BK309) (Kd.R_base ho1) hb); replace BK288 := bf_ BK288 NB288_309 hb; replace BK309 := Aside0.mk (blk_below (g := gb309) (o := .cells #[.int .i64 t299, .int .i64 t300, .int .i64 t301, .slice Ao24 t302.length co24, .slice Ao25 t305.length co25] 31 (0, 0)) (by (with_reducible repeat (first | refine blk_drewN ?_ _ | refine blk_drew ?_ | refine blk_alloc ?_ _)); refine blk_put (cs := #[.int .i64 t299, .int .i64 t300, .int .i64 t301, .slice Ao24 t302.length co24, .slice none 0 0]) ?_ 4 _ rfl; (with_reducible repeat (first | refine blk_drewN ?_ _ | refine blk_drew ?_ | refine blk_alloc ?_ _)); refine blk_put (cs := #[.int .i64 t299, .int .i64 t300, .int .i64 t301, .slice none 0 0, .slice none 0 0]) ?_ 3 _ rfl; (with_reducible repeat (first | refine blk_drewN ?_ _ | refine blk_drew ?_ | refine blk_alloc ?_ _)); refine blk_put (cs := #[.int .i64 t299, .int .i64 t300, .int .i64 0, .slice none 0 0, .slice none 0 0]) ?_ 2 _ rfl; (with_reducible repeat (first | refine blk_drewN ?_ _ | refine blk_drew ?_ | refine blk_alloc ?_ _)); refine blk_put (cs := #[.int .i64 t299, .int .i64 0, .int .i64 0, .slice none 0 0, .slice none 0 0]) ?_ 1 _ rfl; (with_reducible repeat (first | refine blk_drewN ?_ _ | refine blk_drew ?_ | refine blk_alloc ?_ _)); refine blk_put (cs := #[.int .i64 0, .int .i64 0, .int .i64 0, .slice none 0 0, .slice none 0 0]) ?_ 0 _ rfl; (with_reducible repeat (first | refine blk_drewN ?_ _ | refine blk_drew ?_ | refine blk_alloc ?_ _)); exact BK309.out) hb); replace HB := Aside0.mk (bt_ HB hb); (try clear hb); (try clear hb2); (try clear hk); (try clear hi); (try clear ho0); (try clear ho1)) | ((with_reducible refine gate_dst (N := 8) rfl ?_); refine box_event ?hg (N := 8) ?hd (cs := #[.int .i64 0, .int .i64 0, .int .i64 0, .slice none 0 0, .slice none 0 0]) (t := 31) ?hr ?_; (case hd => rfl); (case hg => rfl); (case hr => first | (go_simp; done) | (go_simp; rfl)); intro gb319 hg w28 hbox hb; have BK319 := Aside0.mk hbox; have GW319 := ge_ HB hg; have GE319 := ge_ HB hg; have NB288_319 := nl_ BK288 hg; have NB319_288 := ng_ BK288 hg; have NB309_319 := nl_ BK309 hg; have NB319_309 := ng_ BK309 hg; replace HO295 := rb_ HO295 hb; replace HO298 := rb_ HO298 hb; replace HO304 := rb_ HO304 hb; replace HO307 := rb_ HO307 hb; replace HO315 := rb_ HO315 hb; replace HO318 := rb_ HO318 hb; replace HB := Aside0.mk (bt_ HB hb); replace BK288 := Aside0.mk (bb_ BK288 hb); replace BK309 := Aside0.mk (bb_ BK309 hb); clear hb hbox hg; have hnb29 := NB319_288.out; have hnc29 := NB288_319.out; have hnb30 := NB319_309.out; have hnc30 := NB309_319.out; have hcz31_0 := cz_ BK319 0 (.int .i64 0); have hcz31_1 := cz_ BK319 1 (.int .i64 0); have hcz31_2 := cz_ BK319 2 (.int .i64 0); have hcz31_3 := cz_ BK319 3 (.slice none 0 0); have hcz31_4 := cz_ BK319 4 (.slice none 0 0); have hfz31_0 := blk_frozen BK319.out 0; have hfz31_1 := blk_frozen BK319.out 1; have hfz31_2 := blk_frozen BK319.out 2; have hfz31_3 := blk_frozen BK319.out 3; have hfz31_4 := blk_frozen BK319.out 4; obtain ⟨Ao32, co32, eo32⟩ := Kd.R_slice HO315.out; subst eo32; obtain ⟨Ao33, co33, eo33⟩ := Kd.R_slice HO318.out; subst eo33) | ((with_reducible refine gate_callee (f := 40) rfl ?_); refine gl_ (some 33) Try.func40 #[.agg #[.int .i64 t310, .int .i64 t311, .int .i64 t312, .slice Ao32 t313.length co32, .slice Ao33 t316.length co33], .int .i64 a1] ?_; (with_reducible refine (impl_AgeLsa.calls k t310 t311 t312 _ _ t313 _ _ t316 a1 t320 t321 t322 t323 t326 t329 _ ?side1 ?side2 ?side3 ?side4 A11.out).mono ?_); (case side1 => refine (Kd.R_reads' (e := 70) (base := w.heap.size) (ok := fun k_ => ((True ∧ some k_ ≠ (.slice Ao18 t293.length co18 : Value).ownBlock) ∧ some k_ ≠ (.slice Ao24 t302.length co24 : Value).ownBlock)) (n := t313.length) (c := co32) ?_).2.2; exact (hs_ HO315 BK319)); (case side2 => exact (Kd.R_reads' HO315.out).2.1); (case side3 => refine (Kd.R_reads' (e := 74) (base := w.heap.size) (ok := fun k_ => ((True ∧ some k_ ≠ (.slice Ao19 t296.length co19 : Value).ownBlock) ∧ some k_ ≠ (.slice Ao25 t305.length co25 : Value).ownBlock)) (n := t316.length) (c := co33) ?_).2.2; exact (hs_ HO318 BK319)); (case side4 => exact (Kd.R_reads' HO318.out).2.1); rintro e w34 ⟨v324, v327, rfl, ho0, ho1, hb⟩; refine ⟨_, rfl, ?_⟩; have HO325 := Aside0.mk (Kd.R_lower (Kd.R_new' (Kd.R_new' (Kd.R_new' ho0 (Kd.R_lt (hs_ HO295 BK319))) (Kd.R_lt (hs_ HO304 BK319))) (Kd.R_lt (hs_ HO315 BK319))) (bz_ HB)); have HO328 := Aside0.mk (Kd.R_lower (Kd.R_new' (Kd.R_new' (Kd.R_new' ho1 (Kd.R_lt (hs_ HO298 BK319))) (Kd.R_lt (hs_ HO307 BK319))) (Kd.R_lt (hs_ HO318 BK319))) (bz_ HB)); replace HO295 := Aside0.mk (Kd.R_elder' (hs_ HO295 BK319) (Kd.R_base ho0) hb); replace HO304 := Aside0.mk (Kd.R_elder' (hs_ HO304 BK319) (Kd.R_base ho0) hb); replace HO315 := Aside0.mk (Kd.R_elder' (hs_ HO315 BK319) (Kd.R_base ho0) hb); replace HO298 := Aside0.mk (Kd.R_elder' (hs_ HO298 BK319) (Kd.R_base ho1) hb); replace HO307 := Aside0.mk (Kd.R_elder' (hs_ HO307 BK319) (Kd.R_base ho1) hb); replace HO318 := Aside0.mk (Kd.R_elder' (hs_ HO318 BK319) (Kd.R_base ho1) hb); replace BK288 := bf_ BK288 NB288_319 hb; replace BK309 := bf_ BK309 NB309_319 hb; replace BK319 := Aside0.mk (blk_below (g := gb319) (o := .cells #[.int .i64 t310, .int .i64 t311, .int .i64 t312, .slice Ao32 t313.length co32, .slice Ao33 t316.length co33] 31 (0, 0)) (by (with_reducible repeat (first | refine blk_drewN ?_ _ | refine blk_drew ?_ | refine blk_alloc ?_ _)); refine blk_put (cs := #[.int .i64 t310, .int .i64 t311, .int .i64 t312, .slice Ao32 t313.length co32, .slice none 0 0]) ?_ 4 _ rfl; (with_reducible repeat (first | refine blk_drewN ?_ _ | refine blk_drew ?_ | refine blk_alloc ?_ _)); refine blk_put (cs := #[.int .i64 t310, .int .i64 t311, .int .i64 t312, .slice none 0 0, .slice none 0 0]) ?_ 3 _ rfl; (with_reducible repeat (first | refine blk_drewN ?_ _ | refine blk_drew ?_ | refine blk_alloc ?_ _)); refine blk_put (cs := #[.int .i64 t310, .int .i64 t311, .int .i64 0, .slice none 0 0, .slice none 0 0]) ?_ 2 _ rfl; (with_reducible repeat (first | refine blk_drewN ?_ _ | refine blk_drew ?_ | refine blk_alloc ?_ _)); refine blk_put (cs := #[.int .i64 t310, .int .i64 0, .int .i64 0, .slice none 0 0, .slice none 0 0]) ?_ 1 _ rfl; (with_reducible repeat (first | refine blk_drewN ?_ _ | refine blk_drew ?_ | refine blk_alloc ?_ _)); refine blk_put (cs := #[.int .i64 0, .int .i64 0, .int .i64 0, .slice none 0 0, .slice none 0 0]) ?_ 0 _ rfl; (with_reducible repeat (first | refine blk_drewN ?_ _ | refine blk_drew ?_ | refine blk_alloc ?_ _)); exact BK319.out) hb); replace HB := Aside0.mk (bt_ HB hb); (try clear hb); (try clear hb2); (try clear hk); (try clear hi); (try clear ho0); (try clear ho1)) | ((with_reducible refine gate_dst (N := 9) rfl ?_); refine box_event ?hg (N := 9) ?hd (cs := #[.int .i64 0, .int .i64 0, .int .i64 0, .slice none 0 0, .slice none 0 0]) (t := 31) ?hr ?_; (case hd => rfl); (case hg => rfl); (case hr => first | (go_simp; done) | (go_simp; rfl)); intro gb330 hg w35 hbox hb; have BK330 := Aside0.mk hbox; have GW330 := ge_ HB hg; have GE330 := ge_ HB hg; have NB288_330 := nl_ BK288 hg; have NB330_288 := ng_ BK288 hg; have NB309_330 := nl_ BK309 hg; have NB330_309 := ng_ BK309 hg; have NB319_330 := nl_ BK319 hg; have NB330_319 := ng_ BK319 hg; replace HO295 := rb_ HO295 hb; replace HO298 := rb_ HO298 hb; replace HO304 := rb_ HO304 hb; replace HO307 := rb_ HO307 hb; replace HO315 := rb_ HO315 hb; replace HO318 := rb_ HO318 hb; replace HO325 := rb_ HO325 hb; replace HO328 := rb_ HO328 hb; replace HB := Aside0.mk (bt_ HB hb); replace BK288 := Aside0.mk (bb_ BK288 hb); replace BK309 := Aside0.mk (bb_ BK309 hb); replace BK319 := Aside0.mk (bb_ BK319 hb); clear hb hbox hg; have hnb36 := NB330_288.out; have hnc36 := NB288_330.out; have hnb37 := NB330_309.out; have hnc37 := NB309_330.out; have hnb38 := NB330_319.out; have hnc38 := NB319_330.out; have hcz39_0 := cz_ BK330 0 (.int .i64 0); have hcz39_1 := cz_ BK330 1 (.int .i64 0); have hcz39_2 := cz_ BK330 2 (.int .i64 0); have hcz39_3 := cz_ BK330 3 (.slice none 0 0); have hcz39_4 := cz_ BK330 4 (.slice none 0 0); have hfz39_0 := blk_frozen BK330.out 0; have hfz39_1 := blk_frozen BK330.out 1; have hfz39_2 := blk_frozen BK330.out 2; have hfz39_3 := blk_frozen BK330.out 3; have hfz39_4 := blk_frozen BK330.out 4; obtain ⟨Ao40, co40, eo40⟩ := Kd.R_slice HO325.out; subst eo40; obtain ⟨Ao41, co41, eo41⟩ := Kd.R_slice HO328.out; subst eo41))
  (try simp only [Act.put, List.setIfInBounds_toArray, List.set_cons_zero, List.set_cons_succ])
  go_cut [44] (fun v44 wc => ∃ (kq : Nat) (x44_11 : Bool), v44 = .bool x44_11 ∧ Aside0 (laws_FnExactAgeLsa.j0 kq a1 t308 t329 x44_11 a0_0 a0_1 a0_2 l0_3 l0_4 t299 t300 t301 t302 t305 t310 t311 t312 t313 t316 t320 t321 t322 t323 t326 = some r) ∧ Aside0 (kq ≤ k) ∧ Aside0 (Kd.R k70 70 wc w.heap.size (fun k_ => some k_ ≠ ((.slice Ao32 t313.length co32) : Value).ownBlock ∧ some k_ ≠ ((.slice Ao40 t323.length co40) : Value).ownBlock) (.slice Ao24 t302.length co24) t302) ∧ Aside0 (Kd.R k74 74 wc w.heap.size (fun k_ => some k_ ≠ ((.slice Ao33 t316.length co33) : Value).ownBlock ∧ some k_ ≠ ((.slice Ao41 t326.length co41) : Value).ownBlock) (.slice Ao25 t305.length co25) t305) ∧ Aside0 (Kd.R k70 70 wc w.heap.size (fun k_ => some k_ ≠ ((.slice Ao24 t302.length co24) : Value).ownBlock ∧ some k_ ≠ ((.slice Ao40 t323.length co40) : Value).ownBlock) (.slice Ao32 t313.length co32) t313) ∧ Aside0 (Kd.R k74 74 wc w.heap.size (fun k_ => some k_ ≠ ((.slice Ao25 t305.length co25) : Value).ownBlock ∧ some k_ ≠ ((.slice Ao41 t326.length co41) : Value).ownBlock) (.slice Ao33 t316.length co33) t316) ∧ Aside0 (Kd.R k70 70 wc w.heap.size (fun k_ => some k_ ≠ ((.slice Ao24 t302.length co24) : Value).ownBlock ∧ some k_ ≠ ((.slice Ao32 t313.length co32) : Value).ownBlock) (.slice Ao40 t323.length co40) t323) ∧ Aside0 (Kd.R k74 74 wc w.heap.size (fun k_ => some k_ ≠ ((.slice Ao25 t305.length co25) : Value).ownBlock ∧ some k_ ≠ ((.slice Ao33 t316.length co33) : Value).ownBlock) (.slice Ao41 t326.length co41) t326) ∧ Aside0 (wc.heap[gb288]? = some (.cells #[.int .i64 a0_0, .int .i64 a0_1, .int .i64 a0_2, (.slice A0_3 l0_3.length c0_3), (.slice A0_4 l0_4.length c0_4)] 25 (0, 0))) ∧ Aside0 (wc.heap[gb309]? = some (.cells #[.int .i64 t299, .int .i64 t300, .int .i64 t301, (.slice Ao24 t302.length co24), (.slice Ao25 t305.length co25)] 31 (0, 0))) ∧ Aside0 (wc.heap[gb319]? = some (.cells #[.int .i64 t310, .int .i64 t311, .int .i64 t312, (.slice Ao32 t313.length co32), (.slice Ao33 t316.length co33)] 31 (0, 0))) ∧ Aside0 (wc.heap[gb330]? = some (.cells #[.int .i64 t320, .int .i64 t321, .int .i64 t322, (.slice Ao40 t323.length co40), (.slice Ao41 t326.length co41)] 31 (0, 0))) ∧ Aside0 (Below w.heap.size w wc))
  case first =>
   have H := HC12.out
   clear HC12
   replace H := Option.bind_eq_some_iff.mp H
   obtain ⟨t331, A420, H⟩ := H
   have A42 := Aside0.mk A420
   clear A420
   by_cases c43 : t331 = true
   ·subst c43
    rw [if_pos rfl] at H
    have H' := Aside0.mk H
    clear H
    have hnb44 := NB330_288.out
    have hnc44 := NB288_330.out
    have hnb45 := NB330_309.out
    have hnc45 := NB309_330.out
    have hnb46 := NB330_319.out
    have hnc46 := NB319_330.out
    have hcz47_0 := cz_ BK330 0 (.int .i64 0)
    have hcz47_1 := cz_ BK330 1 (.int .i64 0)
    have hcz47_2 := cz_ BK330 2 (.int .i64 0)
    have hcz47_3 := cz_ BK330 3 (.slice none 0 0)
    have hcz47_4 := cz_ BK330 4 (.slice none 0 0)
    have hfz47_0 := blk_frozen BK330.out 0
    have hfz47_1 := blk_frozen BK330.out 1
    have hfz47_2 := blk_frozen BK330.out 2
    have hfz47_3 := blk_frozen BK330.out 3
    have hfz47_4 := blk_frozen BK330.out 4
    have hnb48 := NB309_288.out
    have hnc48 := NB288_309.out
    have hnb49 := NB309_319.out
    have hnc49 := NB319_309.out
    have hcz50_0 := cz_ BK309 0 (.int .i64 t299)
    have hcz50_1 := cz_ BK309 1 (.int .i64 t300)
    have hcz50_2 := cz_ BK309 2 (.int .i64 t301)
    have hcz50_3 := cz_ BK309 3 (.slice Ao24 t302.length co24)
    have hcz50_4 := cz_ BK309 4 (.slice Ao25 t305.length co25)
    have hfz50_0 := blk_frozen BK309.out 0
    have hfz50_1 := blk_frozen BK309.out 1
    have hfz50_2 := blk_frozen BK309.out 2
    have hfz50_3 := blk_frozen BK309.out 3
    have hfz50_4 := blk_frozen BK309.out 4
    go_wp2_with (first | ((with_reducible refine gate_callee (f := 17) rfl ?_); refine gl_ (some 38) Try.func17 #[.agg #[.int .i64 t320, .int .i64 t321, .int .i64 t322, .slice Ao40 t323.length co40, .slice Ao41 t326.length co41], .agg #[.int .i64 t299, .int .i64 t300, .int .i64 t301, .slice Ao24 t302.length co24, .slice Ao25 t305.length co25]] ?_; (with_reducible refine (laws_eqLsa.calls k t320 t321 t322 _ _ t323 _ _ t326 t299 t300 t301 _ _ t302 _ _ t305 true _ ?side1 ?side2 ?side3 ?side4 ?side5 ?side6 ?side7 ?side8 A42.out).mono ?_); (case side1 => refine (Kd.R_reads' (e := 70) (base := w.heap.size) (ok := fun k_ => (((True ∧ some k_ ≠ (.slice Ao18 t293.length co18 : Value).ownBlock) ∧ some k_ ≠ (.slice Ao24 t302.length co24 : Value).ownBlock) ∧ some k_ ≠ (.slice Ao32 t313.length co32 : Value).ownBlock)) (n := t323.length) (c := co40) ?_).2.2; exact (hs_ HO325 BK330)); (case side2 => exact (Kd.R_reads' HO325.out).2.1); (case side3 => refine (Kd.R_reads' (e := 74) (base := w.heap.size) (ok := fun k_ => (((True ∧ some k_ ≠ (.slice Ao19 t296.length co19 : Value).ownBlock) ∧ some k_ ≠ (.slice Ao25 t305.length co25 : Value).ownBlock) ∧ some k_ ≠ (.slice Ao33 t316.length co33 : Value).ownBlock)) (n := t326.length) (c := co41) ?_).2.2; exact (hs_ HO328 BK330)); (case side4 => exact (Kd.R_reads' HO328.out).2.1); (case side5 => refine (Kd.R_reads' (e := 70) (base := w.heap.size) (ok := fun k_ => (((True ∧ some k_ ≠ (.slice Ao18 t293.length co18 : Value).ownBlock) ∧ some k_ ≠ (.slice Ao32 t313.length co32 : Value).ownBlock) ∧ some k_ ≠ (.slice Ao40 t323.length co40 : Value).ownBlock)) (n := t302.length) (c := co24) ?_).2.2; exact (hs_ HO304 BK330)); (case side6 => exact (Kd.R_reads' HO304.out).2.1); (case side7 => refine (Kd.R_reads' (e := 74) (base := w.heap.size) (ok := fun k_ => (((True ∧ some k_ ≠ (.slice Ao19 t296.length co19 : Value).ownBlock) ∧ some k_ ≠ (.slice Ao33 t316.length co33 : Value).ownBlock) ∧ some k_ ≠ (.slice Ao41 t326.length co41 : Value).ownBlock)) (n := t305.length) (c := co25) ?_).2.2; exact (hs_ HO307 BK330)); (case side8 => exact (Kd.R_reads' HO307.out).2.1); rintro e w51 ⟨rfl, hb⟩; refine ⟨_, rfl, ?_⟩; replace HO295 := rs_ HO295 BK330 hb; replace HO298 := rs_ HO298 BK330 hb; replace HO304 := rs_ HO304 BK330 hb; replace HO307 := rs_ HO307 BK330 hb; replace HO315 := rs_ HO315 BK330 hb; replace HO318 := rs_ HO318 BK330 hb; replace HO325 := rs_ HO325 BK330 hb; replace HO328 := rs_ HO328 BK330 hb; replace BK288 := bf_ BK288 NB288_330 hb; replace BK309 := bf_ BK309 NB309_330 hb; replace BK319 := bf_ BK319 NB319_330 hb; replace BK330 := Aside0.mk (blk_below (g := gb330) (o := .cells #[.int .i64 t320, .int .i64 t321, .int .i64 t322, .slice Ao40 t323.length co40, .slice Ao41 t326.length co41] 31 (0, 0)) (by (with_reducible repeat (first | refine blk_drewN ?_ _ | refine blk_drew ?_ | refine blk_alloc ?_ _)); refine blk_put (cs := #[.int .i64 t320, .int .i64 t321, .int .i64 t322, .slice Ao40 t323.length co40, .slice none 0 0]) ?_ 4 _ rfl; (with_reducible repeat (first | refine blk_drewN ?_ _ | refine blk_drew ?_ | refine blk_alloc ?_ _)); refine blk_put (cs := #[.int .i64 t320, .int .i64 t321, .int .i64 t322, .slice none 0 0, .slice none 0 0]) ?_ 3 _ rfl; (with_reducible repeat (first | refine blk_drewN ?_ _ | refine blk_drew ?_ | refine blk_alloc ?_ _)); refine blk_put (cs := #[.int .i64 t320, .int .i64 t321, .int .i64 0, .slice none 0 0, .slice none 0 0]) ?_ 2 _ rfl; (with_reducible repeat (first | refine blk_drewN ?_ _ | refine blk_drew ?_ | refine blk_alloc ?_ _)); refine blk_put (cs := #[.int .i64 t320, .int .i64 0, .int .i64 0, .slice none 0 0, .slice none 0 0]) ?_ 1 _ rfl; (with_reducible repeat (first | refine blk_drewN ?_ _ | refine blk_drew ?_ | refine blk_alloc ?_ _)); refine blk_put (cs := #[.int .i64 0, .int .i64 0, .int .i64 0, .slice none 0 0, .slice none 0 0]) ?_ 0 _ rfl; (with_reducible repeat (first | refine blk_drewN ?_ _ | refine blk_drew ?_ | refine blk_alloc ?_ _)); exact BK330.out) hb); replace HB := Aside0.mk (bt_ HB hb); (try clear hb); (try clear hb2); (try clear hk); (try clear hi)))
    go_meet
    case rel => exact ⟨_, ((t329 != t308)), (by first | rfl | (simp; done) | (simp [*]; done)), H', ⟨by first | omega | exact Nat.le_refl _⟩, ⟨by (with_reducible repeat (first | apply Kd.R_alloc | apply Kd.R_drewN | apply Kd.R_drew)); exact Kd.R_mono HO304.out (fun _ hk => by first | exact ⟨hk.1.2, hk.2⟩ | grind)⟩, ⟨by (with_reducible repeat (first | apply Kd.R_alloc | apply Kd.R_drewN | apply Kd.R_drew)); exact Kd.R_mono HO307.out (fun _ hk => by first | exact ⟨hk.1.2, hk.2⟩ | grind)⟩, ⟨by (with_reducible repeat (first | apply Kd.R_alloc | apply Kd.R_drewN | apply Kd.R_drew)); exact Kd.R_mono HO315.out (fun _ hk => by first | exact ⟨hk.1.2, hk.2⟩ | grind)⟩, ⟨by (with_reducible repeat (first | apply Kd.R_alloc | apply Kd.R_drewN | apply Kd.R_drew)); exact Kd.R_mono HO318.out (fun _ hk => by first | exact ⟨hk.1.2, hk.2⟩ | grind)⟩, ⟨by (with_reducible repeat (first | apply Kd.R_alloc | apply Kd.R_drewN | apply Kd.R_drew)); exact Kd.R_mono HO325.out (fun _ hk => by first | exact ⟨hk.1.2, hk.2⟩ | grind)⟩, ⟨by (with_reducible repeat (first | apply Kd.R_alloc | apply Kd.R_drewN | apply Kd.R_drew)); exact Kd.R_mono HO328.out (fun _ hk => by first | exact ⟨hk.1.2, hk.2⟩ | grind)⟩, ⟨by (with_reducible repeat (first | refine blk_drewN ?_ _ | refine blk_drew ?_ | refine blk_alloc ?_ _)); exact BK288.out⟩, ⟨by (with_reducible repeat (first | refine blk_drewN ?_ _ | refine blk_drew ?_ | refine blk_alloc ?_ _)); exact BK309.out⟩, ⟨by (with_reducible repeat (first | refine blk_drewN ?_ _ | refine blk_drew ?_ | refine blk_alloc ?_ _)); exact BK319.out⟩, ⟨by (with_reducible repeat (first | refine blk_drewN ?_ _ | refine blk_drew ?_ | refine blk_alloc ?_ _)); exact BK330.out⟩, ⟨by repeat (first | (with_reducible first | exact HB.out | apply below_alloc | apply pw_below_drewN | apply below_drew1 | refine below_set ?_ GE288.out | refine below_set ?_ GE309.out | refine below_set ?_ GE319.out | refine below_set ?_ GE330.out) | exact HB.out)⟩⟩
   ·replace c43 := Bool.eq_false_iff.mpr c43
    subst c43
    rw [if_neg (show ¬ (false = true) by decide)] at H
    have H' := Aside0.mk H
    clear H
    have hnb52 := NB330_288.out
    have hnc52 := NB288_330.out
    have hnb53 := NB330_309.out
    have hnc53 := NB309_330.out
    have hnb54 := NB330_319.out
    have hnc54 := NB319_330.out
    have hcz55_0 := cz_ BK330 0 (.int .i64 0)
    have hcz55_1 := cz_ BK330 1 (.int .i64 0)
    have hcz55_2 := cz_ BK330 2 (.int .i64 0)
    have hcz55_3 := cz_ BK330 3 (.slice none 0 0)
    have hcz55_4 := cz_ BK330 4 (.slice none 0 0)
    have hfz55_0 := blk_frozen BK330.out 0
    have hfz55_1 := blk_frozen BK330.out 1
    have hfz55_2 := blk_frozen BK330.out 2
    have hfz55_3 := blk_frozen BK330.out 3
    have hfz55_4 := blk_frozen BK330.out 4
    have hnb56 := NB309_288.out
    have hnc56 := NB288_309.out
    have hnb57 := NB309_319.out
    have hnc57 := NB319_309.out
    have hcz58_0 := cz_ BK309 0 (.int .i64 t299)
    have hcz58_1 := cz_ BK309 1 (.int .i64 t300)
    have hcz58_2 := cz_ BK309 2 (.int .i64 t301)
    have hcz58_3 := cz_ BK309 3 (.slice Ao24 t302.length co24)
    have hcz58_4 := cz_ BK309 4 (.slice Ao25 t305.length co25)
    have hfz58_0 := blk_frozen BK309.out 0
    have hfz58_1 := blk_frozen BK309.out 1
    have hfz58_2 := blk_frozen BK309.out 2
    have hfz58_3 := blk_frozen BK309.out 3
    have hfz58_4 := blk_frozen BK309.out 4
    go_wp2_with (first | ((with_reducible refine gate_callee (f := 17) rfl ?_); refine gl_ (some 38) Try.func17 #[.agg #[.int .i64 t320, .int .i64 t321, .int .i64 t322, .slice Ao40 t323.length co40, .slice Ao41 t326.length co41], .agg #[.int .i64 t299, .int .i64 t300, .int .i64 t301, .slice Ao24 t302.length co24, .slice Ao25 t305.length co25]] ?_; (with_reducible refine (laws_eqLsa.calls k t320 t321 t322 _ _ t323 _ _ t326 t299 t300 t301 _ _ t302 _ _ t305 false _ ?side1 ?side2 ?side3 ?side4 ?side5 ?side6 ?side7 ?side8 A42.out).mono ?_); (case side1 => refine (Kd.R_reads' (e := 70) (base := w.heap.size) (ok := fun k_ => (((True ∧ some k_ ≠ (.slice Ao18 t293.length co18 : Value).ownBlock) ∧ some k_ ≠ (.slice Ao24 t302.length co24 : Value).ownBlock) ∧ some k_ ≠ (.slice Ao32 t313.length co32 : Value).ownBlock)) (n := t323.length) (c := co40) ?_).2.2; exact (hs_ HO325 BK330)); (case side2 => exact (Kd.R_reads' HO325.out).2.1); (case side3 => refine (Kd.R_reads' (e := 74) (base := w.heap.size) (ok := fun k_ => (((True ∧ some k_ ≠ (.slice Ao19 t296.length co19 : Value).ownBlock) ∧ some k_ ≠ (.slice Ao25 t305.length co25 : Value).ownBlock) ∧ some k_ ≠ (.slice Ao33 t316.length co33 : Value).ownBlock)) (n := t326.length) (c := co41) ?_).2.2; exact (hs_ HO328 BK330)); (case side4 => exact (Kd.R_reads' HO328.out).2.1); (case side5 => refine (Kd.R_reads' (e := 70) (base := w.heap.size) (ok := fun k_ => (((True ∧ some k_ ≠ (.slice Ao18 t293.length co18 : Value).ownBlock) ∧ some k_ ≠ (.slice Ao32 t313.length co32 : Value).ownBlock) ∧ some k_ ≠ (.slice Ao40 t323.length co40 : Value).ownBlock)) (n := t302.length) (c := co24) ?_).2.2; exact (hs_ HO304 BK330)); (case side6 => exact (Kd.R_reads' HO304.out).2.1); (case side7 => refine (Kd.R_reads' (e := 74) (base := w.heap.size) (ok := fun k_ => (((True ∧ some k_ ≠ (.slice Ao19 t296.length co19 : Value).ownBlock) ∧ some k_ ≠ (.slice Ao33 t316.length co33 : Value).ownBlock) ∧ some k_ ≠ (.slice Ao41 t326.length co41 : Value).ownBlock)) (n := t305.length) (c := co25) ?_).2.2; exact (hs_ HO307 BK330)); (case side8 => exact (Kd.R_reads' HO307.out).2.1); rintro e w59 ⟨rfl, hb⟩; refine ⟨_, rfl, ?_⟩; replace HO295 := rs_ HO295 BK330 hb; replace HO298 := rs_ HO298 BK330 hb; replace HO304 := rs_ HO304 BK330 hb; replace HO307 := rs_ HO307 BK330 hb; replace HO315 := rs_ HO315 BK330 hb; replace HO318 := rs_ HO318 BK330 hb; replace HO325 := rs_ HO325 BK330 hb; replace HO328 := rs_ HO328 BK330 hb; replace BK288 := bf_ BK288 NB288_330 hb; replace BK309 := bf_ BK309 NB309_330 hb; replace BK319 := bf_ BK319 NB319_330 hb; replace BK330 := Aside0.mk (blk_below (g := gb330) (o := .cells #[.int .i64 t320, .int .i64 t321, .int .i64 t322, .slice Ao40 t323.length co40, .slice Ao41 t326.length co41] 31 (0, 0)) (by (with_reducible repeat (first | refine blk_drewN ?_ _ | refine blk_drew ?_ | refine blk_alloc ?_ _)); refine blk_put (cs := #[.int .i64 t320, .int .i64 t321, .int .i64 t322, .slice Ao40 t323.length co40, .slice none 0 0]) ?_ 4 _ rfl; (with_reducible repeat (first | refine blk_drewN ?_ _ | refine blk_drew ?_ | refine blk_alloc ?_ _)); refine blk_put (cs := #[.int .i64 t320, .int .i64 t321, .int .i64 t322, .slice none 0 0, .slice none 0 0]) ?_ 3 _ rfl; (with_reducible repeat (first | refine blk_drewN ?_ _ | refine blk_drew ?_ | refine blk_alloc ?_ _)); refine blk_put (cs := #[.int .i64 t320, .int .i64 t321, .int .i64 0, .slice none 0 0, .slice none 0 0]) ?_ 2 _ rfl; (with_reducible repeat (first | refine blk_drewN ?_ _ | refine blk_drew ?_ | refine blk_alloc ?_ _)); refine blk_put (cs := #[.int .i64 t320, .int .i64 0, .int .i64 0, .slice none 0 0, .slice none 0 0]) ?_ 1 _ rfl; (with_reducible repeat (first | refine blk_drewN ?_ _ | refine blk_drew ?_ | refine blk_alloc ?_ _)); refine blk_put (cs := #[.int .i64 0, .int .i64 0, .int .i64 0, .slice none 0 0, .slice none 0 0]) ?_ 0 _ rfl; (with_reducible repeat (first | refine blk_drewN ?_ _ | refine blk_drew ?_ | refine blk_alloc ?_ _)); exact BK330.out) hb); replace HB := Aside0.mk (bt_ HB hb); (try clear hb); (try clear hb2); (try clear hk); (try clear hi)))
    go_meet
    case rel => exact ⟨_, (true), (by first | rfl | (simp; done) | (simp [*]; done)), H', ⟨by first | omega | exact Nat.le_refl _⟩, ⟨by (with_reducible repeat (first | apply Kd.R_alloc | apply Kd.R_drewN | apply Kd.R_drew)); exact Kd.R_mono HO304.out (fun _ hk => by first | exact ⟨hk.1.2, hk.2⟩ | grind)⟩, ⟨by (with_reducible repeat (first | apply Kd.R_alloc | apply Kd.R_drewN | apply Kd.R_drew)); exact Kd.R_mono HO307.out (fun _ hk => by first | exact ⟨hk.1.2, hk.2⟩ | grind)⟩, ⟨by (with_reducible repeat (first | apply Kd.R_alloc | apply Kd.R_drewN | apply Kd.R_drew)); exact Kd.R_mono HO315.out (fun _ hk => by first | exact ⟨hk.1.2, hk.2⟩ | grind)⟩, ⟨by (with_reducible repeat (first | apply Kd.R_alloc | apply Kd.R_drewN | apply Kd.R_drew)); exact Kd.R_mono HO318.out (fun _ hk => by first | exact ⟨hk.1.2, hk.2⟩ | grind)⟩, ⟨by (with_reducible repeat (first | apply Kd.R_alloc | apply Kd.R_drewN | apply Kd.R_drew)); exact Kd.R_mono HO325.out (fun _ hk => by first | exact ⟨hk.1.2, hk.2⟩ | grind)⟩, ⟨by (with_reducible repeat (first | apply Kd.R_alloc | apply Kd.R_drewN | apply Kd.R_drew)); exact Kd.R_mono HO328.out (fun _ hk => by first | exact ⟨hk.1.2, hk.2⟩ | grind)⟩, ⟨by (with_reducible repeat (first | refine blk_drewN ?_ _ | refine blk_drew ?_ | refine blk_alloc ?_ _)); exact BK288.out⟩, ⟨by (with_reducible repeat (first | refine blk_drewN ?_ _ | refine blk_drew ?_ | refine blk_alloc ?_ _)); exact BK309.out⟩, ⟨by (with_reducible repeat (first | refine blk_drewN ?_ _ | refine blk_drew ?_ | refine blk_alloc ?_ _)); exact BK319.out⟩, ⟨by (with_reducible repeat (first | refine blk_drewN ?_ _ | refine blk_drew ?_ | refine blk_alloc ?_ _)); exact BK330.out⟩, ⟨by repeat (first | (with_reducible first | exact HB.out | apply below_alloc | apply pw_below_drewN | apply below_drew1 | refine below_set ?_ GE288.out | refine below_set ?_ GE309.out | refine below_set ?_ GE319.out | refine below_set ?_ GE330.out) | exact HB.out)⟩⟩
  case rest =>
   clear HC12
   try clear c1
   try clear c2
   try clear p2
   try clear c3
   try clear c4
   try clear c4b0
   try clear c5
   try clear c8
   try clear c13
   try clear c15
   try clear c17
   try clear c22
   try clear c29
   try clear c30
   try clear c36
   try clear c37
   try clear c38
   try clear c39
   try clear c40
   try clear c43
   try clear c44
   try clear c45
   try clear c46
   try clear c48
   try clear c49
   try clear c52
   try clear c53
   try clear c54
   try clear c56
   try clear c57
   try clear hcz14_0
   try clear hcz14_1
   try clear hcz14_2
   try clear hcz14_3
   try clear hcz14_4
   try clear hcz16_0
   try clear hcz16_1
   try clear hcz16_2
   try clear hcz16_3
   try clear hcz16_4
   try clear hcz23_0
   try clear hcz23_1
   try clear hcz23_2
   try clear hcz23_3
   try clear hcz23_4
   try clear hcz26_0
   try clear hcz26_1
   try clear hcz26_2
   try clear hcz26_3
   try clear hcz26_4
   try clear hcz31_0
   try clear hcz31_1
   try clear hcz31_2
   try clear hcz31_3
   try clear hcz31_4
   try clear hcz39_0
   try clear hcz39_1
   try clear hcz39_2
   try clear hcz39_3
   try clear hcz39_4
   try clear hcz47_0
   try clear hcz47_1
   try clear hcz47_2
   try clear hcz47_3
   try clear hcz47_4
   try clear hcz50_0
   try clear hcz50_1
   try clear hcz50_2
   try clear hcz50_3
   try clear hcz50_4
   try clear hcz55_0
   try clear hcz55_1
   try clear hcz55_2
   try clear hcz55_3
   try clear hcz55_4
   try clear hcz58_0
   try clear hcz58_1
   try clear hcz58_2
   try clear hcz58_3
   try clear hcz58_4
   try clear hcz6_0
   try clear hcz6_1
   try clear hcz6_2
   try clear hcz6_3
   try clear hcz6_4
   try clear hfz14_0
   try clear hfz14_1
   try clear hfz14_2
   try clear hfz14_3
   try clear hfz14_4
   try clear hfz16_0
   try clear hfz16_1
   try clear hfz16_2
   try clear hfz16_3
   try clear hfz16_4
   try clear hfz23_0
   try clear hfz23_1
   try clear hfz23_2
   try clear hfz23_3
   try clear hfz23_4
   try clear hfz26_0
   try clear hfz26_1
   try clear hfz26_2
   try clear hfz26_3
   try clear hfz26_4
   try clear hfz31_0
   try clear hfz31_1
   try clear hfz31_2
   try clear hfz31_3
   try clear hfz31_4
   try clear hfz39_0
   try clear hfz39_1
   try clear hfz39_2
   try clear hfz39_3
   try clear hfz39_4
   try clear hfz47_0
   try clear hfz47_1
   try clear hfz47_2
   try clear hfz47_3
   try clear hfz47_4
   try clear hfz50_0
   try clear hfz50_1
   try clear hfz50_2
   try clear hfz50_3
   try clear hfz50_4
   try clear hfz55_0
   try clear hfz55_1
   try clear hfz55_2
   try clear hfz55_3
   try clear hfz55_4
   try clear hfz58_0
   try clear hfz58_1
   try clear hfz58_2
   try clear hfz58_3
   try clear hfz58_4
   try clear hfz6_0
   try clear hfz6_1
   try clear hfz6_2
   try clear hfz6_3
   try clear hfz6_4
   obtain ⟨kq, x44_11, rfl, HA, HJ11, HO_310003, HO_310004, HO_320003, HO_320004, HO_331003, HO_331004, BK288, BK309, BK319, BK330, HB⟩ := hcut
   cases kq with
   | zero => exact absurd HA.out (by simp [laws_FnExactAgeLsa.j0])
   | succ kj11 =>
    have H := HA.out
    clear HA
    simp only [laws_FnExactAgeLsa.j0] at H
    by_cases c60 : x44_11 = true
    ·subst c60
     rw [if_pos rfl] at H
     obtain rfl := Option.some.inj H
     go_wp2
     go_ret
     exact ⟨by first | rfl | (simp [errW_none, errW_some] <;> rfl) | (simp [*, errW_none, errW_some] <;> rfl), by repeat (first | (with_reducible first | exact HB.out | apply below_alloc | apply pw_below_drewN | apply below_drew1 | refine below_set ?_ GE288.out | refine below_set ?_ GE309.out | refine below_set ?_ GE319.out | refine below_set ?_ GE330.out) | exact HB.out)⟩
    ·replace c60 := Bool.eq_false_iff.mpr c60
     subst c60
     rw [if_neg (show ¬ (false = true) by decide)] at H
     replace H := Option.bind_eq_some_iff.mp H
     obtain ⟨⟨t332, t333, t334, t335, t338⟩, A610, H⟩ := H
     have A61 := Aside0.mk A610
     clear A610
     replace H := Option.bind_eq_some_iff.mp H
     obtain ⟨t341, A620, H⟩ := H
     have A62 := Aside0.mk A620
     clear A620
     by_cases c63 : t341 = true
     ·subst c63
      rw [if_pos rfl] at H
      replace H := Option.bind_eq_some_iff.mp H
      obtain ⟨⟨t342, t343, t344⟩, A640, H⟩ := H
      have A64 := Aside0.mk A640
      clear A640
      have HC65 := Aside0.mk H
      clear H
      try go_wp2
      replace HO_310003 := Aside0.mk (Kd.R_drew HO_310003.out)
      replace HO_310004 := Aside0.mk (Kd.R_drew HO_310004.out)
      replace HO_320003 := Aside0.mk (Kd.R_drew HO_320003.out)
      replace HO_320004 := Aside0.mk (Kd.R_drew HO_320004.out)
      replace HO_331003 := Aside0.mk (Kd.R_drew HO_331003.out)
      replace HO_331004 := Aside0.mk (Kd.R_drew HO_331004.out)
      replace BK288 := Aside0.mk (blk_drew BK288.out)
      replace BK309 := Aside0.mk (blk_drew BK309.out)
      replace BK319 := Aside0.mk (blk_drew BK319.out)
      replace BK330 := Aside0.mk (blk_drew BK330.out)
      replace HB := Aside0.mk (below_drew1 HB.out)
      refine start_ (n := 5) (S := fun w' => w'.cell? ⟨gb319, 0, none⟩ = some (.int .i64 t310) ∧ w'.cell? ⟨gb319, 1, none⟩ = some (.int .i64 t311) ∧ w'.cell? ⟨gb319, 2, none⟩ = some (.int .i64 t312) ∧ w'.cell? ⟨gb319, 3, none⟩ = some (.slice Ao32 t313.length co32) ∧ w'.cell? ⟨gb319, 4, none⟩ = some (.slice Ao33 t316.length co33) ∧ w'.cell? ⟨gb288, 0, none⟩ = some (.int .i64 a0_0) ∧ w'.cell? ⟨gb288, 1, none⟩ = some (.int .i64 a0_1) ∧ w'.cell? ⟨gb288, 2, none⟩ = some (.int .i64 a0_2) ∧ w'.cell? ⟨gb288, 3, none⟩ = some (.slice A0_3 l0_3.length c0_3) ∧ w'.cell? ⟨gb288, 4, none⟩ = some (.slice A0_4 l0_4.length c0_4)) (ds := []) ba12_0 (by kernel_rfl) rfl rfl ⟨(blk_cell BK319.out 0).trans rfl, (blk_cell BK319.out 1).trans rfl, (blk_cell BK319.out 2).trans rfl, (blk_cell BK319.out 3).trans rfl, (blk_cell BK319.out 4).trans rfl, (blk_cell BK288.out 0).trans rfl, (blk_cell BK288.out 1).trans rfl, (blk_cell BK288.out 2).trans rfl, (blk_cell BK288.out 3).trans rfl, (blk_cell BK288.out 4).trans rfl⟩ (fun hHeld => ?_)
      generalize wc.drew = w66 at HO_310003 HO_310004 HO_320003 HO_320004 HO_331003 HO_331004 BK288 BK309 BK319 BK330 HB hHeld ⊢
      refine take_ (i := 0) (N := some 45) (v := ?_) (a' := ?_) ba12_1 rfl rfl (by kernel_rfl) (fun _ _ _ h => h) (Or.inl ⟨by rfl, ?_⟩) hHeld ?_ ?_
      rotate_left; · rintro w' ⟨s0, s1, s2, s3, s4, s5, s6, s7, s8, s9⟩; go_simp; with_reducible rfl
      rotate_left; · simp only [Act.put, List.setIfInBounds_toArray, List.set_cons_zero, List.set_cons_succ, i64_w, i32_w]; rfl
      refine take_ (i := 1) (N := some 46) (v := ?_) (a' := ?_) ba12_2 rfl rfl (by kernel_rfl) (fun _ _ _ h => h) (Or.inl ⟨by rfl, ?_⟩) hHeld ?_ ?_
      rotate_left; · rintro w' ⟨s0, s1, s2, s3, s4, s5, s6, s7, s8, s9⟩; go_simp; with_reducible rfl
      rotate_left; · simp only [Act.put, List.setIfInBounds_toArray, List.set_cons_zero, List.set_cons_succ, i64_w, i32_w]; rfl
      refine one_ (i := 2) (N := some 47) ba12_3 rfl rfl (by kernel_rfl) (by decide) (fun K hK => ?_)
      refine gz_ Try.func15 #[.agg #[.int .i64 a0_0, .int .i64 a0_1, .int .i64 a0_2, .slice A0_3 l0_3.length c0_3, .slice A0_4 l0_4.length c0_4]] ?_
      with_reducible refine (laws_toLsa.calls kj11 a0_0 a0_1 a0_2 _ _ l0_3 _ _ l0_4 t332 t333 t334 t335 t338 _ ?side1 ?side2 ?side3 ?side4 A61.out).mono ?_
      (case side1 => exact cb_ HR0_3 HB)
      (case side2 => exact HC0_3.out)
      (case side3 => exact cb_ HR0_4 HB)
      (case side4 => exact HC0_4.out)
      rintro e w67 ⟨v336, v339, rfl, ho0, ho1, hb⟩
      refine ⟨_, rfl, ?_⟩
      have HO337 := Aside0.mk (Kd.R_lower (Kd.R_new' (Kd.R_new' (Kd.R_new' ho0 (Kd.R_lt (hd_ HO_310003))) (Kd.R_lt (hd_ HO_320003))) (Kd.R_lt (hd_ HO_331003))) (bz_ HB))
      have HO340 := Aside0.mk (Kd.R_lower (Kd.R_new' (Kd.R_new' (Kd.R_new' ho1 (Kd.R_lt (hd_ HO_310004))) (Kd.R_lt (hd_ HO_320004))) (Kd.R_lt (hd_ HO_331004))) (bz_ HB))
      replace HO_310003 := Aside0.mk (Kd.R_elder' (hd_ HO_310003) (Kd.R_base ho0) hb)
      replace HO_320003 := Aside0.mk (Kd.R_elder' (hd_ HO_320003) (Kd.R_base ho0) hb)
      replace HO_331003 := Aside0.mk (Kd.R_elder' (hd_ HO_331003) (Kd.R_base ho0) hb)
      replace HO_310004 := Aside0.mk (Kd.R_elder' (hd_ HO_310004) (Kd.R_base ho1) hb)
      replace HO_320004 := Aside0.mk (Kd.R_elder' (hd_ HO_320004) (Kd.R_base ho1) hb)
      replace HO_331004 := Aside0.mk (Kd.R_elder' (hd_ HO_331004) (Kd.R_base ho1) hb)
      replace BK288 := Aside0.mk (bb_ BK288 hb)
      replace BK309 := Aside0.mk (bb_ BK309 hb)
      replace BK319 := Aside0.mk (bb_ BK319 hb)
      replace BK330 := Aside0.mk (bb_ BK330 hb)
      replace HB := Aside0.mk (bt_ HB hb)
      (try clear hb)
      (try clear hb2)
      (try clear hk)
      (try clear hi)
      (try clear ho0)
      (try clear ho1)
      obtain ⟨Ao68, co68, eo68⟩ := Kd.R_slice HO337.out
      (first | subst eo68 | (injection eo68 with f1_ f2_ f3_; have f4_ := f1_.symm; have f5_ := f3_.symm; clear f1_ f2_ f3_; subst f4_; subst f5_))
      obtain ⟨Ao69, co69, eo69⟩ := Kd.R_slice HO340.out
      (first | subst eo69 | (injection eo69 with f1_ f2_ f3_; have f4_ := f1_.symm; have f5_ := f3_.symm; clear f1_ f2_ f3_; subst f4_; subst f5_))
      refine hK.out _ _ ⟨(blk_cell BK319.out 0).trans rfl, (blk_cell BK319.out 1).trans rfl, (blk_cell BK319.out 2).trans rfl, (blk_cell BK319.out 3).trans rfl, (blk_cell BK319.out 4).trans rfl, (blk_cell BK288.out 0).trans rfl, (blk_cell BK288.out 1).trans rfl, (blk_cell BK288.out 2).trans rfl, (blk_cell BK288.out 3).trans rfl, (blk_cell BK288.out 4).trans rfl⟩ (fun hHeld => ?_)
      clear hK K
      refine nz_ 47 ?_
      refine one_ (i := 3) (N := some 48) ba12_4 rfl rfl (by kernel_rfl) (by decide) (fun K hK => ?_)
      refine gz_ Try.func17 #[.agg #[.int .i64 t310, .int .i64 t311, .int .i64 t312, .slice Ao32 t313.length co32, .slice Ao33 t316.length co33], .agg #[.int .i64 t332, .int .i64 t333, .int .i64 t334, .slice Ao68 t335.length co68, .slice Ao69 t338.length co69]] ?_
      with_reducible refine (laws_eqLsa.calls kj11 t310 t311 t312 _ _ t313 _ _ t316 t332 t333 t334 _ _ t335 _ _ t338 true _ ?side1 ?side2 ?side3 ?side4 ?side5 ?side6 ?side7 ?side8 A62.out).mono ?_
      (case side1 => exact rc_ HO_320003)
      (case side2 => exact (Kd.R_reads' HO_320003.out).2.1)
      (case side3 => exact rc_ HO_320004)
      (case side4 => exact (Kd.R_reads' HO_320004.out).2.1)
      (case side5 => exact rc_ HO337)
      (case side6 => exact (Kd.R_reads' HO337.out).2.1)
      (case side7 => exact rc_ HO340)
      (case side8 => exact (Kd.R_reads' HO340.out).2.1)
      rintro e w70 ⟨rfl, hb⟩
      refine ⟨_, rfl, ?_⟩
      replace HO_310003 := rb_ HO_310003 hb
      replace HO_310004 := rb_ HO_310004 hb
      replace HO_320003 := rb_ HO_320003 hb
      replace HO_320004 := rb_ HO_320004 hb
      replace HO_331003 := rb_ HO_331003 hb
      replace HO_331004 := rb_ HO_331004 hb
      replace HO337 := rb_ HO337 hb
      replace HO340 := rb_ HO340 hb
      replace BK288 := Aside0.mk (bb_ BK288 hb)
      replace BK309 := Aside0.mk (bb_ BK309 hb)
      replace BK319 := Aside0.mk (bb_ BK319 hb)
      replace BK330 := Aside0.mk (bb_ BK330 hb)
      replace HB := Aside0.mk (bt_ HB hb)
      (try clear hb)
      (try clear hb2)
      (try clear hk)
      (try clear hi)
      refine hK.out _ _ ⟨(blk_cell BK319.out 0).trans rfl, (blk_cell BK319.out 1).trans rfl, (blk_cell BK319.out 2).trans rfl, (blk_cell BK319.out 3).trans rfl, (blk_cell BK319.out 4).trans rfl, (blk_cell BK288.out 0).trans rfl, (blk_cell BK288.out 1).trans rfl, (blk_cell BK288.out 2).trans rfl, (blk_cell BK288.out 3).trans rfl, (blk_cell BK288.out 4).trans rfl⟩ (fun hHeld => ?_)
      clear hK K
      refine nz_ 48 ?_
      refine pure_ (i := 4) (N := some 49) (v := ?_) (a' := ?_) ba12_5 rfl rfl (by kernel_rfl) (fun _ _ _ h => h) (Or.inl ⟨by rfl, ?_⟩) ?_ ?_
      rotate_left; · intro w'; go_simp; with_reducible rfl
      rotate_left; · simp only [Act.put, List.setIfInBounds_toArray, List.set_cons_zero, List.set_cons_succ, i64_w, i32_w]; rfl
      refine done_ (by kernel_rfl) ?_
      have hnb71 := NB319_288.out
      have hnc71 := NB288_319.out
      have hnb72 := NB319_309.out
      have hnc72 := NB309_319.out
      have hnb73 := NB319_330.out
      have hnc73 := NB330_319.out
      have hcz74_0 := cz_ BK319 0 (.int .i64 t310)
      have hcz74_1 := cz_ BK319 1 (.int .i64 t311)
      have hcz74_2 := cz_ BK319 2 (.int .i64 t312)
      have hcz74_3 := cz_ BK319 3 (.slice Ao32 t313.length co32)
      have hcz74_4 := cz_ BK319 4 (.slice Ao33 t316.length co33)
      have hfz74_0 := blk_frozen BK319.out 0
      have hfz74_1 := blk_frozen BK319.out 1
      have hfz74_2 := blk_frozen BK319.out 2
      have hfz74_3 := blk_frozen BK319.out 3
      have hfz74_4 := blk_frozen BK319.out 4
      go_upto_region 14 with (first | ((with_reducible refine gate_callee (f := 35) rfl ?_); refine gl_ (some 52) Try.func35 #[.agg #[.int .i64 t310, .int .i64 t311, .int .i64 t312, .slice Ao32 t313.length co32, .slice Ao33 t316.length co33], .int .i64 1] ?_; (with_reducible refine (laws_markLsa.calls kj11 t310 t311 t312 (fun k_ => some k_ = (.slice Ao32 t313.length co32 : Value).ownBlock) (.slice Ao32 t313.length co32) t313 (fun k_ => some k_ = (.slice Ao33 t316.length co33 : Value).ownBlock) (.slice Ao33 t316.length co33) t316 1 t342 t343 t344 w _ ?side1 ?side2 ?side3 A64.out).mono ?_); (case side1 => exact by_ HB); (case side2 => exact Kd.R_tight rfl HO_320003.out); (case side3 => exact Kd.R_tight rfl HO_320004.out); rintro e w75 ⟨rfl, hy0, hy1, hb, hkp⟩; refine ⟨_, rfl, ?_⟩; replace HO_310003 := kp_ (fun k_ => some k_ ≠ (.slice Ao32 t313.length co32 : Value).ownBlock ∧ some k_ ≠ (.slice Ao40 t323.length co40 : Value).ownBlock ∧ some k_ ≠ (.slice Ao68 t335.length co68 : Value).ownBlock) ((Kd.R_apart' HO_310003.out (Kd.R_typed HO_320004.out) (by decide))) hkp; replace HO_310004 := kp_ (fun k_ => some k_ ≠ (.slice Ao33 t316.length co33 : Value).ownBlock ∧ some k_ ≠ (.slice Ao41 t326.length co41 : Value).ownBlock ∧ some k_ ≠ (.slice Ao69 t338.length co69 : Value).ownBlock) ((Kd.R_apart' HO_310004.out (Kd.R_typed HO_320003.out) (by decide))) hkp; replace HO_331003 := kp_ (fun k_ => some k_ ≠ (.slice Ao24 t302.length co24 : Value).ownBlock ∧ some k_ ≠ (.slice Ao32 t313.length co32 : Value).ownBlock ∧ some k_ ≠ (.slice Ao68 t335.length co68 : Value).ownBlock) ((Kd.R_apart' HO_331003.out (Kd.R_typed HO_320004.out) (by decide))) hkp; replace HO_331004 := kp_ (fun k_ => some k_ ≠ (.slice Ao25 t305.length co25 : Value).ownBlock ∧ some k_ ≠ (.slice Ao33 t316.length co33 : Value).ownBlock ∧ some k_ ≠ (.slice Ao69 t338.length co69 : Value).ownBlock) ((Kd.R_apart' HO_331004.out (Kd.R_typed HO_320003.out) (by decide))) hkp; replace BK288 := bk_ BK288 hkp (fun hs_ => Or.elim hs_ (Kd.R_ne HO_320003.out BK288.out (by decide)) (Kd.R_ne HO_320004.out BK288.out (by decide))); replace BK309 := bk_ BK309 hkp (fun hs_ => Or.elim hs_ (Kd.R_ne HO_320003.out BK309.out (by decide)) (Kd.R_ne HO_320004.out BK309.out (by decide))); replace BK319 := bk_ BK319 hkp (fun hs_ => Or.elim hs_ (Kd.R_ne HO_320003.out BK319.out (by decide)) (Kd.R_ne HO_320004.out BK319.out (by decide))); replace BK330 := bk_ BK330 hkp (fun hs_ => Or.elim hs_ (Kd.R_ne HO_320003.out BK330.out (by decide)) (Kd.R_ne HO_320004.out BK330.out (by decide))); replace HO337 := kp_ (fun k_ => some k_ ≠ (.slice Ao24 t302.length co24 : Value).ownBlock ∧ some k_ ≠ (.slice Ao32 t313.length co32 : Value).ownBlock ∧ some k_ ≠ (.slice Ao40 t323.length co40 : Value).ownBlock) ((Kd.R_apart' HO337.out (Kd.R_typed HO_320004.out) (by decide))) hkp; replace HO_320004 := Aside0.mk (Kd.R_reok rfl hy1 (fun k_ e_ => HO_320004.out.1 k_ e_)); replace HO340 := kp_ (fun k_ => some k_ ≠ (.slice Ao25 t305.length co25 : Value).ownBlock ∧ some k_ ≠ (.slice Ao33 t316.length co33 : Value).ownBlock ∧ some k_ ≠ (.slice Ao41 t326.length co41 : Value).ownBlock) ((Kd.R_apart' HO340.out (Kd.R_typed HO_320003.out) (by decide))) hkp; replace HO_320003 := Aside0.mk (Kd.R_reok rfl hy0 (fun k_ e_ => HO_320003.out.1 k_ e_)); replace HB := Aside0.mk (hb); (try clear hb); (try clear hkp); (try clear hy0); (try clear hy1)))
      (try simp only [Act.put, List.setIfInBounds_toArray, List.set_cons_zero, List.set_cons_succ])
      go_cut [65] (fun v65 wc => ∃ (kq : Nat) (x65_64 : Bool), v65 = .bool x65_64 ∧ Aside0 (laws_FnExactAgeLsa.j1 kq a1 t308 x65_64 a0_0 a0_1 a0_2 l0_3 l0_4 t299 t300 t301 t302 t305 t320 t321 t322 t323 t326 = some r) ∧ Aside0 (kq ≤ kj11) ∧ Aside0 (Kd.R k70 70 wc w.heap.size (fun k_ => some k_ ≠ ((.slice Ao32 t313.length co32) : Value).ownBlock ∧ some k_ ≠ ((.slice Ao40 t323.length co40) : Value).ownBlock) (.slice Ao24 t302.length co24) t302) ∧ Aside0 (Kd.R k74 74 wc w.heap.size (fun k_ => some k_ ≠ ((.slice Ao33 t316.length co33) : Value).ownBlock ∧ some k_ ≠ ((.slice Ao41 t326.length co41) : Value).ownBlock) (.slice Ao25 t305.length co25) t305) ∧ Aside0 (Kd.R k70 70 wc w.heap.size (fun k_ => some k_ ≠ ((.slice Ao24 t302.length co24) : Value).ownBlock ∧ some k_ ≠ ((.slice Ao40 t323.length co40) : Value).ownBlock) (.slice Ao32 t313.length co32) t343) ∧ Aside0 (Kd.R k74 74 wc w.heap.size (fun k_ => some k_ ≠ ((.slice Ao25 t305.length co25) : Value).ownBlock ∧ some k_ ≠ ((.slice Ao41 t326.length co41) : Value).ownBlock) (.slice Ao33 t316.length co33) t344) ∧ Aside0 (Kd.R k70 70 wc w.heap.size (fun k_ => some k_ ≠ ((.slice Ao24 t302.length co24) : Value).ownBlock ∧ some k_ ≠ ((.slice Ao32 t313.length co32) : Value).ownBlock) (.slice Ao40 t323.length co40) t323) ∧ Aside0 (Kd.R k74 74 wc w.heap.size (fun k_ => some k_ ≠ ((.slice Ao25 t305.length co25) : Value).ownBlock ∧ some k_ ≠ ((.slice Ao33 t316.length co33) : Value).ownBlock) (.slice Ao41 t326.length co41) t326) ∧ Aside0 (wc.heap[gb288]? = some (.cells #[.int .i64 a0_0, .int .i64 a0_1, .int .i64 a0_2, (.slice A0_3 l0_3.length c0_3), (.slice A0_4 l0_4.length c0_4)] 25 (0, 0))) ∧ Aside0 (wc.heap[gb309]? = some (.cells #[.int .i64 t299, .int .i64 t300, .int .i64 t301, (.slice Ao24 t302.length co24), (.slice Ao25 t305.length co25)] 31 (0, 0))) ∧ Aside0 (wc.heap[gb319]? = some (.cells #[.int .i64 t310, .int .i64 t311, .int .i64 t312, (.slice Ao32 t313.length co32), (.slice Ao33 t316.length co33)] 31 (0, 0))) ∧ Aside0 (wc.heap[gb330]? = some (.cells #[.int .i64 t320, .int .i64 t321, .int .i64 t322, (.slice Ao40 t323.length co40), (.slice Ao41 t326.length co41)] 31 (0, 0))) ∧ Aside0 (Below w.heap.size w wc))
      case first =>
       have H := HC65.out
       clear HC65
       by_cases c76 : t342 < 0
       ·rw [if_pos c76] at H
        have c76b0 : decide (t342 < 0) = true := decide_eq_true c76
        clear c76
        (first | rw [c76b0] | (simp only [i64_w, i32_w]; rw [c76b0]) | skip)
        have H' := Aside0.mk H
        clear H
        go_wp2
        go_meet
        case rel => exact ⟨_, (true), (by first | rfl | (simp; done) | (simp [*]; done)), H', ⟨by have := HJ11.out; first | omega | exact Nat.le_refl _⟩, ⟨by (with_reducible repeat (first | apply Kd.R_alloc | apply Kd.R_drewN | apply Kd.R_drew)); exact Kd.R_mono HO_310003.out (fun _ hk => by first | exact ⟨hk.1, hk.2.1⟩ | grind)⟩, ⟨by (with_reducible repeat (first | apply Kd.R_alloc | apply Kd.R_drewN | apply Kd.R_drew)); exact Kd.R_mono HO_310004.out (fun _ hk => by first | exact ⟨hk.1, hk.2.1⟩ | grind)⟩, ⟨by (with_reducible repeat (first | apply Kd.R_alloc | apply Kd.R_drewN | apply Kd.R_drew)); exact Kd.R_mono HO_320003.out (fun _ hk => by first | exact ⟨hk.1.1, hk.1.2⟩ | grind)⟩, ⟨by (with_reducible repeat (first | apply Kd.R_alloc | apply Kd.R_drewN | apply Kd.R_drew)); exact Kd.R_mono HO_320004.out (fun _ hk => by first | exact ⟨hk.1.1, hk.1.2⟩ | grind)⟩, ⟨by (with_reducible repeat (first | apply Kd.R_alloc | apply Kd.R_drewN | apply Kd.R_drew)); exact Kd.R_mono HO_331003.out (fun _ hk => by first | exact ⟨hk.1, hk.2.1⟩ | grind)⟩, ⟨by (with_reducible repeat (first | apply Kd.R_alloc | apply Kd.R_drewN | apply Kd.R_drew)); exact Kd.R_mono HO_331004.out (fun _ hk => by first | exact ⟨hk.1, hk.2.1⟩ | grind)⟩, ⟨by (with_reducible repeat (first | refine blk_drewN ?_ _ | refine blk_drew ?_ | refine blk_alloc ?_ _)); exact BK288.out⟩, ⟨by (with_reducible repeat (first | refine blk_drewN ?_ _ | refine blk_drew ?_ | refine blk_alloc ?_ _)); exact BK309.out⟩, ⟨by (with_reducible repeat (first | refine blk_drewN ?_ _ | refine blk_drew ?_ | refine blk_alloc ?_ _)); exact BK319.out⟩, ⟨by (with_reducible repeat (first | refine blk_drewN ?_ _ | refine blk_drew ?_ | refine blk_alloc ?_ _)); exact BK330.out⟩, ⟨by repeat (first | (with_reducible first | exact HB.out | apply below_alloc | apply pw_below_drewN | apply below_drew1 | refine below_set ?_ GE288.out | refine below_set ?_ GE309.out | refine below_set ?_ GE319.out | refine below_set ?_ GE330.out) | exact HB.out)⟩⟩
       ·rw [if_neg c76] at H
        have c76b0 : decide (t342 < 0) = false := decide_eq_false c76
        clear c76
        (first | rw [c76b0] | (simp only [i64_w, i32_w]; rw [c76b0]) | skip)
        replace H := Option.bind_eq_some_iff.mp H
        obtain ⟨t345, A770, H⟩ := H
        have A77 := Aside0.mk A770
        clear A770
        by_cases c78 : t345 = true
        ·subst c78
         rw [if_pos rfl] at H
         have H' := Aside0.mk H
         clear H
         have hnb79 := NB330_288.out
         have hnc79 := NB288_330.out
         have hnb80 := NB330_309.out
         have hnc80 := NB309_330.out
         have hnb81 := NB330_319.out
         have hnc81 := NB319_330.out
         have hcz82_0 := cz_ BK330 0 (.int .i64 t320)
         have hcz82_1 := cz_ BK330 1 (.int .i64 t321)
         have hcz82_2 := cz_ BK330 2 (.int .i64 t322)
         have hcz82_3 := cz_ BK330 3 (.slice Ao40 t323.length co40)
         have hcz82_4 := cz_ BK330 4 (.slice Ao41 t326.length co41)
         have hfz82_0 := blk_frozen BK330.out 0
         have hfz82_1 := blk_frozen BK330.out 1
         have hfz82_2 := blk_frozen BK330.out 2
         have hfz82_3 := blk_frozen BK330.out 3
         have hfz82_4 := blk_frozen BK330.out 4
         have hnb83 := NB309_288.out
         have hnc83 := NB288_309.out
         have hnb84 := NB309_319.out
         have hnc84 := NB319_309.out
         have hcz85_0 := cz_ BK309 0 (.int .i64 t299)
         have hcz85_1 := cz_ BK309 1 (.int .i64 t300)
         have hcz85_2 := cz_ BK309 2 (.int .i64 t301)
         have hcz85_3 := cz_ BK309 3 (.slice Ao24 t302.length co24)
         have hcz85_4 := cz_ BK309 4 (.slice Ao25 t305.length co25)
         have hfz85_0 := blk_frozen BK309.out 0
         have hfz85_1 := blk_frozen BK309.out 1
         have hfz85_2 := blk_frozen BK309.out 2
         have hfz85_3 := blk_frozen BK309.out 3
         have hfz85_4 := blk_frozen BK309.out 4
         go_wp2_with (first | (go_at_call 17; (with_reducible refine (laws_eqLsa.calls kj11 t320 t321 t322 _ _ t323 _ _ t326 t299 t300 t301 _ _ t302 _ _ t305 true _ ?side1 ?side2 ?side3 ?side4 ?side5 ?side6 ?side7 ?side8 A77.out).mono ?_); (case side1 => exact rc_ HO_331003); (case side2 => exact (Kd.R_reads' HO_331003.out).2.1); (case side3 => exact rc_ HO_331004); (case side4 => exact (Kd.R_reads' HO_331004.out).2.1); (case side5 => exact rc_ HO_310003); (case side6 => exact (Kd.R_reads' HO_310003.out).2.1); (case side7 => exact rc_ HO_310004); (case side8 => exact (Kd.R_reads' HO_310004.out).2.1); rintro e w86 ⟨rfl, hb⟩; replace HO_310003 := rb_ HO_310003 hb; replace HO_310004 := rb_ HO_310004 hb; replace HO_320003 := rb_ HO_320003 hb; replace HO_320004 := rb_ HO_320004 hb; replace HO_331003 := rb_ HO_331003 hb; replace HO_331004 := rb_ HO_331004 hb; replace HO337 := rb_ HO337 hb; replace HO340 := rb_ HO340 hb; replace BK288 := Aside0.mk (bb_ BK288 hb); replace BK309 := Aside0.mk (bb_ BK309 hb); replace BK319 := Aside0.mk (bb_ BK319 hb); replace BK330 := Aside0.mk (bb_ BK330 hb); replace HB := Aside0.mk (bt_ HB hb); (try clear hb); (try clear hb2); (try clear hk); (try clear hi)))
         go_meet
         case rel => exact ⟨_, ((t329 != t308)), (by first | rfl | (simp; done) | (simp [*]; done)), H', ⟨by have := HJ11.out; first | omega | exact Nat.le_refl _⟩, ⟨by (with_reducible repeat (first | apply Kd.R_alloc | apply Kd.R_drewN | apply Kd.R_drew)); exact Kd.R_mono HO_310003.out (fun _ hk => by first | exact ⟨hk.1, hk.2.1⟩ | grind)⟩, ⟨by (with_reducible repeat (first | apply Kd.R_alloc | apply Kd.R_drewN | apply Kd.R_drew)); exact Kd.R_mono HO_310004.out (fun _ hk => by first | exact ⟨hk.1, hk.2.1⟩ | grind)⟩, ⟨by (with_reducible repeat (first | apply Kd.R_alloc | apply Kd.R_drewN | apply Kd.R_drew)); exact Kd.R_mono HO_320003.out (fun _ hk => by first | exact ⟨hk.1.1, hk.1.2⟩ | grind)⟩, ⟨by (with_reducible repeat (first | apply Kd.R_alloc | apply Kd.R_drewN | apply Kd.R_drew)); exact Kd.R_mono HO_320004.out (fun _ hk => by first | exact ⟨hk.1.1, hk.1.2⟩ | grind)⟩, ⟨by (with_reducible repeat (first | apply Kd.R_alloc | apply Kd.R_drewN | apply Kd.R_drew)); exact Kd.R_mono HO_331003.out (fun _ hk => by first | exact ⟨hk.1, hk.2.1⟩ | grind)⟩, ⟨by (with_reducible repeat (first | apply Kd.R_alloc | apply Kd.R_drewN | apply Kd.R_drew)); exact Kd.R_mono HO_331004.out (fun _ hk => by first | exact ⟨hk.1, hk.2.1⟩ | grind)⟩, ⟨by (with_reducible repeat (first | refine blk_drewN ?_ _ | refine blk_drew ?_ | refine blk_alloc ?_ _)); exact BK288.out⟩, ⟨by (with_reducible repeat (first | refine blk_drewN ?_ _ | refine blk_drew ?_ | refine blk_alloc ?_ _)); exact BK309.out⟩, ⟨by (with_reducible repeat (first | refine blk_drewN ?_ _ | refine blk_drew ?_ | refine blk_alloc ?_ _)); exact BK319.out⟩, ⟨by (with_reducible repeat (first | refine blk_drewN ?_ _ | refine blk_drew ?_ | refine blk_alloc ?_ _)); exact BK330.out⟩, ⟨by repeat (first | (with_reducible first | exact HB.out | apply below_alloc | apply pw_below_drewN | apply below_drew1 | refine below_set ?_ GE288.out | refine below_set ?_ GE309.out | refine below_set ?_ GE319.out | refine below_set ?_ GE330.out) | exact HB.out)⟩⟩
        ·replace c78 := Bool.eq_false_iff.mpr c78
         subst c78
         rw [if_neg (show ¬ (false = true) by decide)] at H
         have H' := Aside0.mk H
         clear H
         have hnb87 := NB330_288.out
         have hnc87 := NB288_330.out
         have hnb88 := NB330_309.out
         have hnc88 := NB309_330.out
         have hnb89 := NB330_319.out
         have hnc89 := NB319_330.out
         have hcz90_0 := cz_ BK330 0 (.int .i64 t320)
         have hcz90_1 := cz_ BK330 1 (.int .i64 t321)
         have hcz90_2 := cz_ BK330 2 (.int .i64 t322)
         have hcz90_3 := cz_ BK330 3 (.slice Ao40 t323.length co40)
         have hcz90_4 := cz_ BK330 4 (.slice Ao41 t326.length co41)
         have hfz90_0 := blk_frozen BK330.out 0
         have hfz90_1 := blk_frozen BK330.out 1
         have hfz90_2 := blk_frozen BK330.out 2
         have hfz90_3 := blk_frozen BK330.out 3
         have hfz90_4 := blk_frozen BK330.out 4
         have hnb91 := NB309_288.out
         have hnc91 := NB288_309.out
         have hnb92 := NB309_319.out
         have hnc92 := NB319_309.out
         have hcz93_0 := cz_ BK309 0 (.int .i64 t299)
         have hcz93_1 := cz_ BK309 1 (.int .i64 t300)
         have hcz93_2 := cz_ BK309 2 (.int .i64 t301)
         have hcz93_3 := cz_ BK309 3 (.slice Ao24 t302.length co24)
         have hcz93_4 := cz_ BK309 4 (.slice Ao25 t305.length co25)
         have hfz93_0 := blk_frozen BK309.out 0
         have hfz93_1 := blk_frozen BK309.out 1
         have hfz93_2 := blk_frozen BK309.out 2
         have hfz93_3 := blk_frozen BK309.out 3
         have hfz93_4 := blk_frozen BK309.out 4
         go_wp2_with (first | (go_at_call 17; (with_reducible refine (laws_eqLsa.calls kj11 t320 t321 t322 _ _ t323 _ _ t326 t299 t300 t301 _ _ t302 _ _ t305 false _ ?side1 ?side2 ?side3 ?side4 ?side5 ?side6 ?side7 ?side8 A77.out).mono ?_); (case side1 => exact rc_ HO_331003); (case side2 => exact (Kd.R_reads' HO_331003.out).2.1); (case side3 => exact rc_ HO_331004); (case side4 => exact (Kd.R_reads' HO_331004.out).2.1); (case side5 => exact rc_ HO_310003); (case side6 => exact (Kd.R_reads' HO_310003.out).2.1); (case side7 => exact rc_ HO_310004); (case side8 => exact (Kd.R_reads' HO_310004.out).2.1); rintro e w94 ⟨rfl, hb⟩; replace HO_310003 := rb_ HO_310003 hb; replace HO_310004 := rb_ HO_310004 hb; replace HO_320003 := rb_ HO_320003 hb; replace HO_320004 := rb_ HO_320004 hb; replace HO_331003 := rb_ HO_331003 hb; replace HO_331004 := rb_ HO_331004 hb; replace HO337 := rb_ HO337 hb; replace HO340 := rb_ HO340 hb; replace BK288 := Aside0.mk (bb_ BK288 hb); replace BK309 := Aside0.mk (bb_ BK309 hb); replace BK319 := Aside0.mk (bb_ BK319 hb); replace BK330 := Aside0.mk (bb_ BK330 hb); replace HB := Aside0.mk (bt_ HB hb); (try clear hb); (try clear hb2); (try clear hk); (try clear hi)))
         go_meet
         case rel => exact ⟨_, (true), (by first | rfl | (simp; done) | (simp [*]; done)), H', ⟨by have := HJ11.out; first | omega | exact Nat.le_refl _⟩, ⟨by (with_reducible repeat (first | apply Kd.R_alloc | apply Kd.R_drewN | apply Kd.R_drew)); exact Kd.R_mono HO_310003.out (fun _ hk => by first | exact ⟨hk.1, hk.2.1⟩ | grind)⟩, ⟨by (with_reducible repeat (first | apply Kd.R_alloc | apply Kd.R_drewN | apply Kd.R_drew)); exact Kd.R_mono HO_310004.out (fun _ hk => by first | exact ⟨hk.1, hk.2.1⟩ | grind)⟩, ⟨by (with_reducible repeat (first | apply Kd.R_alloc | apply Kd.R_drewN | apply Kd.R_drew)); exact Kd.R_mono HO_320003.out (fun _ hk => by first | exact ⟨hk.1.1, hk.1.2⟩ | grind)⟩, ⟨by (with_reducible repeat (first | apply Kd.R_alloc | apply Kd.R_drewN | apply Kd.R_drew)); exact Kd.R_mono HO_320004.out (fun _ hk => by first | exact ⟨hk.1.1, hk.1.2⟩ | grind)⟩, ⟨by (with_reducible repeat (first | apply Kd.R_alloc | apply Kd.R_drewN | apply Kd.R_drew)); exact Kd.R_mono HO_331003.out (fun _ hk => by first | exact ⟨hk.1, hk.2.1⟩ | grind)⟩, ⟨by (with_reducible repeat (first | apply Kd.R_alloc | apply Kd.R_drewN | apply Kd.R_drew)); exact Kd.R_mono HO_331004.out (fun _ hk => by first | exact ⟨hk.1, hk.2.1⟩ | grind)⟩, ⟨by (with_reducible repeat (first | refine blk_drewN ?_ _ | refine blk_drew ?_ | refine blk_alloc ?_ _)); exact BK288.out⟩, ⟨by (with_reducible repeat (first | refine blk_drewN ?_ _ | refine blk_drew ?_ | refine blk_alloc ?_ _)); exact BK309.out⟩, ⟨by (with_reducible repeat (first | refine blk_drewN ?_ _ | refine blk_drew ?_ | refine blk_alloc ?_ _)); exact BK319.out⟩, ⟨by (with_reducible repeat (first | refine blk_drewN ?_ _ | refine blk_drew ?_ | refine blk_alloc ?_ _)); exact BK330.out⟩, ⟨by repeat (first | (with_reducible first | exact HB.out | apply below_alloc | apply pw_below_drewN | apply below_drew1 | refine below_set ?_ GE288.out | refine below_set ?_ GE309.out | refine below_set ?_ GE319.out | refine below_set ?_ GE330.out) | exact HB.out)⟩⟩
      case rest =>
       clear HC65
       try clear c1
       try clear c2
       try clear p2
       try clear c3
       try clear c4
       try clear c4b0
       try clear c5
       try clear c6
       try clear c7
       try clear c8
       try clear c9
       try clear c13
       try clear c15
       try clear c17
       try clear c22
       try clear c29
       try clear c30
       try clear c35
       try clear c36
       try clear c37
       try clear c38
       try clear c39
       try clear c40
       try clear c43
       try clear c44
       try clear c45
       try clear c46
       try clear c48
       try clear c49
       try clear c52
       try clear c53
       try clear c54
       try clear c56
       try clear c57
       try clear c60
       try clear c63
       try clear c71
       try clear c72
       try clear c73
       try clear c76
       try clear c76b0
       try clear c78
       try clear c79
       try clear c80
       try clear c81
       try clear c83
       try clear c84
       try clear c87
       try clear c88
       try clear c89
       try clear c91
       try clear c92
       try clear hcz14_0
       try clear hcz14_1
       try clear hcz14_2
       try clear hcz14_3
       try clear hcz14_4
       try clear hcz16_0
       try clear hcz16_1
       try clear hcz16_2
       try clear hcz16_3
       try clear hcz16_4
       try clear hcz23_0
       try clear hcz23_1
       try clear hcz23_2
       try clear hcz23_3
       try clear hcz23_4
       try clear hcz26_0
       try clear hcz26_1
       try clear hcz26_2
       try clear hcz26_3
       try clear hcz26_4
       try clear hcz31_0
       try clear hcz31_1
       try clear hcz31_2
       try clear hcz31_3
       try clear hcz31_4
       try clear hcz39_0
       try clear hcz39_1
       try clear hcz39_2
       try clear hcz39_3
       try clear hcz39_4
       try clear hcz47_0
       try clear hcz47_1
       try clear hcz47_2
       try clear hcz47_3
       try clear hcz47_4
       try clear hcz50_0
       try clear hcz50_1
       try clear hcz50_2
       try clear hcz50_3
       try clear hcz50_4
       try clear hcz55_0
       try clear hcz55_1
       try clear hcz55_2
       try clear hcz55_3
       try clear hcz55_4
       try clear hcz58_0
       try clear hcz58_1
       try clear hcz58_2
       try clear hcz58_3
       try clear hcz58_4
       try clear hcz6_0
       try clear hcz6_1
       try clear hcz6_2
       try clear hcz6_3
       try clear hcz6_4
       try clear hcz74_0
       try clear hcz74_1
       try clear hcz74_2
       try clear hcz74_3
       try clear hcz74_4
       try clear hcz82_0
       try clear hcz82_1
       try clear hcz82_2
       try clear hcz82_3
       try clear hcz82_4
       try clear hcz85_0
       try clear hcz85_1
       try clear hcz85_2
       try clear hcz85_3
       try clear hcz85_4
       try clear hcz90_0
       try clear hcz90_1
       try clear hcz90_2
       try clear hcz90_3
       try clear hcz90_4
       try clear hcz93_0
       try clear hcz93_1
       try clear hcz93_2
       try clear hcz93_3
       try clear hcz93_4
       try clear hfz14_0
       try clear hfz14_1
       try clear hfz14_2
       try clear hfz14_3
       try clear hfz14_4
       try clear hfz16_0
       try clear hfz16_1
       try clear hfz16_2
       try clear hfz16_3
       try clear hfz16_4
       try clear hfz23_0
       try clear hfz23_1
       try clear hfz23_2
       try clear hfz23_3
       try clear hfz23_4
       try clear hfz26_0
       try clear hfz26_1
       try clear hfz26_2
       try clear hfz26_3
       try clear hfz26_4
       try clear hfz31_0
       try clear hfz31_1
       try clear hfz31_2
       try clear hfz31_3
       try clear hfz31_4
       try clear hfz39_0
       try clear hfz39_1
       try clear hfz39_2
       try clear hfz39_3
       try clear hfz39_4
       try clear hfz47_0
       try clear hfz47_1
       try clear hfz47_2
       try clear hfz47_3
       try clear hfz47_4
       try clear hfz50_0
       try clear hfz50_1
       try clear hfz50_2
       try clear hfz50_3
       try clear hfz50_4
       try clear hfz55_0
       try clear hfz55_1
       try clear hfz55_2
       try clear hfz55_3
       try clear hfz55_4
       try clear hfz58_0
       try clear hfz58_1
       try clear hfz58_2
       try clear hfz58_3
       try clear hfz58_4
       try clear hfz6_0
       try clear hfz6_1
       try clear hfz6_2
       try clear hfz6_3
       try clear hfz6_4
       try clear hfz74_0
       try clear hfz74_1
       try clear hfz74_2
       try clear hfz74_3
       try clear hfz74_4
       try clear hfz82_0
       try clear hfz82_1
       try clear hfz82_2
       try clear hfz82_3
       try clear hfz82_4
       try clear hfz85_0
       try clear hfz85_1
       try clear hfz85_2
       try clear hfz85_3
       try clear hfz85_4
       try clear hfz90_0
       try clear hfz90_1
       try clear hfz90_2
       try clear hfz90_3
       try clear hfz90_4
       try clear hfz93_0
       try clear hfz93_1
       try clear hfz93_2
       try clear hfz93_3
       try clear hfz93_4
       try clear p2
       obtain ⟨kq, x65_64, rfl, HA, HJ64, HO_310003, HO_310004, HO_320003, HO_320004, HO_331003, HO_331004, BK288, BK309, BK319, BK330, HB⟩ := hcut
       have hl320003_64 := (Kd.R_reads' HO_320003.out).1
       rw [hl320003_64] at HO_320003
       (try simp only [hl320003_64])
       (try simp only [hl320003_64] at BK288)
       (try simp only [hl320003_64] at BK309)
       (try simp only [hl320003_64] at BK319)
       (try simp only [hl320003_64] at BK330)
       (try simp only [hl320003_64] at HO_310003)
       (try simp only [hl320003_64] at HO_310004)
       (try simp only [hl320003_64] at HO_320004)
       (try simp only [hl320003_64] at HO_331003)
       (try simp only [hl320003_64] at HO_331004)
       have hl320004_64 := (Kd.R_reads' HO_320004.out).1
       rw [hl320004_64] at HO_320004
       (try simp only [hl320004_64])
       (try simp only [hl320004_64] at BK288)
       (try simp only [hl320004_64] at BK309)
       (try simp only [hl320004_64] at BK319)
       (try simp only [hl320004_64] at BK330)
       (try simp only [hl320004_64] at HO_310003)
       (try simp only [hl320004_64] at HO_310004)
       (try simp only [hl320004_64] at HO_320003)
       (try simp only [hl320004_64] at HO_331003)
       (try simp only [hl320004_64] at HO_331004)
       cases kq with
       | zero => exact absurd HA.out (by simp [laws_FnExactAgeLsa.j1])
       | succ kj64 =>
        have H := HA.out
        clear HA
        simp only [laws_FnExactAgeLsa.j1] at H
        by_cases c95 : x65_64 = true
        ·subst c95
         rw [if_pos rfl] at H
         obtain rfl := Option.some.inj H
         go_wp2
         go_ret
         exact ⟨by first | rfl | (simp [errW_none, errW_some] <;> rfl) | (simp [*, errW_none, errW_some] <;> rfl), by repeat (first | (with_reducible first | exact HB.out | apply below_alloc | apply pw_below_drewN | apply below_drew1 | refine below_set ?_ GE288.out | refine below_set ?_ GE309.out | refine below_set ?_ GE319.out | refine below_set ?_ GE330.out) | exact HB.out)⟩
        ·replace c95 := Bool.eq_false_iff.mpr c95
         subst c95
         rw [if_neg (show ¬ (false = true) by decide)] at H
         replace H := Option.bind_eq_some_iff.mp H
         obtain ⟨⟨t346, t347, t348⟩, A960, H⟩ := H
         have A96 := Aside0.mk A960
         clear A960
         replace H := Option.bind_eq_some_iff.mp H
         obtain ⟨t349, A970, H⟩ := H
         have A97 := Aside0.mk A970
         clear A970
         by_cases c98 : t349 < 0
         ·rw [if_pos c98] at H
          have c98b0 : decide (t349 < 0) = true := decide_eq_true c98
          clear c98
          obtain rfl := Option.some.inj H
          have hnb99 := NB330_288.out
          have hnc99 := NB288_330.out
          have hnb100 := NB330_309.out
          have hnc100 := NB309_330.out
          have hnb101 := NB330_319.out
          have hnc101 := NB319_330.out
          have hcz102_0 := cz_ BK330 0 (.int .i64 t320)
          have hcz102_1 := cz_ BK330 1 (.int .i64 t321)
          have hcz102_2 := cz_ BK330 2 (.int .i64 t322)
          have hcz102_3 := cz_ BK330 3 (.slice Ao40 t323.length co40)
          have hcz102_4 := cz_ BK330 4 (.slice Ao41 t326.length co41)
          have hfz102_0 := blk_frozen BK330.out 0
          have hfz102_1 := blk_frozen BK330.out 1
          have hfz102_2 := blk_frozen BK330.out 2
          have hfz102_3 := blk_frozen BK330.out 3
          have hfz102_4 := blk_frozen BK330.out 4
          go_wp2_with (first | ((with_reducible refine gate_callee (f := 35) rfl ?_); refine gl_ (some 68) Try.func35 #[.agg #[.int .i64 t320, .int .i64 t321, .int .i64 t322, .slice Ao40 t323.length co40, .slice Ao41 t326.length co41], .int .i64 1] ?_; (with_reducible refine (laws_markLsa.calls kj64 t320 t321 t322 (fun k_ => some k_ = (.slice Ao40 t323.length co40 : Value).ownBlock) (.slice Ao40 t323.length co40) t323 (fun k_ => some k_ = (.slice Ao41 t326.length co41 : Value).ownBlock) (.slice Ao41 t326.length co41) t326 1 t346 t347 t348 w _ ?side1 ?side2 ?side3 A96.out).mono ?_); (case side1 => exact by_ HB); (case side2 => exact Kd.R_tight rfl HO_331003.out); (case side3 => exact Kd.R_tight rfl HO_331004.out); rintro e w103 ⟨rfl, hy0, hy1, hb, hkp⟩; refine ⟨_, rfl, ?_⟩; replace HO_310003 := kp_ (fun k_ => some k_ ≠ (.slice Ao32 t343.length co32 : Value).ownBlock ∧ some k_ ≠ (.slice Ao40 t323.length co40 : Value).ownBlock) ((Kd.R_apart' HO_310003.out (Kd.R_typed HO_331004.out) (by decide))) hkp; replace HO_310004 := kp_ (fun k_ => some k_ ≠ (.slice Ao33 t344.length co33 : Value).ownBlock ∧ some k_ ≠ (.slice Ao41 t326.length co41 : Value).ownBlock) ((Kd.R_apart' HO_310004.out (Kd.R_typed HO_331003.out) (by decide))) hkp; replace HO_320003 := kp_ (fun k_ => some k_ ≠ (.slice Ao24 t302.length co24 : Value).ownBlock ∧ some k_ ≠ (.slice Ao40 t323.length co40 : Value).ownBlock) ((Kd.R_apart' HO_320003.out (Kd.R_typed HO_331004.out) (by decide))) hkp; replace HO_320004 := kp_ (fun k_ => some k_ ≠ (.slice Ao25 t305.length co25 : Value).ownBlock ∧ some k_ ≠ (.slice Ao41 t326.length co41 : Value).ownBlock) ((Kd.R_apart' HO_320004.out (Kd.R_typed HO_331003.out) (by decide))) hkp; replace BK288 := bk_ BK288 hkp (fun hs_ => Or.elim hs_ (Kd.R_ne HO_331003.out BK288.out (by decide)) (Kd.R_ne HO_331004.out BK288.out (by decide))); replace BK309 := bk_ BK309 hkp (fun hs_ => Or.elim hs_ (Kd.R_ne HO_331003.out BK309.out (by decide)) (Kd.R_ne HO_331004.out BK309.out (by decide))); replace BK319 := bk_ BK319 hkp (fun hs_ => Or.elim hs_ (Kd.R_ne HO_331003.out BK319.out (by decide)) (Kd.R_ne HO_331004.out BK319.out (by decide))); replace BK330 := bk_ BK330 hkp (fun hs_ => Or.elim hs_ (Kd.R_ne HO_331003.out BK330.out (by decide)) (Kd.R_ne HO_331004.out BK330.out (by decide))); replace HO_331003 := Aside0.mk (Kd.R_reok rfl hy0 (fun k_ e_ => HO_331003.out.1 k_ e_)); replace HO_331004 := Aside0.mk (Kd.R_reok rfl hy1 (fun k_ e_ => HO_331004.out.1 k_ e_)); replace HB := Aside0.mk (hb); (try clear hb); (try clear hkp); (try clear hy0); (try clear hy1); have hcz104_0 := cz_ BK330 0 (.int .i64 t320); have hcz104_1 := cz_ BK330 1 (.int .i64 t321); have hcz104_2 := cz_ BK330 2 (.int .i64 t322); have hcz104_3 := cz_ BK330 3 (.slice Ao40 t323.length co40); have hcz104_4 := cz_ BK330 4 (.slice Ao41 t326.length co41); have hfz104_0 := blk_frozen BK330.out 0; have hfz104_1 := blk_frozen BK330.out 1; have hfz104_2 := blk_frozen BK330.out 2; have hfz104_3 := blk_frozen BK330.out 3; have hfz104_4 := blk_frozen BK330.out 4) | ((with_reducible refine gate_callee (f := 38) rfl ?_); refine goesL_ (some 71) rfl rfl Try.func38 (by kernel_rfl) rfl #[.agg #[.int .i64 t320, .int .i64 t321, .int .i64 t322, .slice Ao40 t347.length co40, .slice Ao41 t348.length co41], .int .i64 1] rfl (by (try simp only [List.map_toArray, List.map_cons, List.map_nil]); first | done | (rw [show t347.length = t323.length from (Kd.R_reads' HO_331003.out).1.symm, show t348.length = t326.length from (Kd.R_reads' HO_331004.out).1.symm] <;> rfl) | rfl | (simp only [List.length_drop, List.length_take]; rfl)) ?_; (with_reducible refine (laws_heldLsa.calls kj64 t320 t321 t322 _ _ t347 _ _ t348 1 t349 _ ?side1 ?side2 ?side3 ?side4 A97.out).mono ?_); (case side1 => exact rc_ HO_331003); (case side2 => rw [show t347.length = t323.length from (Kd.R_reads' HO_331003.out).1.symm]; exact (Kd.R_reads' HO_331003.out).2.1); (case side3 => exact rc_ HO_331004); (case side4 => rw [show t348.length = t326.length from (Kd.R_reads' HO_331004.out).1.symm]; exact (Kd.R_reads' HO_331004.out).2.1); rintro e w105 ⟨rfl, hb⟩; refine ⟨_, rfl, ?_⟩; replace HO_310003 := rb_ HO_310003 hb; replace HO_310004 := rb_ HO_310004 hb; replace HO_320003 := rb_ HO_320003 hb; replace HO_320004 := rb_ HO_320004 hb; replace HO_331003 := rb_ HO_331003 hb; replace HO_331004 := rb_ HO_331004 hb; replace BK288 := Aside0.mk (bb_ BK288 hb); replace BK309 := Aside0.mk (bb_ BK309 hb); replace BK319 := Aside0.mk (bb_ BK319 hb); replace BK330 := Aside0.mk (bb_ BK330 hb); replace HB := Aside0.mk (bt_ HB hb); (try clear hb); (try clear hb2); (try clear hk); (try clear hi)))
          go_ret
          exact ⟨by first | rfl | (simp [errW_none, errW_some] <;> rfl) | (simp [*, errW_none, errW_some] <;> rfl), by repeat (first | (with_reducible first | exact HB.out | apply below_alloc | apply pw_below_drewN | apply below_drew1 | refine below_set ?_ GE288.out | refine below_set ?_ GE309.out | refine below_set ?_ GE319.out | refine below_set ?_ GE330.out) | exact HB.out)⟩
         ·rw [if_neg c98] at H
          have c98b0 : decide (t349 < 0) = false := decide_eq_false c98
          clear c98
          by_cases c106 : t349 = t346
          ·rw [if_pos c106] at H
           have c106b0 : (t349 == t346) = true := beq_iff_eq.mpr c106
           have c106b1 : (t349 != t346) = false := bne_eq_false_iff_eq.mpr c106
           clear c106
           replace H := Option.bind_eq_some_iff.mp H
           obtain ⟨⟨t350, t351, t352, t353, t356⟩, A1070, H⟩ := H
           have A107 := Aside0.mk A1070
           clear A1070
           replace H := Option.bind_eq_some_iff.mp H
           obtain ⟨⟨t359, t360, t361, t362, t365, t368⟩, A1080, H⟩ := H
           have A108 := Aside0.mk A1080
           clear A1080
           have HC109 := Aside0.mk H
           clear H
           have hnb110 := NB330_288.out
           have hnc110 := NB288_330.out
           have hnb111 := NB330_309.out
           have hnc111 := NB309_330.out
           have hnb112 := NB330_319.out
           have hnc112 := NB319_330.out
           have hcz113_0 := cz_ BK330 0 (.int .i64 t320)
           have hcz113_1 := cz_ BK330 1 (.int .i64 t321)
           have hcz113_2 := cz_ BK330 2 (.int .i64 t322)
           have hcz113_3 := cz_ BK330 3 (.slice Ao40 t323.length co40)
           have hcz113_4 := cz_ BK330 4 (.slice Ao41 t326.length co41)
           have hfz113_0 := blk_frozen BK330.out 0
           have hfz113_1 := blk_frozen BK330.out 1
           have hfz113_2 := blk_frozen BK330.out 2
           have hfz113_3 := blk_frozen BK330.out 3
           have hfz113_4 := blk_frozen BK330.out 4
           go_upto_region 25 with (first | ((with_reducible refine gate_callee (f := 35) rfl ?_); refine gl_ (some 68) Try.func35 #[.agg #[.int .i64 t320, .int .i64 t321, .int .i64 t322, .slice Ao40 t323.length co40, .slice Ao41 t326.length co41], .int .i64 1] ?_; (with_reducible refine (laws_markLsa.calls kj64 t320 t321 t322 (fun k_ => some k_ = (.slice Ao40 t323.length co40 : Value).ownBlock) (.slice Ao40 t323.length co40) t323 (fun k_ => some k_ = (.slice Ao41 t326.length co41 : Value).ownBlock) (.slice Ao41 t326.length co41) t326 1 t346 t347 t348 w _ ?side1 ?side2 ?side3 A96.out).mono ?_); (case side1 => exact by_ HB); (case side2 => exact Kd.R_tight rfl HO_331003.out); (case side3 => exact Kd.R_tight rfl HO_331004.out); rintro e w114 ⟨rfl, hy0, hy1, hb, hkp⟩; refine ⟨_, rfl, ?_⟩; replace HO_310003 := kp_ (fun k_ => some k_ ≠ (.slice Ao32 t343.length co32 : Value).ownBlock ∧ some k_ ≠ (.slice Ao40 t323.length co40 : Value).ownBlock) ((Kd.R_apart' HO_310003.out (Kd.R_typed HO_331004.out) (by decide))) hkp; replace HO_310004 := kp_ (fun k_ => some k_ ≠ (.slice Ao33 t344.length co33 : Value).ownBlock ∧ some k_ ≠ (.slice Ao41 t326.length co41 : Value).ownBlock) ((Kd.R_apart' HO_310004.out (Kd.R_typed HO_331003.out) (by decide))) hkp; replace HO_320003 := kp_ (fun k_ => some k_ ≠ (.slice Ao24 t302.length co24 : Value).ownBlock ∧ some k_ ≠ (.slice Ao40 t323.length co40 : Value).ownBlock) ((Kd.R_apart' HO_320003.out (Kd.R_typed HO_331004.out) (by decide))) hkp; replace HO_320004 := kp_ (fun k_ => some k_ ≠ (.slice Ao25 t305.length co25 : Value).ownBlock ∧ some k_ ≠ (.slice Ao41 t326.length co41 : Value).ownBlock) ((Kd.R_apart' HO_320004.out (Kd.R_typed HO_331003.out) (by decide))) hkp; replace BK288 := bk_ BK288 hkp (fun hs_ => Or.elim hs_ (Kd.R_ne HO_331003.out BK288.out (by decide)) (Kd.R_ne HO_331004.out BK288.out (by decide))); replace BK309 := bk_ BK309 hkp (fun hs_ => Or.elim hs_ (Kd.R_ne HO_331003.out BK309.out (by decide)) (Kd.R_ne HO_331004.out BK309.out (by decide))); replace BK319 := bk_ BK319 hkp (fun hs_ => Or.elim hs_ (Kd.R_ne HO_331003.out BK319.out (by decide)) (Kd.R_ne HO_331004.out BK319.out (by decide))); replace BK330 := bk_ BK330 hkp (fun hs_ => Or.elim hs_ (Kd.R_ne HO_331003.out BK330.out (by decide)) (Kd.R_ne HO_331004.out BK330.out (by decide))); replace HO_331003 := Aside0.mk (Kd.R_reok rfl hy0 (fun k_ e_ => HO_331003.out.1 k_ e_)); replace HO_331004 := Aside0.mk (Kd.R_reok rfl hy1 (fun k_ e_ => HO_331004.out.1 k_ e_)); replace HB := Aside0.mk (hb); (try clear hb); (try clear hkp); (try clear hy0); (try clear hy1); have hcz115_0 := cz_ BK330 0 (.int .i64 t320); have hcz115_1 := cz_ BK330 1 (.int .i64 t321); have hcz115_2 := cz_ BK330 2 (.int .i64 t322); have hcz115_3 := cz_ BK330 3 (.slice Ao40 t323.length co40); have hcz115_4 := cz_ BK330 4 (.slice Ao41 t326.length co41); have hfz115_0 := blk_frozen BK330.out 0; have hfz115_1 := blk_frozen BK330.out 1; have hfz115_2 := blk_frozen BK330.out 2; have hfz115_3 := blk_frozen BK330.out 3; have hfz115_4 := blk_frozen BK330.out 4) | ((with_reducible refine gate_callee (f := 38) rfl ?_); refine goesL_ (some 71) rfl rfl Try.func38 (by kernel_rfl) rfl #[.agg #[.int .i64 t320, .int .i64 t321, .int .i64 t322, .slice Ao40 t347.length co40, .slice Ao41 t348.length co41], .int .i64 1] rfl (by (try simp only [List.map_toArray, List.map_cons, List.map_nil]); first | done | (rw [show t347.length = t323.length from (Kd.R_reads' HO_331003.out).1.symm, show t348.length = t326.length from (Kd.R_reads' HO_331004.out).1.symm] <;> rfl) | rfl | (simp only [List.length_drop, List.length_take]; rfl)) ?_; (with_reducible refine (laws_heldLsa.calls kj64 t320 t321 t322 _ _ t347 _ _ t348 1 t349 _ ?side1 ?side2 ?side3 ?side4 A97.out).mono ?_); (case side1 => exact rc_ HO_331003); (case side2 => rw [show t347.length = t323.length from (Kd.R_reads' HO_331003.out).1.symm]; exact (Kd.R_reads' HO_331003.out).2.1); (case side3 => exact rc_ HO_331004); (case side4 => rw [show t348.length = t326.length from (Kd.R_reads' HO_331004.out).1.symm]; exact (Kd.R_reads' HO_331004.out).2.1); rintro e w116 ⟨rfl, hb⟩; refine ⟨_, rfl, ?_⟩; replace HO_310003 := rb_ HO_310003 hb; replace HO_310004 := rb_ HO_310004 hb; replace HO_320003 := rb_ HO_320003 hb; replace HO_320004 := rb_ HO_320004 hb; replace HO_331003 := rb_ HO_331003 hb; replace HO_331004 := rb_ HO_331004 hb; replace BK288 := Aside0.mk (bb_ BK288 hb); replace BK309 := Aside0.mk (bb_ BK309 hb); replace BK319 := Aside0.mk (bb_ BK319 hb); replace BK330 := Aside0.mk (bb_ BK330 hb); replace HB := Aside0.mk (bt_ HB hb); (try clear hb); (try clear hb2); (try clear hk); (try clear hi); have hnb117 := NB288_309.out; have hnc117 := NB309_288.out; have hnb118 := NB288_319.out; have hnc118 := NB319_288.out; have hcz119_0 := cz_ BK288 0 (.int .i64 a0_0); have hcz119_1 := cz_ BK288 1 (.int .i64 a0_1); have hcz119_2 := cz_ BK288 2 (.int .i64 a0_2); have hcz119_3 := cz_ BK288 3 (.slice A0_3 l0_3.length c0_3); have hcz119_4 := cz_ BK288 4 (.slice A0_4 l0_4.length c0_4); have hfz119_0 := blk_frozen BK288.out 0; have hfz119_1 := blk_frozen BK288.out 1; have hfz119_2 := blk_frozen BK288.out 2; have hfz119_3 := blk_frozen BK288.out 3; have hfz119_4 := blk_frozen BK288.out 4) | ((with_reducible refine gate_callee (f := 15) rfl ?_); refine gl_ (some 79) Try.func15 #[.agg #[.int .i64 a0_0, .int .i64 a0_1, .int .i64 a0_2, .slice A0_3 l0_3.length c0_3, .slice A0_4 l0_4.length c0_4]] ?_; (with_reducible refine (laws_toLsa.calls kj64 a0_0 a0_1 a0_2 _ _ l0_3 _ _ l0_4 t350 t351 t352 t353 t356 _ ?side1 ?side2 ?side3 ?side4 A107.out).mono ?_); (case side1 => exact cb_ HR0_3 HB); (case side2 => exact HC0_3.out); (case side3 => exact cb_ HR0_4 HB); (case side4 => exact HC0_4.out); rintro e w120 ⟨v354, v357, rfl, ho0, ho1, hb⟩; refine ⟨_, rfl, ?_⟩; have HO355 := Aside0.mk (Kd.R_lower (Kd.R_new' (Kd.R_new' (Kd.R_new' ho0 (Kd.R_lt (hd_ HO_310003))) (Kd.R_lt (hd_ HO_320003))) (Kd.R_lt (hd_ HO_331003))) (bz_ HB)); have HO358 := Aside0.mk (Kd.R_lower (Kd.R_new' (Kd.R_new' (Kd.R_new' ho1 (Kd.R_lt (hd_ HO_310004))) (Kd.R_lt (hd_ HO_320004))) (Kd.R_lt (hd_ HO_331004))) (bz_ HB)); replace HO_310003 := Aside0.mk (Kd.R_elder' (hd_ HO_310003) (Kd.R_base ho0) hb); replace HO_320003 := Aside0.mk (Kd.R_elder' (hd_ HO_320003) (Kd.R_base ho0) hb); replace HO_331003 := Aside0.mk (Kd.R_elder' (hd_ HO_331003) (Kd.R_base ho0) hb); replace HO_310004 := Aside0.mk (Kd.R_elder' (hd_ HO_310004) (Kd.R_base ho1) hb); replace HO_320004 := Aside0.mk (Kd.R_elder' (hd_ HO_320004) (Kd.R_base ho1) hb); replace HO_331004 := Aside0.mk (Kd.R_elder' (hd_ HO_331004) (Kd.R_base ho1) hb); replace BK288 := Aside0.mk (bb_ BK288 hb); replace BK309 := Aside0.mk (bb_ BK309 hb); replace BK319 := Aside0.mk (bb_ BK319 hb); replace BK330 := Aside0.mk (bb_ BK330 hb); replace HB := Aside0.mk (bt_ HB hb); (try clear hb); (try clear hb2); (try clear hk); (try clear hi); (try clear ho0); (try clear ho1); obtain ⟨Ao121, co121, eo121⟩ := Kd.R_slice HO355.out; subst eo121; obtain ⟨Ao122, co122, eo122⟩ := Kd.R_slice HO358.out; subst eo122) | ((with_reducible refine gate_callee (f := 40) rfl ?_); refine gl_ (some 81) Try.func40 #[.agg #[.int .i64 t350, .int .i64 t351, .int .i64 t352, .slice Ao121 t353.length co121, .slice Ao122 t356.length co122], .int .i64 a1] ?_; (with_reducible refine (impl_AgeLsa.calls kj64 t350 t351 t352 _ _ t353 _ _ t356 a1 t359 t360 t361 t362 t365 t368 _ ?side1 ?side2 ?side3 ?side4 A108.out).mono ?_); (case side1 => exact rc_ HO355); (case side2 => exact (Kd.R_reads' HO355.out).2.1); (case side3 => exact rc_ HO358); (case side4 => exact (Kd.R_reads' HO358.out).2.1); rintro e w123 ⟨v363, v366, rfl, ho0, ho1, hb⟩; refine ⟨_, rfl, ?_⟩; have HO364 := Aside0.mk (Kd.R_lower (Kd.R_new' (Kd.R_new' (Kd.R_new' (Kd.R_new' ho0 (Kd.R_lt (hd_ HO_310003))) (Kd.R_lt (hd_ HO_320003))) (Kd.R_lt (hd_ HO_331003))) (Kd.R_lt (hd_ HO355))) (bz_ HB)); have HO367 := Aside0.mk (Kd.R_lower (Kd.R_new' (Kd.R_new' (Kd.R_new' (Kd.R_new' ho1 (Kd.R_lt (hd_ HO_310004))) (Kd.R_lt (hd_ HO_320004))) (Kd.R_lt (hd_ HO_331004))) (Kd.R_lt (hd_ HO358))) (bz_ HB)); replace HO_310003 := Aside0.mk (Kd.R_elder' (hd_ HO_310003) (Kd.R_base ho0) hb); replace HO_320003 := Aside0.mk (Kd.R_elder' (hd_ HO_320003) (Kd.R_base ho0) hb); replace HO_331003 := Aside0.mk (Kd.R_elder' (hd_ HO_331003) (Kd.R_base ho0) hb); replace HO355 := Aside0.mk (Kd.R_elder' (hd_ HO355) (Kd.R_base ho0) hb); replace HO_310004 := Aside0.mk (Kd.R_elder' (hd_ HO_310004) (Kd.R_base ho1) hb); replace HO_320004 := Aside0.mk (Kd.R_elder' (hd_ HO_320004) (Kd.R_base ho1) hb); replace HO_331004 := Aside0.mk (Kd.R_elder' (hd_ HO_331004) (Kd.R_base ho1) hb); replace HO358 := Aside0.mk (Kd.R_elder' (hd_ HO358) (Kd.R_base ho1) hb); replace BK288 := Aside0.mk (bb_ BK288 hb); replace BK309 := Aside0.mk (bb_ BK309 hb); replace BK319 := Aside0.mk (bb_ BK319 hb); replace BK330 := Aside0.mk (bb_ BK330 hb); replace HB := Aside0.mk (bt_ HB hb); (try clear hb); (try clear hb2); (try clear hk); (try clear hi); (try clear ho0); (try clear ho1)) | ((with_reducible refine gate_dst (N := 14) rfl ?_); refine box_event ?hg (N := 14) ?hd (cs := #[.int .i64 0, .int .i64 0, .int .i64 0, .slice none 0 0, .slice none 0 0]) (t := 31) ?hr ?_; (case hd => rfl); (case hg => rfl); (case hr => first | (go_simp; done) | (go_simp; rfl)); intro gb369 hg w124 hbox hb; have BK369 := Aside0.mk hbox; have GW369 := ge_ HB hg; have GE369 := ge_ HB hg; have NB288_369 := nl_ BK288 hg; have NB369_288 := ng_ BK288 hg; have NB309_369 := nl_ BK309 hg; have NB369_309 := ng_ BK309 hg; have NB319_369 := nl_ BK319 hg; have NB369_319 := ng_ BK319 hg; have NB330_369 := nl_ BK330 hg; have NB369_330 := ng_ BK330 hg; replace HO_310003 := rb_ HO_310003 hb; replace HO_310004 := rb_ HO_310004 hb; replace HO_320003 := rb_ HO_320003 hb; replace HO_320004 := rb_ HO_320004 hb; replace HO_331003 := rb_ HO_331003 hb; replace HO_331004 := rb_ HO_331004 hb; replace HO355 := rb_ HO355 hb; replace HO358 := rb_ HO358 hb; replace HO364 := rb_ HO364 hb; replace HO367 := rb_ HO367 hb; replace HB := Aside0.mk (bt_ HB hb); replace BK288 := Aside0.mk (bb_ BK288 hb); replace BK309 := Aside0.mk (bb_ BK309 hb); replace BK319 := Aside0.mk (bb_ BK319 hb); replace BK330 := Aside0.mk (bb_ BK330 hb); clear hb hbox hg; have hnb125 := NB369_288.out; have hnc125 := NB288_369.out; have hnb126 := NB369_309.out; have hnc126 := NB309_369.out; have hnb127 := NB369_319.out; have hnc127 := NB319_369.out; have hnb128 := NB369_330.out; have hnc128 := NB330_369.out; have hcz129_0 := cz_ BK369 0 (.int .i64 0); have hcz129_1 := cz_ BK369 1 (.int .i64 0); have hcz129_2 := cz_ BK369 2 (.int .i64 0); have hcz129_3 := cz_ BK369 3 (.slice none 0 0); have hcz129_4 := cz_ BK369 4 (.slice none 0 0); have hfz129_0 := blk_frozen BK369.out 0; have hfz129_1 := blk_frozen BK369.out 1; have hfz129_2 := blk_frozen BK369.out 2; have hfz129_3 := blk_frozen BK369.out 3; have hfz129_4 := blk_frozen BK369.out 4; obtain ⟨Ao130, co130, eo130⟩ := Kd.R_slice HO364.out; subst eo130; obtain ⟨Ao131, co131, eo131⟩ := Kd.R_slice HO367.out; subst eo131))
           (try simp only [Act.put, List.setIfInBounds_toArray, List.set_cons_zero, List.set_cons_succ])
           go_cut [92] (fun v92 wc => ∃ (kq : Nat) (x92_108 : Bool), v92 = .bool x92_108 ∧ Aside0 (laws_FnExactAgeLsa.j2 kq t346 x92_108 t320 t321 t322 t347 t348 = some r) ∧ Aside0 (kq ≤ kj64) ∧ Aside0 (Kd.R k70 70 wc w.heap.size (fun k_ => some k_ ≠ ((.slice Ao32 t343.length co32) : Value).ownBlock ∧ some k_ ≠ ((.slice Ao40 t323.length co40) : Value).ownBlock ∧ some k_ ≠ ((.slice Ao130 t362.length co130) : Value).ownBlock) (.slice Ao24 t302.length co24) t302) ∧ Aside0 (Kd.R k74 74 wc w.heap.size (fun k_ => some k_ ≠ ((.slice Ao33 t344.length co33) : Value).ownBlock ∧ some k_ ≠ ((.slice Ao41 t326.length co41) : Value).ownBlock ∧ some k_ ≠ ((.slice Ao131 t365.length co131) : Value).ownBlock) (.slice Ao25 t305.length co25) t305) ∧ Aside0 (Kd.R k70 70 wc w.heap.size (fun k_ => some k_ ≠ ((.slice Ao24 t302.length co24) : Value).ownBlock ∧ some k_ ≠ ((.slice Ao40 t323.length co40) : Value).ownBlock ∧ some k_ ≠ ((.slice Ao130 t362.length co130) : Value).ownBlock) (.slice Ao32 t343.length co32) t343) ∧ Aside0 (Kd.R k74 74 wc w.heap.size (fun k_ => some k_ ≠ ((.slice Ao25 t305.length co25) : Value).ownBlock ∧ some k_ ≠ ((.slice Ao41 t326.length co41) : Value).ownBlock ∧ some k_ ≠ ((.slice Ao131 t365.length co131) : Value).ownBlock) (.slice Ao33 t344.length co33) t344) ∧ Aside0 (Kd.R k70 70 wc w.heap.size (fun k_ => some k_ ≠ ((.slice Ao24 t302.length co24) : Value).ownBlock ∧ some k_ ≠ ((.slice Ao32 t343.length co32) : Value).ownBlock ∧ some k_ ≠ ((.slice Ao130 t362.length co130) : Value).ownBlock) (.slice Ao40 t323.length co40) t347) ∧ Aside0 (Kd.R k74 74 wc w.heap.size (fun k_ => some k_ ≠ ((.slice Ao25 t305.length co25) : Value).ownBlock ∧ some k_ ≠ ((.slice Ao33 t344.length co33) : Value).ownBlock ∧ some k_ ≠ ((.slice Ao131 t365.length co131) : Value).ownBlock) (.slice Ao41 t326.length co41) t348) ∧ Aside0 (Kd.R k70 70 wc w.heap.size (fun k_ => some k_ ≠ ((.slice Ao24 t302.length co24) : Value).ownBlock ∧ some k_ ≠ ((.slice Ao32 t343.length co32) : Value).ownBlock ∧ some k_ ≠ ((.slice Ao40 t323.length co40) : Value).ownBlock) (.slice Ao130 t362.length co130) t362) ∧ Aside0 (Kd.R k74 74 wc w.heap.size (fun k_ => some k_ ≠ ((.slice Ao25 t305.length co25) : Value).ownBlock ∧ some k_ ≠ ((.slice Ao33 t344.length co33) : Value).ownBlock ∧ some k_ ≠ ((.slice Ao41 t326.length co41) : Value).ownBlock) (.slice Ao131 t365.length co131) t365) ∧ Aside0 (wc.heap[gb288]? = some (.cells #[.int .i64 a0_0, .int .i64 a0_1, .int .i64 a0_2, (.slice A0_3 l0_3.length c0_3), (.slice A0_4 l0_4.length c0_4)] 25 (0, 0))) ∧ Aside0 (wc.heap[gb309]? = some (.cells #[.int .i64 t299, .int .i64 t300, .int .i64 t301, (.slice Ao24 t302.length co24), (.slice Ao25 t305.length co25)] 31 (0, 0))) ∧ Aside0 (wc.heap[gb319]? = some (.cells #[.int .i64 t310, .int .i64 t311, .int .i64 t312, (.slice Ao32 t343.length co32), (.slice Ao33 t344.length co33)] 31 (0, 0))) ∧ Aside0 (wc.heap[gb330]? = some (.cells #[.int .i64 t320, .int .i64 t321, .int .i64 t322, (.slice Ao40 t323.length co40), (.slice Ao41 t326.length co41)] 31 (0, 0))) ∧ Aside0 (wc.heap[gb369]? = some (.cells #[.int .i64 t359, .int .i64 t360, .int .i64 t361, (.slice Ao130 t362.length co130), (.slice Ao131 t365.length co131)] 31 (0, 0))) ∧ Aside0 (Below w.heap.size w wc))
           case first =>
            have H := HC109.out
            clear HC109
            replace H := Option.bind_eq_some_iff.mp H
            obtain ⟨t370, A1320, H⟩ := H
            have A132 := Aside0.mk A1320
            clear A1320
            by_cases c133 : t370 = true
            ·subst c133
             rw [if_pos rfl] at H
             have H' := Aside0.mk H
             clear H
             have hnb134 := NB369_288.out
             have hnc134 := NB288_369.out
             have hnb135 := NB369_309.out
             have hnc135 := NB309_369.out
             have hnb136 := NB369_319.out
             have hnc136 := NB319_369.out
             have hnb137 := NB369_330.out
             have hnc137 := NB330_369.out
             have hcz138_0 := cz_ BK369 0 (.int .i64 0)
             have hcz138_1 := cz_ BK369 1 (.int .i64 0)
             have hcz138_2 := cz_ BK369 2 (.int .i64 0)
             have hcz138_3 := cz_ BK369 3 (.slice none 0 0)
             have hcz138_4 := cz_ BK369 4 (.slice none 0 0)
             have hfz138_0 := blk_frozen BK369.out 0
             have hfz138_1 := blk_frozen BK369.out 1
             have hfz138_2 := blk_frozen BK369.out 2
             have hfz138_3 := blk_frozen BK369.out 3
             have hfz138_4 := blk_frozen BK369.out 4
             have hnb139 := NB309_288.out
             have hnc139 := NB288_309.out
             have hnb140 := NB309_319.out
             have hnc140 := NB319_309.out
             have hnb141 := NB309_330.out
             have hnc141 := NB330_309.out
             have hcz142_0 := cz_ BK309 0 (.int .i64 t299)
             have hcz142_1 := cz_ BK309 1 (.int .i64 t300)
             have hcz142_2 := cz_ BK309 2 (.int .i64 t301)
             have hcz142_3 := cz_ BK309 3 (.slice Ao24 t302.length co24)
             have hcz142_4 := cz_ BK309 4 (.slice Ao25 t305.length co25)
             have hfz142_0 := blk_frozen BK309.out 0
             have hfz142_1 := blk_frozen BK309.out 1
             have hfz142_2 := blk_frozen BK309.out 2
             have hfz142_3 := blk_frozen BK309.out 3
             have hfz142_4 := blk_frozen BK309.out 4
             go_wp2_with (first | ((with_reducible refine gate_callee (f := 17) rfl ?_); refine gl_ (some 86) Try.func17 #[.agg #[.int .i64 t359, .int .i64 t360, .int .i64 t361, .slice Ao130 t362.length co130, .slice Ao131 t365.length co131], .agg #[.int .i64 t299, .int .i64 t300, .int .i64 t301, .slice Ao24 t302.length co24, .slice Ao25 t305.length co25]] ?_; (with_reducible refine (laws_eqLsa.calls kj64 t359 t360 t361 _ _ t362 _ _ t365 t299 t300 t301 _ _ t302 _ _ t305 true _ ?side1 ?side2 ?side3 ?side4 ?side5 ?side6 ?side7 ?side8 A132.out).mono ?_); (case side1 => refine (Kd.R_reads' (e := 70) (base := w.heap.size) (ok := fun k_ => ((((True ∧ some k_ ≠ (.slice Ao24 t302.length co24 : Value).ownBlock) ∧ some k_ ≠ (.slice Ao32 t343.length co32 : Value).ownBlock) ∧ some k_ ≠ (.slice Ao40 t323.length co40 : Value).ownBlock) ∧ some k_ ≠ (.slice Ao121 t353.length co121 : Value).ownBlock)) (n := t362.length) (c := co130) ?_).2.2; exact (hs_ HO364 BK369)); (case side2 => exact (Kd.R_reads' HO364.out).2.1); (case side3 => refine (Kd.R_reads' (e := 74) (base := w.heap.size) (ok := fun k_ => ((((True ∧ some k_ ≠ (.slice Ao25 t305.length co25 : Value).ownBlock) ∧ some k_ ≠ (.slice Ao33 t344.length co33 : Value).ownBlock) ∧ some k_ ≠ (.slice Ao41 t326.length co41 : Value).ownBlock) ∧ some k_ ≠ (.slice Ao122 t356.length co122 : Value).ownBlock)) (n := t365.length) (c := co131) ?_).2.2; exact (hs_ HO367 BK369)); (case side4 => exact (Kd.R_reads' HO367.out).2.1); (case side5 => refine (Kd.R_reads' (e := 70) (base := w.heap.size) (ok := fun k_ => (((some k_ ≠ (.slice Ao32 t343.length co32 : Value).ownBlock ∧ some k_ ≠ (.slice Ao40 t323.length co40 : Value).ownBlock) ∧ some k_ ≠ (.slice Ao121 t353.length co121 : Value).ownBlock) ∧ some k_ ≠ (.slice Ao130 t362.length co130 : Value).ownBlock)) (n := t302.length) (c := co24) ?_).2.2; exact (hs_ HO_310003 BK369)); (case side6 => exact (Kd.R_reads' HO_310003.out).2.1); (case side7 => refine (Kd.R_reads' (e := 74) (base := w.heap.size) (ok := fun k_ => (((some k_ ≠ (.slice Ao33 t344.length co33 : Value).ownBlock ∧ some k_ ≠ (.slice Ao41 t326.length co41 : Value).ownBlock) ∧ some k_ ≠ (.slice Ao122 t356.length co122 : Value).ownBlock) ∧ some k_ ≠ (.slice Ao131 t365.length co131 : Value).ownBlock)) (n := t305.length) (c := co25) ?_).2.2; exact (hs_ HO_310004 BK369)); (case side8 => exact (Kd.R_reads' HO_310004.out).2.1); rintro e w143 ⟨rfl, hb⟩; refine ⟨_, rfl, ?_⟩; replace HO_310003 := rs_ HO_310003 BK369 hb; replace HO_310004 := rs_ HO_310004 BK369 hb; replace HO_320003 := rs_ HO_320003 BK369 hb; replace HO_320004 := rs_ HO_320004 BK369 hb; replace HO_331003 := rs_ HO_331003 BK369 hb; replace HO_331004 := rs_ HO_331004 BK369 hb; replace HO355 := rs_ HO355 BK369 hb; replace HO358 := rs_ HO358 BK369 hb; replace HO364 := rs_ HO364 BK369 hb; replace HO367 := rs_ HO367 BK369 hb; replace BK288 := bf_ BK288 NB288_369 hb; replace BK309 := bf_ BK309 NB309_369 hb; replace BK319 := bf_ BK319 NB319_369 hb; replace BK330 := bf_ BK330 NB330_369 hb; replace BK369 := Aside0.mk (blk_below (g := gb369) (o := .cells #[.int .i64 t359, .int .i64 t360, .int .i64 t361, .slice Ao130 t362.length co130, .slice Ao131 t365.length co131] 31 (0, 0)) (by (with_reducible repeat (first | refine blk_drewN ?_ _ | refine blk_drew ?_ | refine blk_alloc ?_ _)); refine blk_put (cs := #[.int .i64 t359, .int .i64 t360, .int .i64 t361, .slice Ao130 t362.length co130, .slice none 0 0]) ?_ 4 _ rfl; (with_reducible repeat (first | refine blk_drewN ?_ _ | refine blk_drew ?_ | refine blk_alloc ?_ _)); refine blk_put (cs := #[.int .i64 t359, .int .i64 t360, .int .i64 t361, .slice none 0 0, .slice none 0 0]) ?_ 3 _ rfl; (with_reducible repeat (first | refine blk_drewN ?_ _ | refine blk_drew ?_ | refine blk_alloc ?_ _)); refine blk_put (cs := #[.int .i64 t359, .int .i64 t360, .int .i64 0, .slice none 0 0, .slice none 0 0]) ?_ 2 _ rfl; (with_reducible repeat (first | refine blk_drewN ?_ _ | refine blk_drew ?_ | refine blk_alloc ?_ _)); refine blk_put (cs := #[.int .i64 t359, .int .i64 0, .int .i64 0, .slice none 0 0, .slice none 0 0]) ?_ 1 _ rfl; (with_reducible repeat (first | refine blk_drewN ?_ _ | refine blk_drew ?_ | refine blk_alloc ?_ _)); refine blk_put (cs := #[.int .i64 0, .int .i64 0, .int .i64 0, .slice none 0 0, .slice none 0 0]) ?_ 0 _ rfl; (with_reducible repeat (first | refine blk_drewN ?_ _ | refine blk_drew ?_ | refine blk_alloc ?_ _)); exact BK369.out) hb); replace HB := Aside0.mk (bt_ HB hb); (try clear hb); (try clear hb2); (try clear hk); (try clear hi)))
             go_meet
             case rel => exact ⟨_, ((t368 != t308)), (by first | rfl | (simp; done) | (simp [*]; done)), H', ⟨by have := HJ11.out; have := HJ64.out; first | omega | exact Nat.le_refl _⟩, ⟨by (try simp only [hl320003_64]); (try simp only [hl320004_64]); (with_reducible repeat (first | apply Kd.R_alloc | apply Kd.R_drewN | apply Kd.R_drew)); exact Kd.R_mono HO_310003.out (fun _ hk => ⟨hk.1.1.1, ⟨hk.1.1.2, hk.2⟩⟩)⟩, ⟨by (try simp only [hl320003_64]); (try simp only [hl320004_64]); (with_reducible repeat (first | apply Kd.R_alloc | apply Kd.R_drewN | apply Kd.R_drew)); exact Kd.R_mono HO_310004.out (fun _ hk => ⟨hk.1.1.1, ⟨hk.1.1.2, hk.2⟩⟩)⟩, ⟨by (try simp only [hl320003_64]); (try simp only [hl320004_64]); (with_reducible repeat (first | apply Kd.R_alloc | apply Kd.R_drewN | apply Kd.R_drew)); exact Kd.R_mono HO_320003.out (fun _ hk => ⟨hk.1.1.1, ⟨hk.1.1.2, hk.2⟩⟩)⟩, ⟨by (try simp only [hl320003_64]); (try simp only [hl320004_64]); (with_reducible repeat (first | apply Kd.R_alloc | apply Kd.R_drewN | apply Kd.R_drew)); exact Kd.R_mono HO_320004.out (fun _ hk => ⟨hk.1.1.1, ⟨hk.1.1.2, hk.2⟩⟩)⟩, ⟨by (try simp only [hl320003_64]); (try simp only [hl320004_64]); (with_reducible repeat (first | apply Kd.R_alloc | apply Kd.R_drewN | apply Kd.R_drew)); exact Kd.R_mono HO_331003.out (fun _ hk => ⟨hk.1.1.1, ⟨hk.1.1.2, hk.2⟩⟩)⟩, ⟨by (try simp only [hl320003_64]); (try simp only [hl320004_64]); (with_reducible repeat (first | apply Kd.R_alloc | apply Kd.R_drewN | apply Kd.R_drew)); exact Kd.R_mono HO_331004.out (fun _ hk => ⟨hk.1.1.1, ⟨hk.1.1.2, hk.2⟩⟩)⟩, ⟨by (try simp only [hl320003_64]); (try simp only [hl320004_64]); (with_reducible repeat (first | apply Kd.R_alloc | apply Kd.R_drewN | apply Kd.R_drew)); exact Kd.R_mono HO364.out (fun _ hk => ⟨hk.1.1.1.2, ⟨hk.1.1.2, hk.1.2⟩⟩)⟩, ⟨by (try simp only [hl320003_64]); (try simp only [hl320004_64]); (with_reducible repeat (first | apply Kd.R_alloc | apply Kd.R_drewN | apply Kd.R_drew)); exact Kd.R_mono HO367.out (fun _ hk => ⟨hk.1.1.1.2, ⟨hk.1.1.2, hk.1.2⟩⟩)⟩, ⟨by (try simp only [hl320003_64]); (try simp only [hl320004_64]); (with_reducible repeat (first | refine blk_drewN ?_ _ | refine blk_drew ?_ | refine blk_alloc ?_ _)); exact BK288.out⟩, ⟨by (try simp only [hl320003_64]); (try simp only [hl320004_64]); (with_reducible repeat (first | refine blk_drewN ?_ _ | refine blk_drew ?_ | refine blk_alloc ?_ _)); exact BK309.out⟩, ⟨by (try simp only [hl320003_64]); (try simp only [hl320004_64]); (with_reducible repeat (first | refine blk_drewN ?_ _ | refine blk_drew ?_ | refine blk_alloc ?_ _)); exact BK319.out⟩, ⟨by (try simp only [hl320003_64]); (try simp only [hl320004_64]); (with_reducible repeat (first | refine blk_drewN ?_ _ | refine blk_drew ?_ | refine blk_alloc ?_ _)); exact BK330.out⟩, ⟨by (try simp only [hl320003_64]); (try simp only [hl320004_64]); (with_reducible repeat (first | refine blk_drewN ?_ _ | refine blk_drew ?_ | refine blk_alloc ?_ _)); exact BK369.out⟩, ⟨by repeat (first | (with_reducible first | exact HB.out | apply below_alloc | apply pw_below_drewN | apply below_drew1 | refine below_set ?_ GE288.out | refine below_set ?_ GE309.out | refine below_set ?_ GE319.out | refine below_set ?_ GE330.out | refine below_set ?_ GE369.out) | exact HB.out)⟩⟩
            ·replace c133 := Bool.eq_false_iff.mpr c133
             subst c133
             rw [if_neg (show ¬ (false = true) by decide)] at H
             have H' := Aside0.mk H
             clear H
             have hnb144 := NB369_288.out
             have hnc144 := NB288_369.out
             have hnb145 := NB369_309.out
             have hnc145 := NB309_369.out
             have hnb146 := NB369_319.out
             have hnc146 := NB319_369.out
             have hnb147 := NB369_330.out
             have hnc147 := NB330_369.out
             have hcz148_0 := cz_ BK369 0 (.int .i64 0)
             have hcz148_1 := cz_ BK369 1 (.int .i64 0)
             have hcz148_2 := cz_ BK369 2 (.int .i64 0)
             have hcz148_3 := cz_ BK369 3 (.slice none 0 0)
             have hcz148_4 := cz_ BK369 4 (.slice none 0 0)
             have hfz148_0 := blk_frozen BK369.out 0
             have hfz148_1 := blk_frozen BK369.out 1
             have hfz148_2 := blk_frozen BK369.out 2
             have hfz148_3 := blk_frozen BK369.out 3
             have hfz148_4 := blk_frozen BK369.out 4
             have hnb149 := NB309_288.out
             have hnc149 := NB288_309.out
             have hnb150 := NB309_319.out
             have hnc150 := NB319_309.out
             have hnb151 := NB309_330.out
             have hnc151 := NB330_309.out
             have hcz152_0 := cz_ BK309 0 (.int .i64 t299)
             have hcz152_1 := cz_ BK309 1 (.int .i64 t300)
             have hcz152_2 := cz_ BK309 2 (.int .i64 t301)
             have hcz152_3 := cz_ BK309 3 (.slice Ao24 t302.length co24)
             have hcz152_4 := cz_ BK309 4 (.slice Ao25 t305.length co25)
             have hfz152_0 := blk_frozen BK309.out 0
             have hfz152_1 := blk_frozen BK309.out 1
             have hfz152_2 := blk_frozen BK309.out 2
             have hfz152_3 := blk_frozen BK309.out 3
             have hfz152_4 := blk_frozen BK309.out 4
             go_wp2_with (first | ((with_reducible refine gate_callee (f := 17) rfl ?_); refine gl_ (some 86) Try.func17 #[.agg #[.int .i64 t359, .int .i64 t360, .int .i64 t361, .slice Ao130 t362.length co130, .slice Ao131 t365.length co131], .agg #[.int .i64 t299, .int .i64 t300, .int .i64 t301, .slice Ao24 t302.length co24, .slice Ao25 t305.length co25]] ?_; (with_reducible refine (laws_eqLsa.calls kj64 t359 t360 t361 _ _ t362 _ _ t365 t299 t300 t301 _ _ t302 _ _ t305 false _ ?side1 ?side2 ?side3 ?side4 ?side5 ?side6 ?side7 ?side8 A132.out).mono ?_); (case side1 => refine (Kd.R_reads' (e := 70) (base := w.heap.size) (ok := fun k_ => ((((True ∧ some k_ ≠ (.slice Ao24 t302.length co24 : Value).ownBlock) ∧ some k_ ≠ (.slice Ao32 t343.length co32 : Value).ownBlock) ∧ some k_ ≠ (.slice Ao40 t323.length co40 : Value).ownBlock) ∧ some k_ ≠ (.slice Ao121 t353.length co121 : Value).ownBlock)) (n := t362.length) (c := co130) ?_).2.2; exact (hs_ HO364 BK369)); (case side2 => exact (Kd.R_reads' HO364.out).2.1); (case side3 => refine (Kd.R_reads' (e := 74) (base := w.heap.size) (ok := fun k_ => ((((True ∧ some k_ ≠ (.slice Ao25 t305.length co25 : Value).ownBlock) ∧ some k_ ≠ (.slice Ao33 t344.length co33 : Value).ownBlock) ∧ some k_ ≠ (.slice Ao41 t326.length co41 : Value).ownBlock) ∧ some k_ ≠ (.slice Ao122 t356.length co122 : Value).ownBlock)) (n := t365.length) (c := co131) ?_).2.2; exact (hs_ HO367 BK369)); (case side4 => exact (Kd.R_reads' HO367.out).2.1); (case side5 => refine (Kd.R_reads' (e := 70) (base := w.heap.size) (ok := fun k_ => (((some k_ ≠ (.slice Ao32 t343.length co32 : Value).ownBlock ∧ some k_ ≠ (.slice Ao40 t323.length co40 : Value).ownBlock) ∧ some k_ ≠ (.slice Ao121 t353.length co121 : Value).ownBlock) ∧ some k_ ≠ (.slice Ao130 t362.length co130 : Value).ownBlock)) (n := t302.length) (c := co24) ?_).2.2; exact (hs_ HO_310003 BK369)); (case side6 => exact (Kd.R_reads' HO_310003.out).2.1); (case side7 => refine (Kd.R_reads' (e := 74) (base := w.heap.size) (ok := fun k_ => (((some k_ ≠ (.slice Ao33 t344.length co33 : Value).ownBlock ∧ some k_ ≠ (.slice Ao41 t326.length co41 : Value).ownBlock) ∧ some k_ ≠ (.slice Ao122 t356.length co122 : Value).ownBlock) ∧ some k_ ≠ (.slice Ao131 t365.length co131 : Value).ownBlock)) (n := t305.length) (c := co25) ?_).2.2; exact (hs_ HO_310004 BK369)); (case side8 => exact (Kd.R_reads' HO_310004.out).2.1); rintro e w153 ⟨rfl, hb⟩; refine ⟨_, rfl, ?_⟩; replace HO_310003 := rs_ HO_310003 BK369 hb; replace HO_310004 := rs_ HO_310004 BK369 hb; replace HO_320003 := rs_ HO_320003 BK369 hb; replace HO_320004 := rs_ HO_320004 BK369 hb; replace HO_331003 := rs_ HO_331003 BK369 hb; replace HO_331004 := rs_ HO_331004 BK369 hb; replace HO355 := rs_ HO355 BK369 hb; replace HO358 := rs_ HO358 BK369 hb; replace HO364 := rs_ HO364 BK369 hb; replace HO367 := rs_ HO367 BK369 hb; replace BK288 := bf_ BK288 NB288_369 hb; replace BK309 := bf_ BK309 NB309_369 hb; replace BK319 := bf_ BK319 NB319_369 hb; replace BK330 := bf_ BK330 NB330_369 hb; replace BK369 := Aside0.mk (blk_below (g := gb369) (o := .cells #[.int .i64 t359, .int .i64 t360, .int .i64 t361, .slice Ao130 t362.length co130, .slice Ao131 t365.length co131] 31 (0, 0)) (by (with_reducible repeat (first | refine blk_drewN ?_ _ | refine blk_drew ?_ | refine blk_alloc ?_ _)); refine blk_put (cs := #[.int .i64 t359, .int .i64 t360, .int .i64 t361, .slice Ao130 t362.length co130, .slice none 0 0]) ?_ 4 _ rfl; (with_reducible repeat (first | refine blk_drewN ?_ _ | refine blk_drew ?_ | refine blk_alloc ?_ _)); refine blk_put (cs := #[.int .i64 t359, .int .i64 t360, .int .i64 t361, .slice none 0 0, .slice none 0 0]) ?_ 3 _ rfl; (with_reducible repeat (first | refine blk_drewN ?_ _ | refine blk_drew ?_ | refine blk_alloc ?_ _)); refine blk_put (cs := #[.int .i64 t359, .int .i64 t360, .int .i64 0, .slice none 0 0, .slice none 0 0]) ?_ 2 _ rfl; (with_reducible repeat (first | refine blk_drewN ?_ _ | refine blk_drew ?_ | refine blk_alloc ?_ _)); refine blk_put (cs := #[.int .i64 t359, .int .i64 0, .int .i64 0, .slice none 0 0, .slice none 0 0]) ?_ 1 _ rfl; (with_reducible repeat (first | refine blk_drewN ?_ _ | refine blk_drew ?_ | refine blk_alloc ?_ _)); refine blk_put (cs := #[.int .i64 0, .int .i64 0, .int .i64 0, .slice none 0 0, .slice none 0 0]) ?_ 0 _ rfl; (with_reducible repeat (first | refine blk_drewN ?_ _ | refine blk_drew ?_ | refine blk_alloc ?_ _)); exact BK369.out) hb); replace HB := Aside0.mk (bt_ HB hb); (try clear hb); (try clear hb2); (try clear hk); (try clear hi)))
             go_meet
             case rel => exact ⟨_, (true), (by first | rfl | (simp; done) | (simp [*]; done)), H', ⟨by have := HJ11.out; have := HJ64.out; first | omega | exact Nat.le_refl _⟩, ⟨by (try simp only [hl320003_64]); (try simp only [hl320004_64]); (with_reducible repeat (first | apply Kd.R_alloc | apply Kd.R_drewN | apply Kd.R_drew)); exact Kd.R_mono HO_310003.out (fun _ hk => ⟨hk.1.1.1, ⟨hk.1.1.2, hk.2⟩⟩)⟩, ⟨by (try simp only [hl320003_64]); (try simp only [hl320004_64]); (with_reducible repeat (first | apply Kd.R_alloc | apply Kd.R_drewN | apply Kd.R_drew)); exact Kd.R_mono HO_310004.out (fun _ hk => ⟨hk.1.1.1, ⟨hk.1.1.2, hk.2⟩⟩)⟩, ⟨by (try simp only [hl320003_64]); (try simp only [hl320004_64]); (with_reducible repeat (first | apply Kd.R_alloc | apply Kd.R_drewN | apply Kd.R_drew)); exact Kd.R_mono HO_320003.out (fun _ hk => ⟨hk.1.1.1, ⟨hk.1.1.2, hk.2⟩⟩)⟩, ⟨by (try simp only [hl320003_64]); (try simp only [hl320004_64]); (with_reducible repeat (first | apply Kd.R_alloc | apply Kd.R_drewN | apply Kd.R_drew)); exact Kd.R_mono HO_320004.out (fun _ hk => ⟨hk.1.1.1, ⟨hk.1.1.2, hk.2⟩⟩)⟩, ⟨by (try simp only [hl320003_64]); (try simp only [hl320004_64]); (with_reducible repeat (first | apply Kd.R_alloc | apply Kd.R_drewN | apply Kd.R_drew)); exact Kd.R_mono HO_331003.out (fun _ hk => ⟨hk.1.1.1, ⟨hk.1.1.2, hk.2⟩⟩)⟩, ⟨by (try simp only [hl320003_64]); (try simp only [hl320004_64]); (with_reducible repeat (first | apply Kd.R_alloc | apply Kd.R_drewN | apply Kd.R_drew)); exact Kd.R_mono HO_331004.out (fun _ hk => ⟨hk.1.1.1, ⟨hk.1.1.2, hk.2⟩⟩)⟩, ⟨by (try simp only [hl320003_64]); (try simp only [hl320004_64]); (with_reducible repeat (first | apply Kd.R_alloc | apply Kd.R_drewN | apply Kd.R_drew)); exact Kd.R_mono HO364.out (fun _ hk => ⟨hk.1.1.1.2, ⟨hk.1.1.2, hk.1.2⟩⟩)⟩, ⟨by (try simp only [hl320003_64]); (try simp only [hl320004_64]); (with_reducible repeat (first | apply Kd.R_alloc | apply Kd.R_drewN | apply Kd.R_drew)); exact Kd.R_mono HO367.out (fun _ hk => ⟨hk.1.1.1.2, ⟨hk.1.1.2, hk.1.2⟩⟩)⟩, ⟨by (try simp only [hl320003_64]); (try simp only [hl320004_64]); (with_reducible repeat (first | refine blk_drewN ?_ _ | refine blk_drew ?_ | refine blk_alloc ?_ _)); exact BK288.out⟩, ⟨by (try simp only [hl320003_64]); (try simp only [hl320004_64]); (with_reducible repeat (first | refine blk_drewN ?_ _ | refine blk_drew ?_ | refine blk_alloc ?_ _)); exact BK309.out⟩, ⟨by (try simp only [hl320003_64]); (try simp only [hl320004_64]); (with_reducible repeat (first | refine blk_drewN ?_ _ | refine blk_drew ?_ | refine blk_alloc ?_ _)); exact BK319.out⟩, ⟨by (try simp only [hl320003_64]); (try simp only [hl320004_64]); (with_reducible repeat (first | refine blk_drewN ?_ _ | refine blk_drew ?_ | refine blk_alloc ?_ _)); exact BK330.out⟩, ⟨by (try simp only [hl320003_64]); (try simp only [hl320004_64]); (with_reducible repeat (first | refine blk_drewN ?_ _ | refine blk_drew ?_ | refine blk_alloc ?_ _)); exact BK369.out⟩, ⟨by repeat (first | (with_reducible first | exact HB.out | apply below_alloc | apply pw_below_drewN | apply below_drew1 | refine below_set ?_ GE288.out | refine below_set ?_ GE309.out | refine below_set ?_ GE319.out | refine below_set ?_ GE330.out | refine below_set ?_ GE369.out) | exact HB.out)⟩⟩
           case rest =>
            clear HC109
            try clear c1
            try clear c2
            try clear p2
            try clear c3
            try clear c4
            try clear c4b0
            try clear c5
            try clear c6
            try clear c7
            try clear c8
            try clear c9
            try clear c10
            try clear c11
            try clear c12
            try clear c13
            try clear c14
            try clear c15
            try clear c17
            try clear c22
            try clear c29
            try clear c30
            try clear c35
            try clear c36
            try clear c37
            try clear c38
            try clear c39
            try clear c40
            try clear c43
            try clear c44
            try clear c45
            try clear c46
            try clear c48
            try clear c49
            try clear c52
            try clear c53
            try clear c54
            try clear c56
            try clear c57
            try clear c60
            try clear c63
            try clear c71
            try clear c72
            try clear c73
            try clear c76
            try clear c76b0
            try clear c78
            try clear c79
            try clear c80
            try clear c81
            try clear c83
            try clear c84
            try clear c87
            try clear c88
            try clear c89
            try clear c91
            try clear c92
            try clear c95
            try clear c98
            try clear c98b0
            try clear c99
            try clear c100
            try clear c101
            try clear c106
            try clear c106b0
            try clear c106b1
            try clear c110
            try clear c111
            try clear c112
            try clear c117
            try clear c118
            try clear c125
            try clear c126
            try clear c127
            try clear c128
            try clear c133
            try clear c134
            try clear c135
            try clear c136
            try clear c137
            try clear c139
            try clear c140
            try clear c141
            try clear c144
            try clear c145
            try clear c146
            try clear c147
            try clear c149
            try clear c150
            try clear c151
            try clear hcz102_0
            try clear hcz102_1
            try clear hcz102_2
            try clear hcz102_3
            try clear hcz102_4
            try clear hcz104_0
            try clear hcz104_1
            try clear hcz104_2
            try clear hcz104_3
            try clear hcz104_4
            try clear hcz113_0
            try clear hcz113_1
            try clear hcz113_2
            try clear hcz113_3
            try clear hcz113_4
            try clear hcz115_0
            try clear hcz115_1
            try clear hcz115_2
            try clear hcz115_3
            try clear hcz115_4
            try clear hcz119_0
            try clear hcz119_1
            try clear hcz119_2
            try clear hcz119_3
            try clear hcz119_4
            try clear hcz129_0
            try clear hcz129_1
            try clear hcz129_2
            try clear hcz129_3
            try clear hcz129_4
            try clear hcz138_0
            try clear hcz138_1
            try clear hcz138_2
            try clear hcz138_3
            try clear hcz138_4
            try clear hcz142_0
            try clear hcz142_1
            try clear hcz142_2
            try clear hcz142_3
            try clear hcz142_4
            try clear hcz148_0
            try clear hcz148_1
            try clear hcz148_2
            try clear hcz148_3
            try clear hcz148_4
            try clear hcz14_0
            try clear hcz14_1
            try clear hcz14_2
            try clear hcz14_3
            try clear hcz14_4
            try clear hcz152_0
            try clear hcz152_1
            try clear hcz152_2
            try clear hcz152_3
            try clear hcz152_4
            try clear hcz16_0
            try clear hcz16_1
            try clear hcz16_2
            try clear hcz16_3
            try clear hcz16_4
            try clear hcz23_0
            try clear hcz23_1
            try clear hcz23_2
            try clear hcz23_3
            try clear hcz23_4
            try clear hcz26_0
            try clear hcz26_1
            try clear hcz26_2
            try clear hcz26_3
            try clear hcz26_4
            try clear hcz31_0
            try clear hcz31_1
            try clear hcz31_2
            try clear hcz31_3
            try clear hcz31_4
            try clear hcz39_0
            try clear hcz39_1
            try clear hcz39_2
            try clear hcz39_3
            try clear hcz39_4
            try clear hcz47_0
            try clear hcz47_1
            try clear hcz47_2
            try clear hcz47_3
            try clear hcz47_4
            try clear hcz50_0
            try clear hcz50_1
            try clear hcz50_2
            try clear hcz50_3
            try clear hcz50_4
            try clear hcz55_0
            try clear hcz55_1
            try clear hcz55_2
            try clear hcz55_3
            try clear hcz55_4
            try clear hcz58_0
            try clear hcz58_1
            try clear hcz58_2
            try clear hcz58_3
            try clear hcz58_4
            try clear hcz6_0
            try clear hcz6_1
            try clear hcz6_2
            try clear hcz6_3
            try clear hcz6_4
            try clear hcz74_0
            try clear hcz74_1
            try clear hcz74_2
            try clear hcz74_3
            try clear hcz74_4
            try clear hcz82_0
            try clear hcz82_1
            try clear hcz82_2
            try clear hcz82_3
            try clear hcz82_4
            try clear hcz85_0
            try clear hcz85_1
            try clear hcz85_2
            try clear hcz85_3
            try clear hcz85_4
            try clear hcz90_0
            try clear hcz90_1
            try clear hcz90_2
            try clear hcz90_3
            try clear hcz90_4
            try clear hcz93_0
            try clear hcz93_1
            try clear hcz93_2
            try clear hcz93_3
            try clear hcz93_4
            try clear hfz102_0
            try clear hfz102_1
            try clear hfz102_2
            try clear hfz102_3
            try clear hfz102_4
            try clear hfz104_0
            try clear hfz104_1
            try clear hfz104_2
            try clear hfz104_3
            try clear hfz104_4
            try clear hfz113_0
            try clear hfz113_1
            try clear hfz113_2
            try clear hfz113_3
            try clear hfz113_4
            try clear hfz115_0
            try clear hfz115_1
            try clear hfz115_2
            try clear hfz115_3
            try clear hfz115_4
            try clear hfz119_0
            try clear hfz119_1
            try clear hfz119_2
            try clear hfz119_3
            try clear hfz119_4
            try clear hfz129_0
            try clear hfz129_1
            try clear hfz129_2
            try clear hfz129_3
            try clear hfz129_4
            try clear hfz138_0
            try clear hfz138_1
            try clear hfz138_2
            try clear hfz138_3
            try clear hfz138_4
            try clear hfz142_0
            try clear hfz142_1
            try clear hfz142_2
            try clear hfz142_3
            try clear hfz142_4
            try clear hfz148_0
            try clear hfz148_1
            try clear hfz148_2
            try clear hfz148_3
            try clear hfz148_4
            try clear hfz14_0
            try clear hfz14_1
            try clear hfz14_2
            try clear hfz14_3
            try clear hfz14_4
            try clear hfz152_0
            try clear hfz152_1
            try clear hfz152_2
            try clear hfz152_3
            try clear hfz152_4
            try clear hfz16_0
            try clear hfz16_1
            try clear hfz16_2
            try clear hfz16_3
            try clear hfz16_4
            try clear hfz23_0
            try clear hfz23_1
            try clear hfz23_2
            try clear hfz23_3
            try clear hfz23_4
            try clear hfz26_0
            try clear hfz26_1
            try clear hfz26_2
            try clear hfz26_3
            try clear hfz26_4
            try clear hfz31_0
            try clear hfz31_1
            try clear hfz31_2
            try clear hfz31_3
            try clear hfz31_4
            try clear hfz39_0
            try clear hfz39_1
            try clear hfz39_2
            try clear hfz39_3
            try clear hfz39_4
            try clear hfz47_0
            try clear hfz47_1
            try clear hfz47_2
            try clear hfz47_3
            try clear hfz47_4
            try clear hfz50_0
            try clear hfz50_1
            try clear hfz50_2
            try clear hfz50_3
            try clear hfz50_4
            try clear hfz55_0
            try clear hfz55_1
            try clear hfz55_2
            try clear hfz55_3
            try clear hfz55_4
            try clear hfz58_0
            try clear hfz58_1
            try clear hfz58_2
            try clear hfz58_3
            try clear hfz58_4
            try clear hfz6_0
            try clear hfz6_1
            try clear hfz6_2
            try clear hfz6_3
            try clear hfz6_4
            try clear hfz74_0
            try clear hfz74_1
            try clear hfz74_2
            try clear hfz74_3
            try clear hfz74_4
            try clear hfz82_0
            try clear hfz82_1
            try clear hfz82_2
            try clear hfz82_3
            try clear hfz82_4
            try clear hfz85_0
            try clear hfz85_1
            try clear hfz85_2
            try clear hfz85_3
            try clear hfz85_4
            try clear hfz90_0
            try clear hfz90_1
            try clear hfz90_2
            try clear hfz90_3
            try clear hfz90_4
            try clear hfz93_0
            try clear hfz93_1
            try clear hfz93_2
            try clear hfz93_3
            try clear hfz93_4
            try clear p2
            obtain ⟨kq, x92_108, rfl, HA, HJ108, HO_310003, HO_310004, HO_320003, HO_320004, HO_331003, HO_331004, HO_370003, HO_370004, BK288, BK309, BK319, BK330, BK369, HB⟩ := hcut
            have hl331003_108 := (Kd.R_reads' HO_331003.out).1
            rw [hl331003_108] at HO_331003
            (try simp only [hl331003_108])
            (try simp only [hl331003_108] at BK288)
            (try simp only [hl331003_108] at BK309)
            (try simp only [hl331003_108] at BK319)
            (try simp only [hl331003_108] at BK330)
            (try simp only [hl331003_108] at BK369)
            (try simp only [hl331003_108] at HO_310003)
            (try simp only [hl331003_108] at HO_310004)
            (try simp only [hl331003_108] at HO_320003)
            (try simp only [hl331003_108] at HO_320004)
            (try simp only [hl331003_108] at HO_331004)
            (try simp only [hl331003_108] at HO_370003)
            (try simp only [hl331003_108] at HO_370004)
            have hl331004_108 := (Kd.R_reads' HO_331004.out).1
            rw [hl331004_108] at HO_331004
            (try simp only [hl331004_108])
            (try simp only [hl331004_108] at BK288)
            (try simp only [hl331004_108] at BK309)
            (try simp only [hl331004_108] at BK319)
            (try simp only [hl331004_108] at BK330)
            (try simp only [hl331004_108] at BK369)
            (try simp only [hl331004_108] at HO_310003)
            (try simp only [hl331004_108] at HO_310004)
            (try simp only [hl331004_108] at HO_320003)
            (try simp only [hl331004_108] at HO_320004)
            (try simp only [hl331004_108] at HO_331003)
            (try simp only [hl331004_108] at HO_370003)
            (try simp only [hl331004_108] at HO_370004)
            cases kq with
            | zero => exact absurd HA.out (by simp [laws_FnExactAgeLsa.j2])
            | succ kj108 =>
             have H := HA.out
             clear HA
             simp only [laws_FnExactAgeLsa.j2] at H
             by_cases c154 : x92_108 = true
             ·subst c154
              rw [if_pos rfl] at H
              obtain rfl := Option.some.inj H
              go_wp2
              go_ret
              exact ⟨by first | rfl | (simp [errW_none, errW_some] <;> rfl) | (simp [*, errW_none, errW_some] <;> rfl), by repeat (first | (with_reducible first | exact HB.out | apply below_alloc | apply pw_below_drewN | apply below_drew1 | refine below_set ?_ GE288.out | refine below_set ?_ GE309.out | refine below_set ?_ GE319.out | refine below_set ?_ GE330.out | refine below_set ?_ GE369.out) | exact HB.out)⟩
             ·replace c154 := Bool.eq_false_iff.mpr c154
              subst c154
              rw [if_neg (show ¬ (false = true) by decide)] at H
              replace H := Option.bind_eq_some_iff.mp H
              obtain ⟨t371, A1550, H⟩ := H
              have A155 := Aside0.mk A1550
              clear A1550
              by_cases c156 : t371 < 0
              ·rw [if_pos c156] at H
               have c156b0 : decide (t371 < 0) = true := decide_eq_true c156
               clear c156
               obtain rfl := Option.some.inj H
               have hnb157 := NB330_288.out
               have hnc157 := NB288_330.out
               have hnb158 := NB330_309.out
               have hnc158 := NB309_330.out
               have hnb159 := NB330_319.out
               have hnc159 := NB319_330.out
               have hnb160 := NB330_369.out
               have hnc160 := NB369_330.out
               have hcz161_0 := cz_ BK330 0 (.int .i64 t320)
               have hcz161_1 := cz_ BK330 1 (.int .i64 t321)
               have hcz161_2 := cz_ BK330 2 (.int .i64 t322)
               have hcz161_3 := cz_ BK330 3 (.slice Ao40 t347.length co40)
               have hcz161_4 := cz_ BK330 4 (.slice Ao41 t348.length co41)
               have hfz161_0 := blk_frozen BK330.out 0
               have hfz161_1 := blk_frozen BK330.out 1
               have hfz161_2 := blk_frozen BK330.out 2
               have hfz161_3 := blk_frozen BK330.out 3
               have hfz161_4 := blk_frozen BK330.out 4
               go_wp2_with (first | ((with_reducible refine gate_callee (f := 38) rfl ?_); refine gl_ (some 95) Try.func38 #[.agg #[.int .i64 t320, .int .i64 t321, .int .i64 t322, .slice Ao40 t347.length co40, .slice Ao41 t348.length co41], .int .i64 1] ?_; (with_reducible refine (laws_heldLsa.calls kj108 t320 t321 t322 _ _ t347 _ _ t348 1 t371 _ ?side1 ?side2 ?side3 ?side4 A155.out).mono ?_); (case side1 => exact rc_ HO_331003); (case side2 => exact (Kd.R_reads' HO_331003.out).2.1); (case side3 => exact rc_ HO_331004); (case side4 => exact (Kd.R_reads' HO_331004.out).2.1); rintro e w162 ⟨rfl, hb⟩; refine ⟨_, rfl, ?_⟩; replace HO_310003 := rb_ HO_310003 hb; replace HO_310004 := rb_ HO_310004 hb; replace HO_320003 := rb_ HO_320003 hb; replace HO_320004 := rb_ HO_320004 hb; replace HO_331003 := rb_ HO_331003 hb; replace HO_331004 := rb_ HO_331004 hb; replace HO_370003 := rb_ HO_370003 hb; replace HO_370004 := rb_ HO_370004 hb; replace BK288 := Aside0.mk (bb_ BK288 hb); replace BK309 := Aside0.mk (bb_ BK309 hb); replace BK319 := Aside0.mk (bb_ BK319 hb); replace BK330 := Aside0.mk (bb_ BK330 hb); replace BK369 := Aside0.mk (bb_ BK369 hb); replace HB := Aside0.mk (bt_ HB hb); (try clear hb); (try clear hb2); (try clear hk); (try clear hi)))
               go_ret
               exact ⟨by first | rfl | (simp [errW_none, errW_some] <;> rfl) | (simp [*, errW_none, errW_some] <;> rfl), by repeat (first | (with_reducible first | exact HB.out | apply below_alloc | apply pw_below_drewN | apply below_drew1 | refine below_set ?_ GE288.out | refine below_set ?_ GE309.out | refine below_set ?_ GE319.out | refine below_set ?_ GE330.out | refine below_set ?_ GE369.out) | exact HB.out)⟩
              ·rw [if_neg c156] at H
               have c156b0 : decide (t371 < 0) = false := decide_eq_false c156
               clear c156
               by_cases c163 : t371 = t346
               ·rw [if_pos c163] at H
                have c163b0 : (t371 == t346) = true := beq_iff_eq.mpr c163
                have c163b1 : (t371 != t346) = false := bne_eq_false_iff_eq.mpr c163
                clear c163
                obtain rfl := Option.some.inj H
                have hnb164 := NB330_288.out
                have hnc164 := NB288_330.out
                have hnb165 := NB330_309.out
                have hnc165 := NB309_330.out
                have hnb166 := NB330_319.out
                have hnc166 := NB319_330.out
                have hnb167 := NB330_369.out
                have hnc167 := NB369_330.out
                have hcz168_0 := cz_ BK330 0 (.int .i64 t320)
                have hcz168_1 := cz_ BK330 1 (.int .i64 t321)
                have hcz168_2 := cz_ BK330 2 (.int .i64 t322)
                have hcz168_3 := cz_ BK330 3 (.slice Ao40 t347.length co40)
                have hcz168_4 := cz_ BK330 4 (.slice Ao41 t348.length co41)
                have hfz168_0 := blk_frozen BK330.out 0
                have hfz168_1 := blk_frozen BK330.out 1
                have hfz168_2 := blk_frozen BK330.out 2
                have hfz168_3 := blk_frozen BK330.out 3
                have hfz168_4 := blk_frozen BK330.out 4
                go_wp2_with (first | ((with_reducible refine gate_callee (f := 38) rfl ?_); refine gl_ (some 95) Try.func38 #[.agg #[.int .i64 t320, .int .i64 t321, .int .i64 t322, .slice Ao40 t347.length co40, .slice Ao41 t348.length co41], .int .i64 1] ?_; (with_reducible refine (laws_heldLsa.calls kj108 t320 t321 t322 _ _ t347 _ _ t348 1 t371 _ ?side1 ?side2 ?side3 ?side4 A155.out).mono ?_); (case side1 => exact rc_ HO_331003); (case side2 => exact (Kd.R_reads' HO_331003.out).2.1); (case side3 => exact rc_ HO_331004); (case side4 => exact (Kd.R_reads' HO_331004.out).2.1); rintro e w169 ⟨rfl, hb⟩; refine ⟨_, rfl, ?_⟩; replace HO_310003 := rb_ HO_310003 hb; replace HO_310004 := rb_ HO_310004 hb; replace HO_320003 := rb_ HO_320003 hb; replace HO_320004 := rb_ HO_320004 hb; replace HO_331003 := rb_ HO_331003 hb; replace HO_331004 := rb_ HO_331004 hb; replace HO_370003 := rb_ HO_370003 hb; replace HO_370004 := rb_ HO_370004 hb; replace BK288 := Aside0.mk (bb_ BK288 hb); replace BK309 := Aside0.mk (bb_ BK309 hb); replace BK319 := Aside0.mk (bb_ BK319 hb); replace BK330 := Aside0.mk (bb_ BK330 hb); replace BK369 := Aside0.mk (bb_ BK369 hb); replace HB := Aside0.mk (bt_ HB hb); (try clear hb); (try clear hb2); (try clear hk); (try clear hi)))
                go_ret
                exact ⟨by first | rfl | (simp [errW_none, errW_some] <;> rfl) | (simp [*, errW_none, errW_some] <;> rfl), by repeat (first | (with_reducible first | exact HB.out | apply below_alloc | apply pw_below_drewN | apply below_drew1 | refine below_set ?_ GE288.out | refine below_set ?_ GE309.out | refine below_set ?_ GE319.out | refine below_set ?_ GE330.out | refine below_set ?_ GE369.out) | exact HB.out)⟩
               ·rw [if_neg c163] at H
                have c163b0 : (t371 == t346) = false := beq_eq_false_iff_ne.mpr c163
                have c163b1 : (t371 != t346) = true := bne_iff_ne.mpr c163
                obtain rfl := Option.some.inj H
                have hnb170 := NB330_288.out
                have hnc170 := NB288_330.out
                have hnb171 := NB330_309.out
                have hnc171 := NB309_330.out
                have hnb172 := NB330_319.out
                have hnc172 := NB319_330.out
                have hnb173 := NB330_369.out
                have hnc173 := NB369_330.out
                have hcz174_0 := cz_ BK330 0 (.int .i64 t320)
                have hcz174_1 := cz_ BK330 1 (.int .i64 t321)
                have hcz174_2 := cz_ BK330 2 (.int .i64 t322)
                have hcz174_3 := cz_ BK330 3 (.slice Ao40 t347.length co40)
                have hcz174_4 := cz_ BK330 4 (.slice Ao41 t348.length co41)
                have hfz174_0 := blk_frozen BK330.out 0
                have hfz174_1 := blk_frozen BK330.out 1
                have hfz174_2 := blk_frozen BK330.out 2
                have hfz174_3 := blk_frozen BK330.out 3
                have hfz174_4 := blk_frozen BK330.out 4
                go_wp2_with (first | ((with_reducible refine gate_callee (f := 38) rfl ?_); refine gl_ (some 95) Try.func38 #[.agg #[.int .i64 t320, .int .i64 t321, .int .i64 t322, .slice Ao40 t347.length co40, .slice Ao41 t348.length co41], .int .i64 1] ?_; (with_reducible refine (laws_heldLsa.calls kj108 t320 t321 t322 _ _ t347 _ _ t348 1 t371 _ ?side1 ?side2 ?side3 ?side4 A155.out).mono ?_); (case side1 => exact rc_ HO_331003); (case side2 => exact (Kd.R_reads' HO_331003.out).2.1); (case side3 => exact rc_ HO_331004); (case side4 => exact (Kd.R_reads' HO_331004.out).2.1); rintro e w175 ⟨rfl, hb⟩; refine ⟨_, rfl, ?_⟩; replace HO_310003 := rb_ HO_310003 hb; replace HO_310004 := rb_ HO_310004 hb; replace HO_320003 := rb_ HO_320003 hb; replace HO_320004 := rb_ HO_320004 hb; replace HO_331003 := rb_ HO_331003 hb; replace HO_331004 := rb_ HO_331004 hb; replace HO_370003 := rb_ HO_370003 hb; replace HO_370004 := rb_ HO_370004 hb; replace BK288 := Aside0.mk (bb_ BK288 hb); replace BK309 := Aside0.mk (bb_ BK309 hb); replace BK319 := Aside0.mk (bb_ BK319 hb); replace BK330 := Aside0.mk (bb_ BK330 hb); replace BK369 := Aside0.mk (bb_ BK369 hb); replace HB := Aside0.mk (bt_ HB hb); (try clear hb); (try clear hb2); (try clear hk); (try clear hi)))
                go_ret
                exact ⟨by first | rfl | (simp [errW_none, errW_some] <;> rfl) | (simp [*, errW_none, errW_some] <;> rfl), by repeat (first | (with_reducible first | exact HB.out | apply below_alloc | apply pw_below_drewN | apply below_drew1 | refine below_set ?_ GE288.out | refine below_set ?_ GE309.out | refine below_set ?_ GE319.out | refine below_set ?_ GE330.out | refine below_set ?_ GE369.out) | exact HB.out)⟩
          ·rw [if_neg c106] at H
           have c106b0 : (t349 == t346) = false := beq_eq_false_iff_ne.mpr c106
           have c106b1 : (t349 != t346) = true := bne_iff_ne.mpr c106
           obtain rfl := Option.some.inj H
           have hnb176 := NB330_288.out
           have hnc176 := NB288_330.out
           have hnb177 := NB330_309.out
           have hnc177 := NB309_330.out
           have hnb178 := NB330_319.out
           have hnc178 := NB319_330.out
           have hcz179_0 := cz_ BK330 0 (.int .i64 t320)
           have hcz179_1 := cz_ BK330 1 (.int .i64 t321)
           have hcz179_2 := cz_ BK330 2 (.int .i64 t322)
           have hcz179_3 := cz_ BK330 3 (.slice Ao40 t323.length co40)
           have hcz179_4 := cz_ BK330 4 (.slice Ao41 t326.length co41)
           have hfz179_0 := blk_frozen BK330.out 0
           have hfz179_1 := blk_frozen BK330.out 1
           have hfz179_2 := blk_frozen BK330.out 2
           have hfz179_3 := blk_frozen BK330.out 3
           have hfz179_4 := blk_frozen BK330.out 4
           go_wp2_with (first | ((with_reducible refine gate_callee (f := 35) rfl ?_); refine gl_ (some 68) Try.func35 #[.agg #[.int .i64 t320, .int .i64 t321, .int .i64 t322, .slice Ao40 t323.length co40, .slice Ao41 t326.length co41], .int .i64 1] ?_; (with_reducible refine (laws_markLsa.calls kj64 t320 t321 t322 (fun k_ => some k_ = (.slice Ao40 t323.length co40 : Value).ownBlock) (.slice Ao40 t323.length co40) t323 (fun k_ => some k_ = (.slice Ao41 t326.length co41 : Value).ownBlock) (.slice Ao41 t326.length co41) t326 1 t346 t347 t348 w _ ?side1 ?side2 ?side3 A96.out).mono ?_); (case side1 => exact by_ HB); (case side2 => exact Kd.R_tight rfl HO_331003.out); (case side3 => exact Kd.R_tight rfl HO_331004.out); rintro e w180 ⟨rfl, hy0, hy1, hb, hkp⟩; refine ⟨_, rfl, ?_⟩; replace HO_310003 := kp_ (fun k_ => some k_ ≠ (.slice Ao32 t343.length co32 : Value).ownBlock ∧ some k_ ≠ (.slice Ao40 t323.length co40 : Value).ownBlock) ((Kd.R_apart' HO_310003.out (Kd.R_typed HO_331004.out) (by decide))) hkp; replace HO_310004 := kp_ (fun k_ => some k_ ≠ (.slice Ao33 t344.length co33 : Value).ownBlock ∧ some k_ ≠ (.slice Ao41 t326.length co41 : Value).ownBlock) ((Kd.R_apart' HO_310004.out (Kd.R_typed HO_331003.out) (by decide))) hkp; replace HO_320003 := kp_ (fun k_ => some k_ ≠ (.slice Ao24 t302.length co24 : Value).ownBlock ∧ some k_ ≠ (.slice Ao40 t323.length co40 : Value).ownBlock) ((Kd.R_apart' HO_320003.out (Kd.R_typed HO_331004.out) (by decide))) hkp; replace HO_320004 := kp_ (fun k_ => some k_ ≠ (.slice Ao25 t305.length co25 : Value).ownBlock ∧ some k_ ≠ (.slice Ao41 t326.length co41 : Value).ownBlock) ((Kd.R_apart' HO_320004.out (Kd.R_typed HO_331003.out) (by decide))) hkp; replace BK288 := bk_ BK288 hkp (fun hs_ => Or.elim hs_ (Kd.R_ne HO_331003.out BK288.out (by decide)) (Kd.R_ne HO_331004.out BK288.out (by decide))); replace BK309 := bk_ BK309 hkp (fun hs_ => Or.elim hs_ (Kd.R_ne HO_331003.out BK309.out (by decide)) (Kd.R_ne HO_331004.out BK309.out (by decide))); replace BK319 := bk_ BK319 hkp (fun hs_ => Or.elim hs_ (Kd.R_ne HO_331003.out BK319.out (by decide)) (Kd.R_ne HO_331004.out BK319.out (by decide))); replace BK330 := bk_ BK330 hkp (fun hs_ => Or.elim hs_ (Kd.R_ne HO_331003.out BK330.out (by decide)) (Kd.R_ne HO_331004.out BK330.out (by decide))); replace HO_331003 := Aside0.mk (Kd.R_reok rfl hy0 (fun k_ e_ => HO_331003.out.1 k_ e_)); replace HO_331004 := Aside0.mk (Kd.R_reok rfl hy1 (fun k_ e_ => HO_331004.out.1 k_ e_)); replace HB := Aside0.mk (hb); (try clear hb); (try clear hkp); (try clear hy0); (try clear hy1); have hcz181_0 := cz_ BK330 0 (.int .i64 t320); have hcz181_1 := cz_ BK330 1 (.int .i64 t321); have hcz181_2 := cz_ BK330 2 (.int .i64 t322); have hcz181_3 := cz_ BK330 3 (.slice Ao40 t323.length co40); have hcz181_4 := cz_ BK330 4 (.slice Ao41 t326.length co41); have hfz181_0 := blk_frozen BK330.out 0; have hfz181_1 := blk_frozen BK330.out 1; have hfz181_2 := blk_frozen BK330.out 2; have hfz181_3 := blk_frozen BK330.out 3; have hfz181_4 := blk_frozen BK330.out 4) | ((with_reducible refine gate_callee (f := 38) rfl ?_); refine goesL_ (some 71) rfl rfl Try.func38 (by kernel_rfl) rfl #[.agg #[.int .i64 t320, .int .i64 t321, .int .i64 t322, .slice Ao40 t347.length co40, .slice Ao41 t348.length co41], .int .i64 1] rfl (by (try simp only [List.map_toArray, List.map_cons, List.map_nil]); first | done | (rw [show t347.length = t323.length from (Kd.R_reads' HO_331003.out).1.symm, show t348.length = t326.length from (Kd.R_reads' HO_331004.out).1.symm] <;> rfl) | rfl | (simp only [List.length_drop, List.length_take]; rfl)) ?_; (with_reducible refine (laws_heldLsa.calls kj64 t320 t321 t322 _ _ t347 _ _ t348 1 t349 _ ?side1 ?side2 ?side3 ?side4 A97.out).mono ?_); (case side1 => exact rc_ HO_331003); (case side2 => rw [show t347.length = t323.length from (Kd.R_reads' HO_331003.out).1.symm]; exact (Kd.R_reads' HO_331003.out).2.1); (case side3 => exact rc_ HO_331004); (case side4 => rw [show t348.length = t326.length from (Kd.R_reads' HO_331004.out).1.symm]; exact (Kd.R_reads' HO_331004.out).2.1); rintro e w182 ⟨rfl, hb⟩; refine ⟨_, rfl, ?_⟩; replace HO_310003 := rb_ HO_310003 hb; replace HO_310004 := rb_ HO_310004 hb; replace HO_320003 := rb_ HO_320003 hb; replace HO_320004 := rb_ HO_320004 hb; replace HO_331003 := rb_ HO_331003 hb; replace HO_331004 := rb_ HO_331004 hb; replace BK288 := Aside0.mk (bb_ BK288 hb); replace BK309 := Aside0.mk (bb_ BK309 hb); replace BK319 := Aside0.mk (bb_ BK319 hb); replace BK330 := Aside0.mk (bb_ BK330 hb); replace HB := Aside0.mk (bt_ HB hb); (try clear hb); (try clear hb2); (try clear hk); (try clear hi)))
           go_ret
           exact ⟨by first | rfl | (simp [errW_none, errW_some] <;> rfl) | (simp [*, errW_none, errW_some] <;> rfl), by repeat (first | (with_reducible first | exact HB.out | apply below_alloc | apply pw_below_drewN | apply below_drew1 | refine below_set ?_ GE288.out | refine below_set ?_ GE309.out | refine below_set ?_ GE319.out | refine below_set ?_ GE330.out) | exact HB.out)⟩
     ·replace c63 := Bool.eq_false_iff.mpr c63
      subst c63
      rw [if_neg (show ¬ (false = true) by decide)] at H
      obtain rfl := Option.some.inj H
      try go_wp2
      replace HO_310003 := Aside0.mk (Kd.R_drew HO_310003.out)
      replace HO_310004 := Aside0.mk (Kd.R_drew HO_310004.out)
      replace HO_320003 := Aside0.mk (Kd.R_drew HO_320003.out)
      replace HO_320004 := Aside0.mk (Kd.R_drew HO_320004.out)
      replace HO_331003 := Aside0.mk (Kd.R_drew HO_331003.out)
      replace HO_331004 := Aside0.mk (Kd.R_drew HO_331004.out)
      replace BK288 := Aside0.mk (blk_drew BK288.out)
      replace BK309 := Aside0.mk (blk_drew BK309.out)
      replace BK319 := Aside0.mk (blk_drew BK319.out)
      replace BK330 := Aside0.mk (blk_drew BK330.out)
      replace HB := Aside0.mk (below_drew1 HB.out)
      refine start_ (n := 5) (S := fun w' => w'.cell? ⟨gb319, 0, none⟩ = some (.int .i64 t310) ∧ w'.cell? ⟨gb319, 1, none⟩ = some (.int .i64 t311) ∧ w'.cell? ⟨gb319, 2, none⟩ = some (.int .i64 t312) ∧ w'.cell? ⟨gb319, 3, none⟩ = some (.slice Ao32 t313.length co32) ∧ w'.cell? ⟨gb319, 4, none⟩ = some (.slice Ao33 t316.length co33) ∧ w'.cell? ⟨gb288, 0, none⟩ = some (.int .i64 a0_0) ∧ w'.cell? ⟨gb288, 1, none⟩ = some (.int .i64 a0_1) ∧ w'.cell? ⟨gb288, 2, none⟩ = some (.int .i64 a0_2) ∧ w'.cell? ⟨gb288, 3, none⟩ = some (.slice A0_3 l0_3.length c0_3) ∧ w'.cell? ⟨gb288, 4, none⟩ = some (.slice A0_4 l0_4.length c0_4)) (ds := []) ba12_0 (by kernel_rfl) rfl rfl ⟨(blk_cell BK319.out 0).trans rfl, (blk_cell BK319.out 1).trans rfl, (blk_cell BK319.out 2).trans rfl, (blk_cell BK319.out 3).trans rfl, (blk_cell BK319.out 4).trans rfl, (blk_cell BK288.out 0).trans rfl, (blk_cell BK288.out 1).trans rfl, (blk_cell BK288.out 2).trans rfl, (blk_cell BK288.out 3).trans rfl, (blk_cell BK288.out 4).trans rfl⟩ (fun hHeld => ?_)
      generalize wc.drew = w183 at HO_310003 HO_310004 HO_320003 HO_320004 HO_331003 HO_331004 BK288 BK309 BK319 BK330 HB hHeld ⊢
      refine take_ (i := 0) (N := some 45) (v := ?_) (a' := ?_) ba12_1 rfl rfl (by kernel_rfl) (fun _ _ _ h => h) (Or.inl ⟨by rfl, ?_⟩) hHeld ?_ ?_
      rotate_left; · rintro w' ⟨s0, s1, s2, s3, s4, s5, s6, s7, s8, s9⟩; go_simp; with_reducible rfl
      rotate_left; · simp only [Act.put, List.setIfInBounds_toArray, List.set_cons_zero, List.set_cons_succ, i64_w, i32_w]; rfl
      refine take_ (i := 1) (N := some 46) (v := ?_) (a' := ?_) ba12_2 rfl rfl (by kernel_rfl) (fun _ _ _ h => h) (Or.inl ⟨by rfl, ?_⟩) hHeld ?_ ?_
      rotate_left; · rintro w' ⟨s0, s1, s2, s3, s4, s5, s6, s7, s8, s9⟩; go_simp; with_reducible rfl
      rotate_left; · simp only [Act.put, List.setIfInBounds_toArray, List.set_cons_zero, List.set_cons_succ, i64_w, i32_w]; rfl
      refine one_ (i := 2) (N := some 47) ba12_3 rfl rfl (by kernel_rfl) (by decide) (fun K hK => ?_)
      refine gz_ Try.func15 #[.agg #[.int .i64 a0_0, .int .i64 a0_1, .int .i64 a0_2, .slice A0_3 l0_3.length c0_3, .slice A0_4 l0_4.length c0_4]] ?_
      with_reducible refine (laws_toLsa.calls kj11 a0_0 a0_1 a0_2 _ _ l0_3 _ _ l0_4 t332 t333 t334 t335 t338 _ ?side1 ?side2 ?side3 ?side4 A61.out).mono ?_
      (case side1 => exact cb_ HR0_3 HB)
      (case side2 => exact HC0_3.out)
      (case side3 => exact cb_ HR0_4 HB)
      (case side4 => exact HC0_4.out)
      rintro e w184 ⟨v336, v339, rfl, ho0, ho1, hb⟩
      refine ⟨_, rfl, ?_⟩
      have HO337 := Aside0.mk (Kd.R_lower (Kd.R_new' (Kd.R_new' (Kd.R_new' ho0 (Kd.R_lt (hd_ HO_310003))) (Kd.R_lt (hd_ HO_320003))) (Kd.R_lt (hd_ HO_331003))) (bz_ HB))
      have HO340 := Aside0.mk (Kd.R_lower (Kd.R_new' (Kd.R_new' (Kd.R_new' ho1 (Kd.R_lt (hd_ HO_310004))) (Kd.R_lt (hd_ HO_320004))) (Kd.R_lt (hd_ HO_331004))) (bz_ HB))
      replace HO_310003 := Aside0.mk (Kd.R_elder' (hd_ HO_310003) (Kd.R_base ho0) hb)
      replace HO_320003 := Aside0.mk (Kd.R_elder' (hd_ HO_320003) (Kd.R_base ho0) hb)
      replace HO_331003 := Aside0.mk (Kd.R_elder' (hd_ HO_331003) (Kd.R_base ho0) hb)
      replace HO_310004 := Aside0.mk (Kd.R_elder' (hd_ HO_310004) (Kd.R_base ho1) hb)
      replace HO_320004 := Aside0.mk (Kd.R_elder' (hd_ HO_320004) (Kd.R_base ho1) hb)
      replace HO_331004 := Aside0.mk (Kd.R_elder' (hd_ HO_331004) (Kd.R_base ho1) hb)
      replace BK288 := Aside0.mk (bb_ BK288 hb)
      replace BK309 := Aside0.mk (bb_ BK309 hb)
      replace BK319 := Aside0.mk (bb_ BK319 hb)
      replace BK330 := Aside0.mk (bb_ BK330 hb)
      replace HB := Aside0.mk (bt_ HB hb)
      (try clear hb)
      (try clear hb2)
      (try clear hk)
      (try clear hi)
      (try clear ho0)
      (try clear ho1)
      obtain ⟨Ao185, co185, eo185⟩ := Kd.R_slice HO337.out
      (first | subst eo185 | (injection eo185 with f1_ f2_ f3_; have f4_ := f1_.symm; have f5_ := f3_.symm; clear f1_ f2_ f3_; subst f4_; subst f5_))
      obtain ⟨Ao186, co186, eo186⟩ := Kd.R_slice HO340.out
      (first | subst eo186 | (injection eo186 with f1_ f2_ f3_; have f4_ := f1_.symm; have f5_ := f3_.symm; clear f1_ f2_ f3_; subst f4_; subst f5_))
      refine hK.out _ _ ⟨(blk_cell BK319.out 0).trans rfl, (blk_cell BK319.out 1).trans rfl, (blk_cell BK319.out 2).trans rfl, (blk_cell BK319.out 3).trans rfl, (blk_cell BK319.out 4).trans rfl, (blk_cell BK288.out 0).trans rfl, (blk_cell BK288.out 1).trans rfl, (blk_cell BK288.out 2).trans rfl, (blk_cell BK288.out 3).trans rfl, (blk_cell BK288.out 4).trans rfl⟩ (fun hHeld => ?_)
      clear hK K
      refine nz_ 47 ?_
      refine one_ (i := 3) (N := some 48) ba12_4 rfl rfl (by kernel_rfl) (by decide) (fun K hK => ?_)
      refine gz_ Try.func17 #[.agg #[.int .i64 t310, .int .i64 t311, .int .i64 t312, .slice Ao32 t313.length co32, .slice Ao33 t316.length co33], .agg #[.int .i64 t332, .int .i64 t333, .int .i64 t334, .slice Ao185 t335.length co185, .slice Ao186 t338.length co186]] ?_
      with_reducible refine (laws_eqLsa.calls kj11 t310 t311 t312 _ _ t313 _ _ t316 t332 t333 t334 _ _ t335 _ _ t338 false _ ?side1 ?side2 ?side3 ?side4 ?side5 ?side6 ?side7 ?side8 A62.out).mono ?_
      (case side1 => exact rc_ HO_320003)
      (case side2 => exact (Kd.R_reads' HO_320003.out).2.1)
      (case side3 => exact rc_ HO_320004)
      (case side4 => exact (Kd.R_reads' HO_320004.out).2.1)
      (case side5 => exact rc_ HO337)
      (case side6 => exact (Kd.R_reads' HO337.out).2.1)
      (case side7 => exact rc_ HO340)
      (case side8 => exact (Kd.R_reads' HO340.out).2.1)
      rintro e w187 ⟨rfl, hb⟩
      refine ⟨_, rfl, ?_⟩
      replace HO_310003 := rb_ HO_310003 hb
      replace HO_310004 := rb_ HO_310004 hb
      replace HO_320003 := rb_ HO_320003 hb
      replace HO_320004 := rb_ HO_320004 hb
      replace HO_331003 := rb_ HO_331003 hb
      replace HO_331004 := rb_ HO_331004 hb
      replace HO337 := rb_ HO337 hb
      replace HO340 := rb_ HO340 hb
      replace BK288 := Aside0.mk (bb_ BK288 hb)
      replace BK309 := Aside0.mk (bb_ BK309 hb)
      replace BK319 := Aside0.mk (bb_ BK319 hb)
      replace BK330 := Aside0.mk (bb_ BK330 hb)
      replace HB := Aside0.mk (bt_ HB hb)
      (try clear hb)
      (try clear hb2)
      (try clear hk)
      (try clear hi)
      refine hK.out _ _ ⟨(blk_cell BK319.out 0).trans rfl, (blk_cell BK319.out 1).trans rfl, (blk_cell BK319.out 2).trans rfl, (blk_cell BK319.out 3).trans rfl, (blk_cell BK319.out 4).trans rfl, (blk_cell BK288.out 0).trans rfl, (blk_cell BK288.out 1).trans rfl, (blk_cell BK288.out 2).trans rfl, (blk_cell BK288.out 3).trans rfl, (blk_cell BK288.out 4).trans rfl⟩ (fun hHeld => ?_)
      clear hK K
      refine nz_ 48 ?_
      refine pure_ (i := 4) (N := some 49) (v := ?_) (a' := ?_) ba12_5 rfl rfl (by kernel_rfl) (fun _ _ _ h => h) (Or.inl ⟨by rfl, ?_⟩) ?_ ?_
      rotate_left; · intro w'; go_simp; with_reducible rfl
      rotate_left; · simp only [Act.put, List.setIfInBounds_toArray, List.set_cons_zero, List.set_cons_succ, i64_w, i32_w]; rfl
      refine done_ (by kernel_rfl) ?_
      try go_wp2
      go_ret
      exact ⟨by first | rfl | (simp [errW_none, errW_some] <;> rfl) | (simp [*, errW_none, errW_some] <;> rfl), by repeat (first | (with_reducible first | exact HB.out | apply below_alloc | apply pw_below_drewN | apply below_drew1 | refine below_set ?_ GE288.out | refine below_set ?_ GE309.out | refine below_set ?_ GE319.out | refine below_set ?_ GE330.out) | exact HB.out)⟩

end Go.Proofs.Ytiikcfaodkiakaa.QFnExactAgeLsa
