/- Contracts of functions that the law reaches: what each call returns and what it leaves in memory. Made by this session over the print of the kit. -/
import Derived.Test.YtmbaemcnjdgemaaDoorQFnBlocksx0
import Derived.Test.YtmbaemcnjdgemaaDoorQFnBlocksx6
import Derived.Test.YtmbaemcnjdgemaaDoorQFnBlocksx7
namespace Go.Proofs.YtmbaemcnjdgemaaDoor.QFnBlocks
open Go.RowKit Go.Proofs.YtmbaemcnjdgemaaDoorF.PrintWords Go.Proofs.YtmbaemcnjdgemaaDoorF.PrintLast Go.Proofs.YtmbaemcnjdgemaaDoorF.PrintMore
attribute [local go_sem] max2_int min2_int max_two min_two max_three min_three max_four min_four   -- for this text's walks alone
set_option linter.unusedVariables false
set_option linter.unusedSimpArgs false
def ba8_0 : Array Bool := #[false, false, false, false, false, false, false, false, false, false, false, false, false, false, false, false, false, false]
def ba8_1 : Array Bool := #[true, false, false, false, false, false, false, false, false, false, false, false, false, false, false, false, false, false]
def ba8_2 : Array Bool := #[true, false, true, false, false, false, false, false, false, false, false, false, false, false, false, false, false, false]
def ba8_3 : Array Bool := #[true, false, true, false, false, false, true, false, false, false, false, false, false, false, false, false, false, false]
def ba8_4 : Array Bool := #[true, false, true, false, false, false, true, false, false, false, false, false, true, false, false, false, false, false]
def ba8_5 : Array Bool := #[true, true, true, false, false, false, true, false, false, false, false, false, true, false, false, false, false, false]
def ba8_6 : Array Bool := #[true, true, true, true, false, false, true, false, false, false, false, false, true, false, false, false, false, false]
def ba8_7 : Array Bool := #[true, true, true, true, true, false, true, false, false, false, false, false, true, false, false, false, false, false]
def ba8_8 : Array Bool := #[true, true, true, true, true, true, true, false, false, false, false, false, true, false, false, false, false, false]
def ba8_9 : Array Bool := #[true, true, true, true, true, true, true, true, false, false, false, false, true, false, false, false, false, false]
def ba8_10 : Array Bool := #[true, true, true, true, true, true, true, true, true, false, false, false, true, false, false, false, false, false]
def ba8_11 : Array Bool := #[true, true, true, true, true, true, true, true, true, false, false, false, true, true, false, false, false, false]
def ba8_12 : Array Bool := #[true, true, true, true, true, true, true, true, true, false, false, false, true, true, true, false, false, false]
def ba8_13 : Array Bool := #[true, true, true, true, true, true, true, true, true, true, false, false, true, true, true, false, false, false]
def ba8_14 : Array Bool := #[true, true, true, true, true, true, true, true, true, true, true, false, true, true, true, false, false, false]
def ba8_15 : Array Bool := #[true, true, true, true, true, true, true, true, true, true, true, true, true, true, true, false, false, false]
def ba8_16 : Array Bool := #[true, true, true, true, true, true, true, true, true, true, true, true, true, true, true, true, false, false]
def ba8_17 : Array Bool := #[true, true, true, true, true, true, true, true, true, true, true, true, true, true, true, true, true, false]
def ba8_18 : Array Bool := #[true, true, true, true, true, true, true, true, true, true, true, true, true, true, true, true, true, true]
def ba8_19 : Array Bool := #[false, false, false, false, false]
def ba8_20 : Array Bool := #[true, false, false, false, false]
def ba8_21 : Array Bool := #[true, true, false, false, false]
def ba8_22 : Array Bool := #[true, true, true, false, false]
def ba8_23 : Array Bool := #[true, true, true, true, false]
def ba8_24 : Array Bool := #[true, true, true, true, true]

/-! ### impl_ParsePrefix: function 10 -/
section
open Go.Shelf Go.Lib Go.Sort
def pp_lay1_ren : Go.Shelf.Ren := ⟨fun | 145 => 30 | 220 => 51 | 219 => 66 | 217 => 75 | 225 => 76 | 224 => 77 | 267 => 78 | 266 => 86 | 314 => 87 | n => n, fun | 9 => 9 | 4 => 4 | 59 => 55 | 3 => 3 | 5 => 5 | 46 => 82 | 146 => 122 | 51 => 121 | n => n, fun | 1 => 0 | n => n⟩
theorem pp_lay1 : Go.Proofs.LaysM.n145 Tryd.prog pp_lay1_ren := {
  mixed := by kernel_rfl
  f145 := Tryd.func30.trans (congrArg some (by kernel_rfl))
  f217 := Tryd.func75.trans (congrArg some (by kernel_rfl))
  f219 := Tryd.func66.trans (congrArg some (by kernel_rfl))
  f220 := Tryd.func51.trans (congrArg some (by kernel_rfl))
  f224 := Tryd.func77.trans (congrArg some (by kernel_rfl))
  f225 := Tryd.func76.trans (congrArg some (by kernel_rfl))
  f266 := Tryd.func86.trans (congrArg some (by kernel_rfl))
  f267 := Tryd.func78.trans (congrArg some (by kernel_rfl))
  f314 := Tryd.func87.trans (congrArg some (by kernel_rfl))
  t3 := Tryd.underlying3
  a3 := Tryd.isAgg3
  z3 := Tryd.sizeOf3
  v3 := Tryd.zeroValue3
  t4 := Tryd.underlying4
  a4 := Tryd.isAgg4
  z4 := Tryd.sizeOf4
  v4 := Tryd.zeroValue4
  t5 := Tryd.underlying5
  a5 := Tryd.isAgg5
  z5 := Tryd.sizeOf5
  v5 := Tryd.zeroValue5
  t9 := Tryd.underlying9
  a9 := Tryd.isAgg9
  z9 := Tryd.sizeOf9
  v9 := Tryd.zeroValue9
  t46 := Tryd.underlying82
  a46 := Tryd.isAgg82
  z46 := Tryd.sizeOf82
  v46 := Tryd.zeroValue82
  t51 := Tryd.underlying121
  a51 := Tryd.isAgg121
  z51 := Tryd.sizeOf121
  v51 := Tryd.zeroValue121
  t59 := Tryd.underlying55
  a59 := Tryd.isAgg55
  z59 := Tryd.sizeOf55
  v59 := Tryd.zeroValue55
  t146 := Tryd.underlying122
  a146 := Tryd.isAgg122
  z146 := Tryd.sizeOf122
  v146 := Tryd.zeroValue122
  g1 := by kernel_rfl
  i3 := by kernel_rfl
  i4 := by kernel_rfl
  i5 := by kernel_rfl
  i9 := by kernel_rfl
  i46 := by kernel_rfl
  i51 := by kernel_rfl
  i59 := by kernel_rfl
  i146 := by kernel_rfl
  m1 := by kernel_rfl
  s1_3 := fun w h => Go.Proofs.cell_of_shapedOpen_int (zero := #[.int .i64 0]) (t := 3) h (of_decide_eq_true (by kernel_rfl)) (by kernel_rfl) rfl (by kernel_rfl) (by kernel_rfl) Tryd.underlying3 }
def pp_lay2_ren : Go.Shelf.Ren := ⟨fun | 172 => 31 | 244 => 52 | 245 => 53 | 247 => 67 | 279 => 68 | 280 => 69 | 281 => 70 | 282 => 71 | 287 => 79 | 316 => 80 | 171 => 46 | 205 => 81 | 321 => 88 | 322 => 89 | 243 => 61 | 246 => 73 | 283 => 82 | 284 => 83 | 285 => 84 | 286 => 85 | 129 => 91 | 317 => 90 | 318 => 92 | 319 => 93 | 320 => 94 | 337 => 95 | 338 => 96 | n => n, fun | 9 => 9 | 3 => 3 | 75 => 58 | 76 => 59 | 4 => 4 | 5 => 5 | 167 => 98 | 37 => 22 | 0 => 0 | 85 => 99 | 2 => 2 | 168 => 101 | 53 => 109 | 175 => 110 | 46 => 82 | 210 => 114 | 127 => 89 | 145 => 127 | 143 => 125 | 21 => 21 | 171 => 116 | 173 => 119 | 212 => 129 | 51 => 121 | 20 => 20 | 213 => 130 | 232 => 133 | 233 => 134 | 80 => 61 | n => n, fun | 15 => 1 | 16 => 2 | 17 => 3 | 18 => 4 | 19 => 5 | n => n⟩
theorem pp_lay2 : Go.Proofs.LaysC.n172 Tryd.prog pp_lay2_ren := {
  mixed := by kernel_rfl
  f129 := Tryd.func91.trans (congrArg some (by kernel_rfl))
  f171 := Tryd.func46.trans (congrArg some (by kernel_rfl))
  f172 := Tryd.func31.trans (congrArg some (by kernel_rfl))
  f205 := Tryd.func81.trans (congrArg some (by kernel_rfl))
  f243 := Tryd.func61.trans (congrArg some (by kernel_rfl))
  f244 := Tryd.func52.trans (congrArg some (by kernel_rfl))
  f245 := Tryd.func53.trans (congrArg some (by kernel_rfl))
  f246 := Tryd.func73.trans (congrArg some (by kernel_rfl))
  f247 := Tryd.func67.trans (congrArg some (by kernel_rfl))
  f279 := Tryd.func68.trans (congrArg some (by kernel_rfl))
  f280 := Tryd.func69.trans (congrArg some (by kernel_rfl))
  f281 := Tryd.func70.trans (congrArg some (by kernel_rfl))
  f282 := Tryd.func71.trans (congrArg some (by kernel_rfl))
  f283 := Tryd.func82.trans (congrArg some (by kernel_rfl))
  f284 := Tryd.func83.trans (congrArg some (by kernel_rfl))
  f285 := Tryd.func84.trans (congrArg some (by kernel_rfl))
  f286 := Tryd.func85.trans (congrArg some (by kernel_rfl))
  f287 := Tryd.func79.trans (congrArg some (by kernel_rfl))
  f316 := Tryd.func80.trans (congrArg some (by kernel_rfl))
  f317 := Tryd.func90.trans (congrArg some (by kernel_rfl))
  f318 := Tryd.func92.trans (congrArg some (by kernel_rfl))
  f319 := Tryd.func93.trans (congrArg some (by kernel_rfl))
  f320 := Tryd.func94.trans (congrArg some (by kernel_rfl))
  f321 := Tryd.func88.trans (congrArg some (by kernel_rfl))
  f322 := Tryd.func89.trans (congrArg some (by kernel_rfl))
  f337 := Tryd.func95.trans (congrArg some (by kernel_rfl))
  f338 := Tryd.func96.trans (congrArg some (by kernel_rfl))
  t0 := Tryd.underlying0
  a0 := Tryd.isAgg0
  z0 := Tryd.sizeOf0
  v0 := Tryd.zeroValue0
  t2 := Tryd.underlying2
  a2 := Tryd.isAgg2
  z2 := Tryd.sizeOf2
  v2 := Tryd.zeroValue2
  t3 := Tryd.underlying3
  a3 := Tryd.isAgg3
  z3 := Tryd.sizeOf3
  v3 := Tryd.zeroValue3
  t4 := Tryd.underlying4
  a4 := Tryd.isAgg4
  z4 := Tryd.sizeOf4
  v4 := Tryd.zeroValue4
  t5 := Tryd.underlying5
  a5 := Tryd.isAgg5
  z5 := Tryd.sizeOf5
  v5 := Tryd.zeroValue5
  t9 := Tryd.underlying9
  a9 := Tryd.isAgg9
  z9 := Tryd.sizeOf9
  v9 := Tryd.zeroValue9
  t20 := Tryd.underlying20
  a20 := Tryd.isAgg20
  z20 := Tryd.sizeOf20
  v20 := Tryd.zeroValue20
  t21 := Tryd.underlying21
  a21 := Tryd.isAgg21
  z21 := Tryd.sizeOf21
  v21 := Tryd.zeroValue21
  t37 := Tryd.underlying22
  a37 := Tryd.isAgg22
  z37 := Tryd.sizeOf22
  v37 := Tryd.zeroValue22
  t46 := Tryd.underlying82
  a46 := Tryd.isAgg82
  z46 := Tryd.sizeOf82
  v46 := Tryd.zeroValue82
  t51 := Tryd.underlying121
  a51 := Tryd.isAgg121
  z51 := Tryd.sizeOf121
  v51 := Tryd.zeroValue121
  t53 := Tryd.underlying109
  a53 := Tryd.isAgg109
  z53 := Tryd.sizeOf109
  v53 := Tryd.zeroValue109
  t75 := Tryd.underlying58
  a75 := Tryd.isAgg58
  z75 := Tryd.sizeOf58
  v75 := Tryd.zeroValue58
  t76 := Tryd.underlying59
  a76 := Tryd.isAgg59
  z76 := Tryd.sizeOf59
  v76 := Tryd.zeroValue59
  t85 := Tryd.underlying99
  a85 := Tryd.isAgg99
  z85 := Tryd.sizeOf99
  v85 := Tryd.zeroValue99
  t127 := Tryd.underlying89
  a127 := Tryd.isAgg89
  z127 := Tryd.sizeOf89
  v127 := Tryd.zeroValue89
  t143 := Tryd.underlying125
  a143 := Tryd.isAgg125
  z143 := Tryd.sizeOf125
  v143 := Tryd.zeroValue125
  t145 := Tryd.underlying127
  a145 := Tryd.isAgg127
  z145 := Tryd.sizeOf127
  v145 := Tryd.zeroValue127
  t167 := Tryd.underlying98
  a167 := Tryd.isAgg98
  z167 := Tryd.sizeOf98
  v167 := Tryd.zeroValue98
  t168 := Tryd.underlying101
  a168 := Tryd.isAgg101
  z168 := Tryd.sizeOf101
  v168 := Tryd.zeroValue101
  t171 := Tryd.underlying116
  a171 := Tryd.isAgg116
  z171 := Tryd.sizeOf116
  v171 := Tryd.zeroValue116
  t173 := Tryd.underlying119
  a173 := Tryd.isAgg119
  z173 := Tryd.sizeOf119
  v173 := Tryd.zeroValue119
  t175 := Tryd.underlying110
  a175 := Tryd.isAgg110
  z175 := Tryd.sizeOf110
  v175 := Tryd.zeroValue110
  t210 := Tryd.underlying114
  a210 := Tryd.isAgg114
  z210 := Tryd.sizeOf114
  v210 := Tryd.zeroValue114
  t212 := Tryd.underlying129
  a212 := Tryd.isAgg129
  z212 := Tryd.sizeOf129
  v212 := Tryd.zeroValue129
  t213 := Tryd.underlying130
  a213 := Tryd.isAgg130
  z213 := Tryd.sizeOf130
  t232 := Tryd.underlying133
  a232 := Tryd.isAgg133
  z232 := Tryd.sizeOf133
  v232 := Tryd.zeroValue133
  t233 := Tryd.underlying134
  a233 := Tryd.isAgg134
  z233 := Tryd.sizeOf134
  v233 := Tryd.zeroValue134
  g15 := by kernel_rfl
  g16 := by kernel_rfl
  g17 := by kernel_rfl
  g18 := by kernel_rfl
  g19 := by kernel_rfl
  t80 := Tryd.underlying61
  a80 := Tryd.isAgg61
  z80 := Tryd.sizeOf61
  v80 := Tryd.zeroValue61
  i0 := by kernel_rfl
  i2 := by kernel_rfl
  i3 := by kernel_rfl
  i4 := by kernel_rfl
  i5 := by kernel_rfl
  i9 := by kernel_rfl
  i20 := by kernel_rfl
  i21 := by kernel_rfl
  i37 := by kernel_rfl
  i46 := by kernel_rfl
  i51 := by kernel_rfl
  i53 := by kernel_rfl
  i75 := by kernel_rfl
  i76 := by kernel_rfl
  i80 := by kernel_rfl
  i85 := by kernel_rfl
  i127 := by kernel_rfl
  i143 := by kernel_rfl
  i145 := by kernel_rfl
  i167 := by kernel_rfl
  i168 := by kernel_rfl
  i171 := by kernel_rfl
  i173 := by kernel_rfl
  i175 := by kernel_rfl
  i210 := by kernel_rfl
  i212 := by kernel_rfl
  i232 := by kernel_rfl
  i233 := by kernel_rfl
  m15 := by kernel_rfl
  m16 := by kernel_rfl
  m17 := by kernel_rfl
  m18 := by kernel_rfl
  m19 := by kernel_rfl
  c0 := by kernel_rfl
  c2 := by kernel_rfl
  c3 := by kernel_rfl
  c4 := by kernel_rfl
  c5 := by kernel_rfl
  c9 := by kernel_rfl
  c20 := by kernel_rfl
  c21 := by kernel_rfl
  c37 := by kernel_rfl
  c46 := by kernel_rfl
  c51 := by kernel_rfl
  c53 := by kernel_rfl
  c75 := by kernel_rfl
  c76 := by kernel_rfl
  c80 := by kernel_rfl
  c85 := by kernel_rfl
  c127 := by kernel_rfl
  c143 := by kernel_rfl
  c145 := by kernel_rfl
  c167 := by kernel_rfl
  c168 := by kernel_rfl
  c171 := by kernel_rfl
  c173 := by kernel_rfl
  c175 := by kernel_rfl
  c210 := by kernel_rfl
  c212 := by kernel_rfl
  c213 := by kernel_rfl
  c232 := by kernel_rfl
  c233 := by kernel_rfl }
end
def ErrOk (w : World) : Prop := ∃ ev, w.cell? ⟨1, 0, none⟩ = some ev ∧ (ev = .nilIface ∨ ∃ te pe, ev = .iface te pe)
def MaxOk (w : World) : Prop := ∃ m, w.cell? ⟨0, 0, none⟩ = some (.int .i64 m)
def ParOk (w : World) : Prop := TabOk w ∧ ErrOk w ∧ MaxOk w
theorem par_below {w W : World} (h : ParOk w) (hb : Below w.heap.size w W) : ParOk W := by
 obtain ⟨h1, ⟨ev, h2, h3⟩, ⟨m, h4⟩⟩ := h
 exact ⟨tab_below h1 hb, ⟨ev, (hb.cell (World.block_lt_of_cell? w _ h2)).trans h2, h3⟩, ⟨m, (hb.cell (World.block_lt_of_cell? w _ h4)).trans h4⟩⟩
theorem pb_ {w W1 W : World} (hT : ParOk w) (HB : Aside0 (Below w.heap.size w W1)) (h : Below w.heap.size w W1 → Below w.heap.size w W := by intro hB_; repeat (first | (with_reducible first | exact hB_ | apply below_alloc | apply pw_below_drewN | apply below_drew1) | refine below_set ?_ (Aside0.out (by assumption)) | exact hB_)) : ParOk W := par_below hT (h HB.out)
def cutA (s sep : ByteArray) : ByteArray := ⟨(Lib.cut s.data.toList sep.data.toList).1.toArray⟩
def cutB (s sep : ByteArray) : ByteArray := ⟨(Lib.cut s.data.toList sep.data.toList).2.1.toArray⟩
def cutC (s sep : ByteArray) : Bool := (Lib.cut s.data.toList sep.data.toList).2.2
def atoiV (s : ByteArray) : Int := (Lib.atoi s.data.toList).getD 0
theorem cut_calls (s sep a b : ByteArray) (w : World) (hT : ParOk w) (hs : s.size ≤ 1000) (ha : cutA s sep = a) (hb : cutB s sep = b) :
  Calls Tryd.prog 30 #[.string s, .string sep] w fun e w' => e = .returned (.tuple #[.string a, .string b, .bool (cutC s sep)]) ∧ Below w.heap.size w w' := by
 subst ha hb
 obtain ⟨-, -, m, hm⟩ := hT
 refine (Any.strings_Cut { pp_lay1 with } s sep m w (by omega) hm).mono ?_
 rintro e w' ⟨rfl, n, rfl⟩
 exact ⟨rfl, pw_below_drewN (Below.refl w.heap.size w) n⟩
theorem atoi_calls (s : ByteArray) (v : Int) (w : World) (hT : ParOk w) (hs : s.size ≤ 18) (hv : atoiV s = v) :
  Calls Tryd.prog 31 #[.string s] w fun e w' => ∃ ev, e = .returned (.tuple #[.int .i64 v, ev]) ∧ Below w.heap.size w w' := by
 subst hv
 obtain ⟨-, ⟨ev, h2, h3⟩, -⟩ := hT
 cases q : Lib.atoi s.data.toList with
 | some n =>
  refine (Any.strconv_Atoi { pp_lay2 with } s n hs q w).mono ?_
  rintro e w' ⟨rfl, t, rfl⟩
  exact ⟨_, by unfold atoiV; rw [q]; rfl, Lib.bytesWorld_below _ _ _⟩
 | none =>
  refine (Any.strconv_Atoi_err pp_lay2 s hs q ev w h2 h3).mono ?_
  rintro e w' ⟨N, rfl, -, -, hb⟩
  exact ⟨_, by unfold atoiV; rw [q]; rfl, hb⟩
def ppHigh (a : ByteArray) : ByteArray := cutA a (⟨#[46]⟩ : ByteArray)
def ppRest (a : ByteArray) : ByteArray := cutB a (⟨#[46]⟩ : ByteArray)
def ppLow (a : ByteArray) : ByteArray := cutA (ppRest a) (⟨#[47]⟩ : ByteArray)
def ppLong (a : ByteArray) : ByteArray := cutB (ppRest a) (⟨#[47]⟩ : ByteArray)
def ppG (a : ByteArray) : Bool := decide ((ppRest a).size ≤ 1000 ∧ (ppHigh a).size ≤ 18 ∧ (ppLow a).size ≤ 18 ∧ (ppLong a).size ≤ 18)
def impl_ParsePrefix.g (a0 : ByteArray) (h l n : Int) : Option (Int × Int × Bool) := (impl_PrefixOk.f (wrap64 ((wrap64 (256 * h)) + l)) n).bind fun t => (if t = true then ((impl_Prefix_text.f (wrap64 ((wrap64 (256 * h)) + l)) n).bind fun s => (if s.toList = a0.toList then (some ((wrap64 ((wrap64 (256 * h)) + l)), n, true)) else (some (0, 0, false)))) else (some (0, 0, false)))
def impl_ParsePrefix.f (a0 : ByteArray) : Option (Int × Int × Bool) := if (a0.size : Int) > 12 then (some (0, 0, false)) else (if ppG a0 = true then (impl_ParsePrefix.g a0 (atoiV (ppHigh a0)) (atoiV (ppLow a0)) (atoiV (ppLong a0))) else (none))
set_option maxHeartbeats 8000000 in
set_option maxRecDepth 100000 in
theorem impl_ParsePrefix.calls (a0 : ByteArray) (r1 : Int) (r2 : Int) (r3 : Bool) (w : World) (hT : ParOk w) (h : impl_ParsePrefix.f a0 = some (r1, r2, r3)) :
  Calls Tryd.prog 10 #[.string a0] w fun e w' => e = .returned (.tuple #[.agg #[.int .i64 r1, .int .i64 r2], .bool r3]) ∧ Below w.heap.size w w' := by
 have hu25 := Tryd.underlying25
 have HB := Aside0.mk (Below.refl w.heap.size w)
 have hT1 : TabOk w := hT.1
 have H := h
 clear h
 unfold impl_ParsePrefix.f at H
 by_cases c2 : (a0.size : Int) > 12
 ·rw [if_pos c2] at H
  have c2b0 : decide (12 < (a0.size : Int)) = true := decide_eq_true c2
  have c2b1 : decide (12 < a0.size) = true := decide_eq_true (by omega)
  clear c2
  simp only [Option.some.injEq, Prod.mk.injEq] at H
  obtain ⟨rfl, rfl, rfl⟩ := H
  go_enter Tryd.func10, Tryd.ntmps10
  go_wp2_with (first | ((with_reducible refine gate_dst (N := 2) rfl ?_); refine box_event ?hg (N := 2) ?hd (cs := #[.int .i64 0, .int .i64 0]) (t := 25) ?hr ?_; (case hd => rfl); (case hg => rfl); (case hr => first | (go_simp; done) | (go_simp; rfl)); intro gb2 hg w3 hbox hb; have BK2 := Aside0.mk hbox; have GE2 := ge_ HB hg; replace HB := Aside0.mk (bt_ HB hb); clear hb hbox hg; have hcz1_0 := cz_ BK2 0 (.int .i64 0); have hcz1_1 := cz_ BK2 1 (.int .i64 0); have hfz1_0 := blk_frozen BK2.out 0; have hfz1_1 := blk_frozen BK2.out 1))
  refine bodyPost_ret (results_ct rfl _ _ gb2 25 #[.int .i64 0, .int .i64 0] (0, 0) _ rfl (by (with_reducible repeat (first | refine blk_drewN ?_ _ | refine blk_drew ?_ | refine blk_alloc ?_ _)); refine blk_put (cs := #[.int .i64 0, .int .i64 0]) ?_ 1 _ rfl; (with_reducible repeat (first | refine blk_drewN ?_ _ | refine blk_drew ?_ | refine blk_alloc ?_ _)); refine blk_put (cs := #[.int .i64 0, .int .i64 0]) ?_ 0 _ rfl; (with_reducible repeat (first | refine blk_drewN ?_ _ | refine blk_drew ?_ | refine blk_alloc ?_ _)); exact BK2.out) Tryd.underlying25 rfl (by kernel_rfl)) rfl ?_
  exact ⟨by first | rfl | (simp [errW_none, errW_some] <;> rfl) | (simp [*, errW_none, errW_some] <;> rfl), by repeat (first | (with_reducible first | exact HB.out | apply below_alloc | apply pw_below_drewN | apply below_drew1 | refine below_set ?_ GE2.out) | exact HB.out)⟩
 rw [if_neg c2] at H
 have c2b0 : decide (12 < (a0.size : Int)) = false := decide_eq_false c2
 have c2b1 : decide (12 < a0.size) = false := decide_eq_false (by omega)
 have hsz : a0.size ≤ 1000 := by omega
 clear c2
 by_cases c3 : ppG a0 = true
 rotate_left
 ·rw [if_neg c3] at H
  exact absurd H (by simp)
 rw [if_pos c3] at H
 have G := of_decide_eq_true c3
 clear c3
 unfold ppLow ppLong ppHigh ppRest at H G
 obtain ⟨hi, ehi⟩ : ∃ x, cutA a0 (⟨#[46]⟩ : ByteArray) = x := ⟨_, rfl⟩
 obtain ⟨re, ere⟩ : ∃ x, cutB a0 (⟨#[46]⟩ : ByteArray) = x := ⟨_, rfl⟩
 rw [ehi, ere] at H G
 obtain ⟨lo, elo⟩ : ∃ x, cutA re (⟨#[47]⟩ : ByteArray) = x := ⟨_, rfl⟩
 obtain ⟨lg, elg⟩ : ∃ x, cutB re (⟨#[47]⟩ : ByteArray) = x := ⟨_, rfl⟩
 rw [elo, elg] at H G
 obtain ⟨h, eh⟩ : ∃ x, atoiV hi = x := ⟨_, rfl⟩
 obtain ⟨l, el⟩ : ∃ x, atoiV lo = x := ⟨_, rfl⟩
 obtain ⟨n, en⟩ : ∃ x, atoiV lg = x := ⟨_, rfl⟩
 rw [eh, el, en] at H
 obtain ⟨g1, g2, g3, g4⟩ := G
 unfold impl_ParsePrefix.g at H
 replace H := Option.bind_eq_some_iff.mp H
 obtain ⟨t, A20, H⟩ := H
 have A2 := Aside0.mk A20
 clear A20
 by_cases c4 : t = true
 rotate_left
 ·replace c4 := Bool.eq_false_iff.mpr c4
  subst c4
  rw [if_neg (show ¬ (false = true) by decide)] at H
  simp only [Option.some.injEq, Prod.mk.injEq] at H
  obtain ⟨rfl, rfl, rfl⟩ := H
  go_enter Tryd.func10, Tryd.ntmps10
  go_wp2_with (first | ((with_reducible refine gate_dst (N := 2) rfl ?_); refine box_event ?hg (N := 2) ?hd (cs := #[.int .i64 0, .int .i64 0]) (t := 25) ?hr ?_; (case hd => rfl); (case hg => rfl); (case hr => first | (go_simp; done) | (go_simp; rfl)); intro gb2 hg w3 hbox hb; have BK2 := Aside0.mk hbox; have GE2 := ge_ HB hg; replace HB := Aside0.mk (bt_ HB hb); clear hb hbox hg; have hcz1_0 := cz_ BK2 0 (.int .i64 0); have hcz1_1 := cz_ BK2 1 (.int .i64 0); have hfz1_0 := blk_frozen BK2.out 0; have hfz1_1 := blk_frozen BK2.out 1) | ((with_reducible refine gate_callee (f := 30) rfl ?_); refine gl_ (some 23) Tryd.func30 #[.string a0, .string (⟨#[46]⟩ : ByteArray)] ?_; (refine (cut_calls a0 (⟨#[46]⟩ : ByteArray) hi re _ (pb_ hT HB) (by omega) ehi ere).mono ?_); rintro e w4 ⟨rfl, hb⟩; refine ⟨_, rfl, ?_⟩; replace BK2 := Aside0.mk (bb_ BK2 hb); replace HB := Aside0.mk (bt_ HB hb); clear hb) | ((with_reducible refine gate_callee (f := 30) rfl ?_); refine gl_ (some 29) Tryd.func30 #[.string re, .string (⟨#[47]⟩ : ByteArray)] ?_; (refine (cut_calls re (⟨#[47]⟩ : ByteArray) lo lg _ (pb_ hT HB) g1 elo elg).mono ?_); rintro e w4 ⟨rfl, hb⟩; refine ⟨_, rfl, ?_⟩; replace BK2 := Aside0.mk (bb_ BK2 hb); replace HB := Aside0.mk (bt_ HB hb); clear hb) | ((with_reducible refine gate_callee (f := 31) rfl ?_); refine gl_ (some 35) Tryd.func31 #[.string hi] ?_; (refine (atoi_calls hi h _ (pb_ hT HB) g2 eh).mono ?_); rintro e w5 ⟨ev35, rfl, hb⟩; refine ⟨_, rfl, ?_⟩; replace BK2 := Aside0.mk (bb_ BK2 hb); replace HB := Aside0.mk (bt_ HB hb); clear hb) | ((with_reducible refine gate_callee (f := 31) rfl ?_); refine gl_ (some 40) Tryd.func31 #[.string lo] ?_; (refine (atoi_calls lo l _ (pb_ hT HB) g3 el).mono ?_); rintro e w5 ⟨ev40, rfl, hb⟩; refine ⟨_, rfl, ?_⟩; replace BK2 := Aside0.mk (bb_ BK2 hb); replace HB := Aside0.mk (bt_ HB hb); clear hb) | ((with_reducible refine gate_callee (f := 31) rfl ?_); refine gl_ (some 45) Tryd.func31 #[.string lg] ?_; (refine (atoi_calls lg n _ (pb_ hT HB) g4 en).mono ?_); rintro e w5 ⟨ev45, rfl, hb⟩; refine ⟨_, rfl, ?_⟩; replace BK2 := Aside0.mk (bb_ BK2 hb); replace HB := Aside0.mk (bt_ HB hb); clear hb) | ((with_reducible refine gate_dst (N := 16) rfl ?_); refine box_event ?hg (N := 16) ?hd (cs := #[.int .i64 0, .int .i64 0]) (t := 25) ?hr ?_; (case hd => rfl); (case hg => rfl); (case hr => first | (go_simp; done) | (go_simp; rfl)); intro gb16 hg w6 hbox hb; have BK16 := Aside0.mk hbox; have GE16 := ge_ HB hg; have NB2_16 := nl_ BK2 hg; have NB16_2 := ng_ BK2 hg; replace HB := Aside0.mk (bt_ HB hb); replace BK2 := Aside0.mk (bb_ BK2 hb); clear hb hbox hg; have hnb1 := NB16_2.out; have hnc1 := NB2_16.out; have hcz2_0 := cz_ BK16 0 (.int .i64 0); have hcz2_1 := cz_ BK16 1 (.int .i64 0); have hfz2_0 := blk_frozen BK16.out 0; have hfz2_1 := blk_frozen BK16.out 1) | ((with_reducible refine gate_callee (f := 32) rfl ?_); refine gl_ (some 55) Tryd.func32 #[.agg #[.int .i64 (wrap64 ((wrap64 (256 * h)) + l)), .int .i64 n]] ?_; (with_reducible refine (impl_PrefixOk.calls (wrap64 ((wrap64 (256 * h)) + l)) n false _ A2.out).mono ?_); rintro e w7 ⟨rfl, hb⟩; refine ⟨_, rfl, ?_⟩; replace BK2 := bf_ BK2 NB2_16 hb; replace BK16 := Aside0.mk (show w7.heap[gb16]? = some (.cells #[.int .i64 (wrap64 ((wrap64 (256 * h)) + l)), .int .i64 n] 25 (0, 0)) from blk_below (by (with_reducible repeat (first | refine blk_drewN ?_ _ | refine blk_drew ?_ | refine blk_alloc ?_ _)); refine blk_put (cs := #[.int .i64 (wrap64 ((wrap64 (256 * h)) + l)), .int .i64 0]) ?_ 1 _ rfl; (with_reducible repeat (first | refine blk_drewN ?_ _ | refine blk_drew ?_ | refine blk_alloc ?_ _)); refine blk_put (cs := #[.int .i64 0, .int .i64 0]) ?_ 0 _ rfl; (with_reducible repeat (first | refine blk_drewN ?_ _ | refine blk_drew ?_ | refine blk_alloc ?_ _)); exact BK16.out) hb); replace HB := Aside0.mk (bt_ HB hb); clear hb; have hcz3_0 := cz_ BK16 0 (.int .i64 (wrap64 ((wrap64 (256 * h)) + l))); have hcz3_1 := cz_ BK16 1 (.int .i64 n); have hfz3_0 := blk_frozen BK16.out 0; have hfz3_1 := blk_frozen BK16.out 1; have hcz4_0 := cz_ BK2 0 (.int .i64 0); have hcz4_1 := cz_ BK2 1 (.int .i64 0); have hfz4_0 := blk_frozen BK2.out 0; have hfz4_1 := blk_frozen BK2.out 1))
  refine bodyPost_ret (results_ct rfl _ _ gb2 25 #[.int .i64 0, .int .i64 0] (0, 0) _ rfl (by (with_reducible repeat (first | refine blk_drewN ?_ _ | refine blk_drew ?_ | refine blk_alloc ?_ _)); refine blk_put (cs := #[.int .i64 0, .int .i64 0]) ?_ 1 _ rfl; (with_reducible repeat (first | refine blk_drewN ?_ _ | refine blk_drew ?_ | refine blk_alloc ?_ _)); refine blk_put (cs := #[.int .i64 0, .int .i64 0]) ?_ 0 _ rfl; (with_reducible repeat (first | refine blk_drewN ?_ _ | refine blk_drew ?_ | refine blk_alloc ?_ _)); exact BK2.out) Tryd.underlying25 rfl (by kernel_rfl)) rfl ?_
  exact ⟨by first | rfl | (simp [errW_none, errW_some] <;> rfl) | (simp [*, errW_none, errW_some] <;> rfl), by repeat (first | (with_reducible first | exact HB.out | apply below_alloc | apply pw_below_drewN | apply below_drew1 | refine below_set ?_ GE2.out | refine below_set ?_ GE16.out) | exact HB.out)⟩
 subst c4
 rw [if_pos rfl] at H
 replace H := Option.bind_eq_some_iff.mp H
 obtain ⟨s, A30, H⟩ := H
 have A3 := Aside0.mk A30
 clear A30
 by_cases c5 : s.toList = a0.toList
 ·rw [if_pos c5] at H
  have c5b0 : (s.toList == a0.toList) = true := beq_iff_eq.mpr c5
  have c5b1 : (s.toList != a0.toList) = false := bne_eq_false_iff_eq.mpr c5
  clear c5
  simp only [Option.some.injEq, Prod.mk.injEq] at H
  obtain ⟨rfl, rfl, rfl⟩ := H
  go_enter Tryd.func10, Tryd.ntmps10
  go_wp2_with (first | ((with_reducible refine gate_dst (N := 2) rfl ?_); refine box_event ?hg (N := 2) ?hd (cs := #[.int .i64 0, .int .i64 0]) (t := 25) ?hr ?_; (case hd => rfl); (case hg => rfl); (case hr => first | (go_simp; done) | (go_simp; rfl)); intro gb2 hg w3 hbox hb; have BK2 := Aside0.mk hbox; have GE2 := ge_ HB hg; replace HB := Aside0.mk (bt_ HB hb); clear hb hbox hg; have hcz1_0 := cz_ BK2 0 (.int .i64 0); have hcz1_1 := cz_ BK2 1 (.int .i64 0); have hfz1_0 := blk_frozen BK2.out 0; have hfz1_1 := blk_frozen BK2.out 1) | ((with_reducible refine gate_callee (f := 30) rfl ?_); refine gl_ (some 23) Tryd.func30 #[.string a0, .string (⟨#[46]⟩ : ByteArray)] ?_; (refine (cut_calls a0 (⟨#[46]⟩ : ByteArray) hi re _ (pb_ hT HB) (by omega) ehi ere).mono ?_); rintro e w4 ⟨rfl, hb⟩; refine ⟨_, rfl, ?_⟩; replace BK2 := Aside0.mk (bb_ BK2 hb); replace HB := Aside0.mk (bt_ HB hb); clear hb) | ((with_reducible refine gate_callee (f := 30) rfl ?_); refine gl_ (some 29) Tryd.func30 #[.string re, .string (⟨#[47]⟩ : ByteArray)] ?_; (refine (cut_calls re (⟨#[47]⟩ : ByteArray) lo lg _ (pb_ hT HB) g1 elo elg).mono ?_); rintro e w4 ⟨rfl, hb⟩; refine ⟨_, rfl, ?_⟩; replace BK2 := Aside0.mk (bb_ BK2 hb); replace HB := Aside0.mk (bt_ HB hb); clear hb) | ((with_reducible refine gate_callee (f := 31) rfl ?_); refine gl_ (some 35) Tryd.func31 #[.string hi] ?_; (refine (atoi_calls hi h _ (pb_ hT HB) g2 eh).mono ?_); rintro e w5 ⟨ev35, rfl, hb⟩; refine ⟨_, rfl, ?_⟩; replace BK2 := Aside0.mk (bb_ BK2 hb); replace HB := Aside0.mk (bt_ HB hb); clear hb) | ((with_reducible refine gate_callee (f := 31) rfl ?_); refine gl_ (some 40) Tryd.func31 #[.string lo] ?_; (refine (atoi_calls lo l _ (pb_ hT HB) g3 el).mono ?_); rintro e w5 ⟨ev40, rfl, hb⟩; refine ⟨_, rfl, ?_⟩; replace BK2 := Aside0.mk (bb_ BK2 hb); replace HB := Aside0.mk (bt_ HB hb); clear hb) | ((with_reducible refine gate_callee (f := 31) rfl ?_); refine gl_ (some 45) Tryd.func31 #[.string lg] ?_; (refine (atoi_calls lg n _ (pb_ hT HB) g4 en).mono ?_); rintro e w5 ⟨ev45, rfl, hb⟩; refine ⟨_, rfl, ?_⟩; replace BK2 := Aside0.mk (bb_ BK2 hb); replace HB := Aside0.mk (bt_ HB hb); clear hb) | ((with_reducible refine gate_dst (N := 16) rfl ?_); refine box_event ?hg (N := 16) ?hd (cs := #[.int .i64 0, .int .i64 0]) (t := 25) ?hr ?_; (case hd => rfl); (case hg => rfl); (case hr => first | (go_simp; done) | (go_simp; rfl)); intro gb16 hg w6 hbox hb; have BK16 := Aside0.mk hbox; have GE16 := ge_ HB hg; have NB2_16 := nl_ BK2 hg; have NB16_2 := ng_ BK2 hg; replace HB := Aside0.mk (bt_ HB hb); replace BK2 := Aside0.mk (bb_ BK2 hb); clear hb hbox hg; have hnb1 := NB16_2.out; have hnc1 := NB2_16.out; have hcz2_0 := cz_ BK16 0 (.int .i64 0); have hcz2_1 := cz_ BK16 1 (.int .i64 0); have hfz2_0 := blk_frozen BK16.out 0; have hfz2_1 := blk_frozen BK16.out 1) | ((with_reducible refine gate_callee (f := 32) rfl ?_); refine gl_ (some 55) Tryd.func32 #[.agg #[.int .i64 (wrap64 ((wrap64 (256 * h)) + l)), .int .i64 n]] ?_; (with_reducible refine (impl_PrefixOk.calls (wrap64 ((wrap64 (256 * h)) + l)) n true _ A2.out).mono ?_); rintro e w7 ⟨rfl, hb⟩; refine ⟨_, rfl, ?_⟩; replace BK2 := bf_ BK2 NB2_16 hb; replace BK16 := Aside0.mk (show w7.heap[gb16]? = some (.cells #[.int .i64 (wrap64 ((wrap64 (256 * h)) + l)), .int .i64 n] 25 (0, 0)) from blk_below (by (with_reducible repeat (first | refine blk_drewN ?_ _ | refine blk_drew ?_ | refine blk_alloc ?_ _)); refine blk_put (cs := #[.int .i64 (wrap64 ((wrap64 (256 * h)) + l)), .int .i64 0]) ?_ 1 _ rfl; (with_reducible repeat (first | refine blk_drewN ?_ _ | refine blk_drew ?_ | refine blk_alloc ?_ _)); refine blk_put (cs := #[.int .i64 0, .int .i64 0]) ?_ 0 _ rfl; (with_reducible repeat (first | refine blk_drewN ?_ _ | refine blk_drew ?_ | refine blk_alloc ?_ _)); exact BK16.out) hb); replace HB := Aside0.mk (bt_ HB hb); clear hb; have hcz3_0 := cz_ BK16 0 (.int .i64 (wrap64 ((wrap64 (256 * h)) + l))); have hcz3_1 := cz_ BK16 1 (.int .i64 n); have hfz3_0 := blk_frozen BK16.out 0; have hfz3_1 := blk_frozen BK16.out 1; have hcz4_0 := cz_ BK2 0 (.int .i64 0); have hcz4_1 := cz_ BK2 1 (.int .i64 0); have hfz4_0 := blk_frozen BK2.out 0; have hfz4_1 := blk_frozen BK2.out 1) | (go_at_call 33; (with_reducible refine (impl_Prefix_text.calls (wrap64 ((wrap64 (256 * h)) + l)) n s _ (tb_ hT1 HB) A3.out).mono ?_); rintro e w8 ⟨rfl, hb⟩; replace BK2 := Aside0.mk (bb_ BK2 hb); replace BK16 := Aside0.mk (bb_ BK16 hb); replace HB := Aside0.mk (bt_ HB hb); clear hb; have hcz5_0 := cz_ BK16 0 (.int .i64 (wrap64 ((wrap64 (256 * h)) + l))); have hcz5_1 := cz_ BK16 1 (.int .i64 n); have hfz5_0 := blk_frozen BK16.out 0; have hfz5_1 := blk_frozen BK16.out 1; have hcz6_0 := cz_ BK2 0 (.int .i64 0); have hcz6_1 := cz_ BK2 1 (.int .i64 0); have hfz6_0 := blk_frozen BK2.out 0; have hfz6_1 := blk_frozen BK2.out 1))
  refine bodyPost_ret (results_ct rfl _ _ gb2 25 #[.int .i64 (wrap64 ((wrap64 (256 * h)) + l)), .int .i64 n] (0, 0) _ rfl (by (with_reducible repeat (first | refine blk_drewN ?_ _ | refine blk_drew ?_ | refine blk_alloc ?_ _)); refine blk_put (cs := #[.int .i64 (wrap64 ((wrap64 (256 * h)) + l)), .int .i64 0]) ?_ 1 _ rfl; (with_reducible repeat (first | refine blk_drewN ?_ _ | refine blk_drew ?_ | refine blk_alloc ?_ _)); refine blk_put (cs := #[.int .i64 0, .int .i64 0]) ?_ 0 _ rfl; (with_reducible repeat (first | refine blk_drewN ?_ _ | refine blk_drew ?_ | refine blk_alloc ?_ _)); exact BK2.out) Tryd.underlying25 rfl (by kernel_rfl)) rfl ?_
  exact ⟨by first | rfl | (simp [errW_none, errW_some] <;> rfl) | (simp [*, errW_none, errW_some] <;> rfl), by repeat (first | (with_reducible first | exact HB.out | apply below_alloc | apply pw_below_drewN | apply below_drew1 | refine below_set ?_ GE2.out | refine below_set ?_ GE16.out) | exact HB.out)⟩
 ·rw [if_neg c5] at H
  have c5b0 : (s.toList == a0.toList) = false := beq_eq_false_iff_ne.mpr c5
  have c5b1 : (s.toList != a0.toList) = true := bne_iff_ne.mpr c5
  clear c5
  simp only [Option.some.injEq, Prod.mk.injEq] at H
  obtain ⟨rfl, rfl, rfl⟩ := H
  go_enter Tryd.func10, Tryd.ntmps10
  go_wp2_with (first | ((with_reducible refine gate_dst (N := 2) rfl ?_); refine box_event ?hg (N := 2) ?hd (cs := #[.int .i64 0, .int .i64 0]) (t := 25) ?hr ?_; (case hd => rfl); (case hg => rfl); (case hr => first | (go_simp; done) | (go_simp; rfl)); intro gb2 hg w3 hbox hb; have BK2 := Aside0.mk hbox; have GE2 := ge_ HB hg; replace HB := Aside0.mk (bt_ HB hb); clear hb hbox hg; have hcz1_0 := cz_ BK2 0 (.int .i64 0); have hcz1_1 := cz_ BK2 1 (.int .i64 0); have hfz1_0 := blk_frozen BK2.out 0; have hfz1_1 := blk_frozen BK2.out 1) | ((with_reducible refine gate_callee (f := 30) rfl ?_); refine gl_ (some 23) Tryd.func30 #[.string a0, .string (⟨#[46]⟩ : ByteArray)] ?_; (refine (cut_calls a0 (⟨#[46]⟩ : ByteArray) hi re _ (pb_ hT HB) (by omega) ehi ere).mono ?_); rintro e w4 ⟨rfl, hb⟩; refine ⟨_, rfl, ?_⟩; replace BK2 := Aside0.mk (bb_ BK2 hb); replace HB := Aside0.mk (bt_ HB hb); clear hb) | ((with_reducible refine gate_callee (f := 30) rfl ?_); refine gl_ (some 29) Tryd.func30 #[.string re, .string (⟨#[47]⟩ : ByteArray)] ?_; (refine (cut_calls re (⟨#[47]⟩ : ByteArray) lo lg _ (pb_ hT HB) g1 elo elg).mono ?_); rintro e w4 ⟨rfl, hb⟩; refine ⟨_, rfl, ?_⟩; replace BK2 := Aside0.mk (bb_ BK2 hb); replace HB := Aside0.mk (bt_ HB hb); clear hb) | ((with_reducible refine gate_callee (f := 31) rfl ?_); refine gl_ (some 35) Tryd.func31 #[.string hi] ?_; (refine (atoi_calls hi h _ (pb_ hT HB) g2 eh).mono ?_); rintro e w5 ⟨ev35, rfl, hb⟩; refine ⟨_, rfl, ?_⟩; replace BK2 := Aside0.mk (bb_ BK2 hb); replace HB := Aside0.mk (bt_ HB hb); clear hb) | ((with_reducible refine gate_callee (f := 31) rfl ?_); refine gl_ (some 40) Tryd.func31 #[.string lo] ?_; (refine (atoi_calls lo l _ (pb_ hT HB) g3 el).mono ?_); rintro e w5 ⟨ev40, rfl, hb⟩; refine ⟨_, rfl, ?_⟩; replace BK2 := Aside0.mk (bb_ BK2 hb); replace HB := Aside0.mk (bt_ HB hb); clear hb) | ((with_reducible refine gate_callee (f := 31) rfl ?_); refine gl_ (some 45) Tryd.func31 #[.string lg] ?_; (refine (atoi_calls lg n _ (pb_ hT HB) g4 en).mono ?_); rintro e w5 ⟨ev45, rfl, hb⟩; refine ⟨_, rfl, ?_⟩; replace BK2 := Aside0.mk (bb_ BK2 hb); replace HB := Aside0.mk (bt_ HB hb); clear hb) | ((with_reducible refine gate_dst (N := 16) rfl ?_); refine box_event ?hg (N := 16) ?hd (cs := #[.int .i64 0, .int .i64 0]) (t := 25) ?hr ?_; (case hd => rfl); (case hg => rfl); (case hr => first | (go_simp; done) | (go_simp; rfl)); intro gb16 hg w6 hbox hb; have BK16 := Aside0.mk hbox; have GE16 := ge_ HB hg; have NB2_16 := nl_ BK2 hg; have NB16_2 := ng_ BK2 hg; replace HB := Aside0.mk (bt_ HB hb); replace BK2 := Aside0.mk (bb_ BK2 hb); clear hb hbox hg; have hnb1 := NB16_2.out; have hnc1 := NB2_16.out; have hcz2_0 := cz_ BK16 0 (.int .i64 0); have hcz2_1 := cz_ BK16 1 (.int .i64 0); have hfz2_0 := blk_frozen BK16.out 0; have hfz2_1 := blk_frozen BK16.out 1) | ((with_reducible refine gate_callee (f := 32) rfl ?_); refine gl_ (some 55) Tryd.func32 #[.agg #[.int .i64 (wrap64 ((wrap64 (256 * h)) + l)), .int .i64 n]] ?_; (with_reducible refine (impl_PrefixOk.calls (wrap64 ((wrap64 (256 * h)) + l)) n true _ A2.out).mono ?_); rintro e w7 ⟨rfl, hb⟩; refine ⟨_, rfl, ?_⟩; replace BK2 := bf_ BK2 NB2_16 hb; replace BK16 := Aside0.mk (show w7.heap[gb16]? = some (.cells #[.int .i64 (wrap64 ((wrap64 (256 * h)) + l)), .int .i64 n] 25 (0, 0)) from blk_below (by (with_reducible repeat (first | refine blk_drewN ?_ _ | refine blk_drew ?_ | refine blk_alloc ?_ _)); refine blk_put (cs := #[.int .i64 (wrap64 ((wrap64 (256 * h)) + l)), .int .i64 0]) ?_ 1 _ rfl; (with_reducible repeat (first | refine blk_drewN ?_ _ | refine blk_drew ?_ | refine blk_alloc ?_ _)); refine blk_put (cs := #[.int .i64 0, .int .i64 0]) ?_ 0 _ rfl; (with_reducible repeat (first | refine blk_drewN ?_ _ | refine blk_drew ?_ | refine blk_alloc ?_ _)); exact BK16.out) hb); replace HB := Aside0.mk (bt_ HB hb); clear hb; have hcz3_0 := cz_ BK16 0 (.int .i64 (wrap64 ((wrap64 (256 * h)) + l))); have hcz3_1 := cz_ BK16 1 (.int .i64 n); have hfz3_0 := blk_frozen BK16.out 0; have hfz3_1 := blk_frozen BK16.out 1; have hcz4_0 := cz_ BK2 0 (.int .i64 0); have hcz4_1 := cz_ BK2 1 (.int .i64 0); have hfz4_0 := blk_frozen BK2.out 0; have hfz4_1 := blk_frozen BK2.out 1) | (go_at_call 33; (with_reducible refine (impl_Prefix_text.calls (wrap64 ((wrap64 (256 * h)) + l)) n s _ (tb_ hT1 HB) A3.out).mono ?_); rintro e w8 ⟨rfl, hb⟩; replace BK2 := Aside0.mk (bb_ BK2 hb); replace BK16 := Aside0.mk (bb_ BK16 hb); replace HB := Aside0.mk (bt_ HB hb); clear hb; have hcz5_0 := cz_ BK16 0 (.int .i64 (wrap64 ((wrap64 (256 * h)) + l))); have hcz5_1 := cz_ BK16 1 (.int .i64 n); have hfz5_0 := blk_frozen BK16.out 0; have hfz5_1 := blk_frozen BK16.out 1; have hcz6_0 := cz_ BK2 0 (.int .i64 0); have hcz6_1 := cz_ BK2 1 (.int .i64 0); have hfz6_0 := blk_frozen BK2.out 0; have hfz6_1 := blk_frozen BK2.out 1))
  refine bodyPost_ret (results_ct rfl _ _ gb2 25 #[.int .i64 0, .int .i64 0] (0, 0) _ rfl (by (with_reducible repeat (first | refine blk_drewN ?_ _ | refine blk_drew ?_ | refine blk_alloc ?_ _)); refine blk_put (cs := #[.int .i64 0, .int .i64 0]) ?_ 1 _ rfl; (with_reducible repeat (first | refine blk_drewN ?_ _ | refine blk_drew ?_ | refine blk_alloc ?_ _)); refine blk_put (cs := #[.int .i64 0, .int .i64 0]) ?_ 0 _ rfl; (with_reducible repeat (first | refine blk_drewN ?_ _ | refine blk_drew ?_ | refine blk_alloc ?_ _)); exact BK2.out) Tryd.underlying25 rfl (by kernel_rfl)) rfl ?_
  exact ⟨by first | rfl | (simp [errW_none, errW_some] <;> rfl) | (simp [*, errW_none, errW_some] <;> rfl), by repeat (first | (with_reducible first | exact HB.out | apply below_alloc | apply pw_below_drewN | apply below_drew1 | refine below_set ?_ GE2.out | refine below_set ?_ GE16.out) | exact HB.out)⟩

/-! ### impl_PrefixText: function 11 -/
def impl_PrefixText.f (a0_0 : Int) (a0_1 : Int) : Option (ByteArray) := (impl_PrefixOk.f a0_0 a0_1).bind fun t236 => (if t236 = true then ((impl_Prefix_text.f a0_0 a0_1).bind fun t237 => (some t237)) else (some (⟨#[]⟩ : ByteArray)))
set_option maxHeartbeats 8000000 in
set_option maxRecDepth 100000 in
theorem impl_PrefixText.calls (a0_0 : Int) (a0_1 : Int) (r : ByteArray) (w : World) (hT : TabOk w) (h : impl_PrefixText.f a0_0 a0_1 = some r) :
  Calls Tryd.prog 11 #[.agg #[.int .i64 a0_0, .int .i64 a0_1]] w fun e w' => e = .returned (.string r) ∧ Below w.heap.size w w' := by
 have hu25 := Tryd.underlying25
 have HB := Aside0.mk (Below.refl w.heap.size w)
 have H : ((impl_PrefixOk.f a0_0 a0_1).bind fun t236 => (if t236 = true then ((impl_Prefix_text.f a0_0 a0_1).bind fun t237 => (some t237)) else (some (⟨#[]⟩ : ByteArray)))) = some r := h
 clear h
 replace H := Option.bind_eq_some_iff.mp H
 obtain ⟨t236, A20, H⟩ := H
 have A2 := Aside0.mk A20
 clear A20
 by_cases c3 : t236 = true
 ·subst c3
  rw [if_pos rfl] at H
  replace H := Option.bind_eq_some_iff.mp H
  obtain ⟨t237, A40, H⟩ := H
  have A4 := Aside0.mk A40
  clear A40
  obtain rfl := Option.some.inj H
  go_enter Tryd.func11, Tryd.ntmps11
  go_wp2_with (first | ((with_reducible refine gate_dst (N := 1) rfl ?_); refine box_event ?hg (N := 1) ?hd (cs := #[.int .i64 a0_0, .int .i64 a0_1]) (t := 25) ?hr ?_; (case hd => rfl); (case hg => rfl); (case hr => first | (go_simp; done) | (go_simp; rfl)); intro gb235 hg w5 hbox hb; have BK235 := Aside0.mk hbox; have GW235 := ge_ HB hg; have GE235 := ge_ HB hg; replace HB := Aside0.mk (bt_ HB hb); clear hb hbox hg; have hcz6_0 := cz_ BK235 0 (.int .i64 a0_0); have hcz6_1 := cz_ BK235 1 (.int .i64 a0_1); have hfz6_0 := blk_frozen BK235.out 0; have hfz6_1 := blk_frozen BK235.out 1) | ((with_reducible refine gate_callee (f := 32) rfl ?_); refine gl_ (some 4) Tryd.func32 #[.agg #[.int .i64 a0_0, .int .i64 a0_1]] ?_; (with_reducible refine (impl_PrefixOk.calls a0_0 a0_1 true _ A2.out).mono ?_); rintro e w7 ⟨rfl, hb⟩; refine ⟨_, rfl, ?_⟩; replace BK235 := Aside0.mk (bb_ BK235 hb); replace HB := Aside0.mk (bt_ HB hb); (try clear hb); (try clear hb2); (try clear hk); (try clear hi); have hcz8_0 := cz_ BK235 0 (.int .i64 a0_0); have hcz8_1 := cz_ BK235 1 (.int .i64 a0_1); have hfz8_0 := blk_frozen BK235.out 0; have hfz8_1 := blk_frozen BK235.out 1) | ((with_reducible refine gate_callee (f := 33) rfl ?_); refine gl_ (some 7) Tryd.func33 #[.agg #[.int .i64 a0_0, .int .i64 a0_1]] ?_; (with_reducible refine (impl_Prefix_text.calls a0_0 a0_1 t237 _ (tb_ hT HB) A4.out).mono ?_); rintro e w9 ⟨rfl, hb⟩; refine ⟨_, rfl, ?_⟩; replace BK235 := Aside0.mk (bb_ BK235 hb); replace HB := Aside0.mk (bt_ HB hb); (try clear hb); (try clear hb2); (try clear hk); (try clear hi)))
  go_ret
  exact ⟨by first | rfl | (simp [errW_none, errW_some] <;> rfl) | (simp [*, errW_none, errW_some] <;> rfl), by repeat (first | (with_reducible first | exact HB.out | apply below_alloc | apply pw_below_drewN | apply below_drew1 | refine below_set ?_ GE235.out) | exact HB.out)⟩
 ·replace c3 := Bool.eq_false_iff.mpr c3
  subst c3
  rw [if_neg (show ¬ (false = true) by decide)] at H
  obtain rfl := Option.some.inj H
  go_enter Tryd.func11, Tryd.ntmps11
  go_wp2_with (first | ((with_reducible refine gate_dst (N := 1) rfl ?_); refine box_event ?hg (N := 1) ?hd (cs := #[.int .i64 a0_0, .int .i64 a0_1]) (t := 25) ?hr ?_; (case hd => rfl); (case hg => rfl); (case hr => first | (go_simp; done) | (go_simp; rfl)); intro gb235 hg w10 hbox hb; have BK235 := Aside0.mk hbox; have GW235 := ge_ HB hg; have GE235 := ge_ HB hg; replace HB := Aside0.mk (bt_ HB hb); clear hb hbox hg; have hcz11_0 := cz_ BK235 0 (.int .i64 a0_0); have hcz11_1 := cz_ BK235 1 (.int .i64 a0_1); have hfz11_0 := blk_frozen BK235.out 0; have hfz11_1 := blk_frozen BK235.out 1) | ((with_reducible refine gate_callee (f := 32) rfl ?_); refine gl_ (some 4) Tryd.func32 #[.agg #[.int .i64 a0_0, .int .i64 a0_1]] ?_; (with_reducible refine (impl_PrefixOk.calls a0_0 a0_1 false _ A2.out).mono ?_); rintro e w12 ⟨rfl, hb⟩; refine ⟨_, rfl, ?_⟩; replace BK235 := Aside0.mk (bb_ BK235 hb); replace HB := Aside0.mk (bt_ HB hb); (try clear hb); (try clear hb2); (try clear hk); (try clear hi)))
  go_ret
  exact ⟨by first | rfl | (simp [errW_none, errW_some] <;> rfl) | (simp [*, errW_none, errW_some] <;> rfl), by repeat (first | (with_reducible first | exact HB.out | apply below_alloc | apply pw_below_drewN | apply below_drew1 | refine below_set ?_ GE235.out) | exact HB.out)⟩

/-! ### impl_Prefix_halves: function 34 -/
def impl_Prefix_halves.f (a0_0 : Int) (a0_1 : Int) : Option (Int × Int × Int × Int) := (impl_Prefix_size.f a0_0 a0_1).bind fun t241 => (some (a0_0, wrap64 (a0_1 + 1), wrap64 (a0_0 + (wrap64 (Int.tdiv t241 2))), wrap64 (a0_1 + 1)))
def impl_Prefix_halves.T1 : Bool × List (List Nat × List Nat) := (true, [([], []), ([0], [0]), ([], []), ([2], [2]), ([3], [3]), ([1, 4], [1, 4]), ([], []), ([6], [6]), ([], []), ([8], [8]), ([9], [9]), ([7, 10], [7, 10]), ([], []), ([12], [12]), ([13], [13]), ([11, 14], [11, 14]), ([5, 9, 0, 1, 2, 3, 4, 5], [5]), ([15, 16, 0, 1, 2, 3, 4, 5, 6, 7, 8, 9, 10, 11, 12, 13, 14, 15, 16], [15])])
def impl_Prefix_halves.B1 : List Nat := [0, 1, 0, 4, 12, 31, 0, 64, 0, 256, 768, 1984, 0, 4096, 12288, 32704, 831, 131071]
theorem impl_Prefix_halves.tab1 : rtab .any (opsOf Tryd.f34 1) = impl_Prefix_halves.T1 := by kernel_rfl
theorem impl_Prefix_halves.bits1 : waitsOk impl_Prefix_halves.T1.2 impl_Prefix_halves.B1 = true := by kernel_rfl
set_option maxHeartbeats 8000000 in
set_option maxRecDepth 100000 in
theorem impl_Prefix_halves.calls (a0_0 : Int) (a0_1 : Int) (r1 : Int) (r2 : Int) (r3 : Int) (r4 : Int) (w : World) (h : impl_Prefix_halves.f a0_0 a0_1 = some (r1, r2, r3, r4)) :
  Calls Tryd.prog 34 #[.agg #[.int .i64 a0_0, .int .i64 a0_1]] w fun e w' => e = .returned (.tuple #[.agg #[.int .i64 r1, .int .i64 r2], .agg #[.int .i64 r3, .int .i64 r4]]) ∧ Below w.heap.size w w' := by
 have hu25 := Tryd.underlying25
 have HB := Aside0.mk (Below.refl w.heap.size w)
 have H : ((impl_Prefix_size.f a0_0 a0_1).bind fun t241 => (some (a0_0, wrap64 (a0_1 + 1), wrap64 (a0_0 + (wrap64 (Int.tdiv t241 2))), wrap64 (a0_1 + 1)))) = some (r1, r2, r3, r4) := h
 clear h
 replace H := Option.bind_eq_some_iff.mp H
 obtain ⟨t241, A20, H⟩ := H
 have A2 := Aside0.mk A20
 clear A20
 simp only [Option.some.injEq, Prod.mk.injEq] at H
 obtain ⟨rfl, rfl, rfl, rfl⟩ := H
 go_enter Tryd.func34, Tryd.ntmps34
 try go_wp2_with (first | ((with_reducible refine gate_dst (N := 1) rfl ?_); refine box_event ?hg (N := 1) ?hd (cs := #[.int .i64 a0_0, .int .i64 a0_1]) (t := 25) ?hr ?_; (case hd => rfl); (case hg => rfl); (case hr => first | (go_simp; done) | (go_simp; rfl)); intro gb238 hg w3 hbox hb; have BK238 := Aside0.mk hbox; have GW238 := ge_ HB hg; have GE238 := ge_ HB hg; replace HB := Aside0.mk (bt_ HB hb); clear hb hbox hg) | ((with_reducible refine gate_dst (N := 2) rfl ?_); refine box_event ?hg (N := 2) ?hd (cs := #[.int .i64 0, .int .i64 0]) (t := 25) ?hr ?_; (case hd => rfl); (case hg => rfl); (case hr => first | (go_simp; done) | (go_simp; rfl)); intro gb239 hg w4 hbox hb; have BK239 := Aside0.mk hbox; have GW239 := ge_ HB hg; have GE239 := ge_ HB hg; have NB238_239 := nl_ BK238 hg; have NB239_238 := ng_ BK238 hg; replace HB := Aside0.mk (bt_ HB hb); replace BK238 := Aside0.mk (bb_ BK238 hb); clear hb hbox hg) | ((with_reducible refine gate_dst (N := 3) rfl ?_); refine box_event ?hg (N := 3) ?hd (cs := #[.int .i64 0, .int .i64 0]) (t := 25) ?hr ?_; (case hd => rfl); (case hg => rfl); (case hr => first | (go_simp; done) | (go_simp; rfl)); intro gb240 hg w5 hbox hb; have BK240 := Aside0.mk hbox; have GW240 := ge_ HB hg; have GE240 := ge_ HB hg; have NB238_240 := nl_ BK238 hg; have NB240_238 := ng_ BK238 hg; have NB239_240 := nl_ BK239 hg; have NB240_239 := ng_ BK239 hg; replace HB := Aside0.mk (bt_ HB hb); replace BK238 := Aside0.mk (bb_ BK238 hb); replace BK239 := Aside0.mk (bb_ BK239 hb); clear hb hbox hg))
 replace BK238 := Aside0.mk (blk_drew BK238.out)
 replace BK239 := Aside0.mk (blk_drew BK239.out)
 replace BK240 := Aside0.mk (blk_drew BK240.out)
 replace HB := Aside0.mk (below_drew1 HB.out)
 refine start_ (n := 18) (S := fun w' => w'.cell? ⟨gb238, 0, none⟩ = some (.int .i64 a0_0) ∧ w'.cell? ⟨gb238, 1, none⟩ = some (.int .i64 a0_1)) (ds := []) ba8_0 (by kernel_rfl) rfl rfl ⟨(blk_cell BK238.out 0).trans rfl, (blk_cell BK238.out 1).trans rfl⟩ (fun hHeld => ?_); refine with_tabW impl_Prefix_halves.tab1 impl_Prefix_halves.bits1 (fun HT_ HW_ => ?_)
 generalize w5.drew = w6 at BK238 BK239 BK240 HB hHeld ⊢
 refine pz_ 0 4 ba8_1 HT_ ?_
 refine pz_ 2 6 ba8_2 HT_ ?_
 refine pz_ 6 10 ba8_3 HT_ ?_
 refine pz_ 12 16 ba8_4 HT_ ?_
 refine pt_ 1 5 ba8_5 HT_ HW_ hHeld ?_
 refine pt_ 3 7 ba8_6 HT_ HW_ hHeld ?_
 refine pz_ 4 8 ba8_7 HT_ ?_
 refine pz_ 5 9 ba8_8 HT_ ?_
 refine pt_ 7 11 ba8_9 HT_ HW_ hHeld ?_
 refine pt_ 8 12 ba8_10 HT_ HW_ hHeld ?_
 refine pt_ 13 17 ba8_11 HT_ HW_ hHeld ?_
 refine pz_ 14 18 ba8_12 HT_ ?_
 refine one_ (i := 9) (N := some 13) ba8_13 rfl rfl (one_of HT_.out (by kernel_rfl)) (by decide) (fun K hK => ?_)
 refine gz_ Tryd.func35 #[.agg #[.int .i64 a0_0, .int .i64 a0_1]] ?_
 with_reducible refine (impl_Prefix_size.calls a0_0 a0_1 t241 _ A2.out).mono ?_
 rintro e w7 ⟨rfl, hb⟩
 refine ⟨_, rfl, ?_⟩
 replace BK238 := Aside0.mk (bb_ BK238 hb)
 replace BK239 := Aside0.mk (bb_ BK239 hb)
 replace BK240 := Aside0.mk (bb_ BK240 hb)
 replace HB := Aside0.mk (bt_ HB hb)
 (try clear hb)
 (try clear hb2)
 (try clear hk)
 (try clear hi)
 refine hK.out _ _ ⟨(blk_cell BK238.out 0).trans rfl, (blk_cell BK238.out 1).trans rfl⟩ (fun hHeld => ?_)
 clear hK K
 refine nz_ 13 ?_
 refine pz_ 10 14 ba8_14 HT_ ?_
 refine pz_ 11 15 ba8_15 HT_ ?_
 refine pz_ 15 19 ba8_16 HT_ ?_
 refine one_ (i := 16) (N := none) ba8_17 rfl rfl (one_of HT_.out (by kernel_rfl)) (by decide) (fun K hK => ?_)
 have hs8 : w7.cell? ⟨gb239, 0, none⟩ = some (.int .i64 0) := (blk_cell BK239.out 0).trans rfl
 have hfs8 := blk_frozen BK239.out 0
 have hns8_0 := NB238_239.out
 have hns8_2 := NB240_239.out
 have hms8_0 := NB239_238.out
 have hms8_2 := NB239_240.out
 have hs9 : w7.cell? ⟨gb239, 1, none⟩ = some (.int .i64 0) := (blk_cell BK239.out 1).trans rfl
 have hfs9 := blk_frozen BK239.out 1
 have hns9_0 := NB238_239.out
 have hns9_2 := NB240_239.out
 have hms9_0 := NB239_238.out
 have hms9_2 := NB239_240.out
 refine skip_ (w1 := ?_) (by rfl) rfl ?_ ?_
 rotate_left; · go_simp; rfl
 refine hK.out _ _ ⟨((cell_far (p := ⟨gb239, _, none⟩) NB238_239.out _).trans (((cell_far (p := ⟨gb239, _, none⟩) NB238_239.out _).trans (hHeld.1)))), ((cell_far (p := ⟨gb239, _, none⟩) NB238_239.out _).trans (((cell_far (p := ⟨gb239, _, none⟩) NB238_239.out _).trans (hHeld.2))))⟩ (fun hHeld => ?_)
 clear hK K
 refine one_ (i := 17) (N := none) ba8_18 rfl rfl (one_of HT_.out (by kernel_rfl)) (by decide) (fun K hK => ?_)
 have hs10 : w7.cell? ⟨gb240, 0, none⟩ = some (.int .i64 0) := (blk_cell BK240.out 0).trans rfl
 have hfs10 := blk_frozen BK240.out 0
 have hns10_0 := NB238_240.out
 have hns10_1 := NB239_240.out
 have hms10_0 := NB240_238.out
 have hms10_1 := NB240_239.out
 have hs11 : w7.cell? ⟨gb240, 1, none⟩ = some (.int .i64 0) := (blk_cell BK240.out 1).trans rfl
 have hfs11 := blk_frozen BK240.out 1
 have hns11_0 := NB238_240.out
 have hns11_1 := NB239_240.out
 have hms11_0 := NB240_238.out
 have hms11_1 := NB240_239.out
 refine skip_ (w1 := ?_) (by rfl) rfl ?_ ?_
 rotate_left; · go_simp; rfl
 refine hK.out _ _ ⟨((cell_far (p := ⟨gb240, _, none⟩) NB238_240.out _).trans (((cell_far (p := ⟨gb240, _, none⟩) NB238_240.out _).trans (hHeld.1)))), ((cell_far (p := ⟨gb240, _, none⟩) NB238_240.out _).trans (((cell_far (p := ⟨gb240, _, none⟩) NB238_240.out _).trans (hHeld.2))))⟩ (fun hHeld => ?_)
 clear hK K
 refine done_ (done_of HT_.out (by kernel_rfl)) ?_
 try go_wp2
 refine bodyPost_ret (results_cc rfl _ _ gb239 gb240 25 25 #[.int .i64 a0_0, .int .i64 (wrap64 (a0_1 + 1))] #[.int .i64 (wrap64 (a0_0 + (wrap64 (Int.tdiv t241 2)))), .int .i64 (wrap64 (a0_1 + 1))] (0, 0) (0, 0) _ _ rfl (by (with_reducible repeat (first | refine blk_drewN ?_ _ | refine blk_drew ?_ | refine blk_alloc ?_ _)); refine blk_far ?_ NB239_240.out _; (with_reducible repeat (first | refine blk_drewN ?_ _ | refine blk_drew ?_ | refine blk_alloc ?_ _)); refine blk_far ?_ NB239_240.out _; (with_reducible repeat (first | refine blk_drewN ?_ _ | refine blk_drew ?_ | refine blk_alloc ?_ _)); refine blk_put (cs := #[.int .i64 a0_0, .int .i64 0]) ?_ 1 _ rfl; (with_reducible repeat (first | refine blk_drewN ?_ _ | refine blk_drew ?_ | refine blk_alloc ?_ _)); refine blk_put (cs := #[.int .i64 0, .int .i64 0]) ?_ 0 _ rfl; (with_reducible repeat (first | refine blk_drewN ?_ _ | refine blk_drew ?_ | refine blk_alloc ?_ _)); exact BK239.out) Tryd.underlying25 rfl (by kernel_rfl) rfl (by (with_reducible repeat (first | refine blk_drewN ?_ _ | refine blk_drew ?_ | refine blk_alloc ?_ _)); refine blk_put (cs := #[.int .i64 (wrap64 (a0_0 + (wrap64 (Int.tdiv t241 2)))), .int .i64 0]) ?_ 1 _ rfl; (with_reducible repeat (first | refine blk_drewN ?_ _ | refine blk_drew ?_ | refine blk_alloc ?_ _)); refine blk_put (cs := #[.int .i64 0, .int .i64 0]) ?_ 0 _ rfl; (with_reducible repeat (first | refine blk_drewN ?_ _ | refine blk_drew ?_ | refine blk_alloc ?_ _)); refine blk_far ?_ NB240_239.out _; (with_reducible repeat (first | refine blk_drewN ?_ _ | refine blk_drew ?_ | refine blk_alloc ?_ _)); refine blk_far ?_ NB240_239.out _; (with_reducible repeat (first | refine blk_drewN ?_ _ | refine blk_drew ?_ | refine blk_alloc ?_ _)); exact BK240.out) Tryd.underlying25 rfl (by kernel_rfl)) rfl ?_
 exact ⟨by first | rfl | (simp [errW_none, errW_some] <;> rfl) | (simp [*, errW_none, errW_some] <;> rfl), by repeat (first | (with_reducible first | exact HB.out | apply below_alloc | apply pw_below_drewN | apply below_drew1 | refine below_set ?_ GE238.out | refine below_set ?_ GE239.out | refine below_set ?_ GE240.out) | exact HB.out)⟩

/-! ### impl_Halves: function 12 -/
def impl_Halves.f (a0_0 : Int) (a0_1 : Int) : Option (Int × Int × Int × Int × Bool) := (impl_PrefixOk.f a0_0 a0_1).bind fun t245 => (if t245 = true then (if a0_1 = 16 then (some (0, 0, 0, 0, false)) else ((impl_Prefix_halves.f a0_0 a0_1).bind fun bt246 => (some (bt246.1, bt246.2.1, bt246.2.2.1, bt246.2.2.2, true)))) else (some (0, 0, 0, 0, false)))
set_option maxHeartbeats 8000000 in
set_option maxRecDepth 100000 in
theorem impl_Halves.calls (a0_0 : Int) (a0_1 : Int) (r1 : Int) (r2 : Int) (r3 : Int) (r4 : Int) (r5 : Bool) (w : World) (h : impl_Halves.f a0_0 a0_1 = some (r1, r2, r3, r4, r5)) :
  Calls Tryd.prog 12 #[.agg #[.int .i64 a0_0, .int .i64 a0_1]] w fun e w' => e = .returned (.tuple #[.agg #[.int .i64 r1, .int .i64 r2], .agg #[.int .i64 r3, .int .i64 r4], .bool r5]) ∧ Below w.heap.size w w' := by
 have hu25 := Tryd.underlying25
 have HB := Aside0.mk (Below.refl w.heap.size w)
 have H : ((impl_PrefixOk.f a0_0 a0_1).bind fun t245 => (if t245 = true then (if a0_1 = 16 then (some (0, 0, 0, 0, false)) else ((impl_Prefix_halves.f a0_0 a0_1).bind fun bt246 => (some (bt246.1, bt246.2.1, bt246.2.2.1, bt246.2.2.2, true)))) else (some (0, 0, 0, 0, false)))) = some (r1, r2, r3, r4, r5) := h
 clear h
 replace H := Option.bind_eq_some_iff.mp H
 obtain ⟨t245, A20, H⟩ := H
 have A2 := Aside0.mk A20
 clear A20
 by_cases c3 : t245 = true
 ·subst c3
  rw [if_pos rfl] at H
  by_cases c4 : a0_1 = 16
  ·rw [if_pos c4] at H
   have c4b0 : (a0_1 == 16) = true := beq_iff_eq.mpr c4
   have c4b1 : (a0_1 != 16) = false := bne_eq_false_iff_eq.mpr c4
   clear c4
   simp only [Option.some.injEq, Prod.mk.injEq] at H
   obtain ⟨rfl, rfl, rfl, rfl, rfl⟩ := H
   go_enter Tryd.func12, Tryd.ntmps12
   go_wp2_with (first | ((with_reducible refine gate_dst (N := 1) rfl ?_); refine box_event ?hg (N := 1) ?hd (cs := #[.int .i64 a0_0, .int .i64 a0_1]) (t := 25) ?hr ?_; (case hd => rfl); (case hg => rfl); (case hr => first | (go_simp; done) | (go_simp; rfl)); intro gb242 hg w5 hbox hb; have BK242 := Aside0.mk hbox; have GW242 := ge_ HB hg; have GE242 := ge_ HB hg; replace HB := Aside0.mk (bt_ HB hb); clear hb hbox hg) | ((with_reducible refine gate_dst (N := 2) rfl ?_); refine box_event ?hg (N := 2) ?hd (cs := #[.int .i64 0, .int .i64 0]) (t := 25) ?hr ?_; (case hd => rfl); (case hg => rfl); (case hr => first | (go_simp; done) | (go_simp; rfl)); intro gb243 hg w6 hbox hb; have BK243 := Aside0.mk hbox; have GW243 := ge_ HB hg; have GE243 := ge_ HB hg; have NB242_243 := nl_ BK242 hg; have NB243_242 := ng_ BK242 hg; replace HB := Aside0.mk (bt_ HB hb); replace BK242 := Aside0.mk (bb_ BK242 hb); clear hb hbox hg) | ((with_reducible refine gate_dst (N := 3) rfl ?_); refine box_event ?hg (N := 3) ?hd (cs := #[.int .i64 0, .int .i64 0]) (t := 25) ?hr ?_; (case hd => rfl); (case hg => rfl); (case hr => first | (go_simp; done) | (go_simp; rfl)); intro gb244 hg w7 hbox hb; have BK244 := Aside0.mk hbox; have GW244 := ge_ HB hg; have GE244 := ge_ HB hg; have NB242_244 := nl_ BK242 hg; have NB244_242 := ng_ BK242 hg; have NB243_244 := nl_ BK243 hg; have NB244_243 := ng_ BK243 hg; replace HB := Aside0.mk (bt_ HB hb); replace BK242 := Aside0.mk (bb_ BK242 hb); replace BK243 := Aside0.mk (bb_ BK243 hb); clear hb hbox hg; have hnb8 := NB242_243.out; have hnc8 := NB243_242.out; have hnb9 := NB242_244.out; have hnc9 := NB244_242.out; have hcz10_0 := cz_ BK242 0 (.int .i64 a0_0); have hcz10_1 := cz_ BK242 1 (.int .i64 a0_1); have hfz10_0 := blk_frozen BK242.out 0; have hfz10_1 := blk_frozen BK242.out 1) | ((with_reducible refine gate_callee (f := 32) rfl ?_); refine gl_ (some 8) Tryd.func32 #[.agg #[.int .i64 a0_0, .int .i64 a0_1]] ?_; (with_reducible refine (impl_PrefixOk.calls a0_0 a0_1 true _ A2.out).mono ?_); rintro e w11 ⟨rfl, hb⟩; refine ⟨_, rfl, ?_⟩; replace BK242 := Aside0.mk (bb_ BK242 hb); replace BK243 := Aside0.mk (bb_ BK243 hb); replace BK244 := Aside0.mk (bb_ BK244 hb); replace HB := Aside0.mk (bt_ HB hb); (try clear hb); (try clear hb2); (try clear hk); (try clear hi); have hcz12_0 := cz_ BK242 0 (.int .i64 a0_0); have hcz12_1 := cz_ BK242 1 (.int .i64 a0_1); have hfz12_0 := blk_frozen BK242.out 0; have hfz12_1 := blk_frozen BK242.out 1; have hnb13 := NB243_244.out; have hnc13 := NB244_243.out; have hcz14_0 := cz_ BK243 0 (.int .i64 0); have hcz14_1 := cz_ BK243 1 (.int .i64 0); have hfz14_0 := blk_frozen BK243.out 0; have hfz14_1 := blk_frozen BK243.out 1; have hcz15_0 := cz_ BK244 0 (.int .i64 0); have hcz15_1 := cz_ BK244 1 (.int .i64 0); have hfz15_0 := blk_frozen BK244.out 0; have hfz15_1 := blk_frozen BK244.out 1))
   refine bodyPost_ret (results_list (rs := [.cell 2 25, .cell 3 25, .tmp 4]) rfl (by simp) (.cell gb243 25 #[.int .i64 0, .int .i64 0] (0, 0) _ rfl (by (with_reducible repeat (first | refine blk_drewN ?_ _ | refine blk_drew ?_ | refine blk_alloc ?_ _)); refine blk_far ?_ NB243_244.out _; (with_reducible repeat (first | refine blk_drewN ?_ _ | refine blk_drew ?_ | refine blk_alloc ?_ _)); refine blk_far ?_ NB243_244.out _; (with_reducible repeat (first | refine blk_drewN ?_ _ | refine blk_drew ?_ | refine blk_alloc ?_ _)); refine blk_put (cs := #[.int .i64 0, .int .i64 0]) ?_ 1 _ rfl; (with_reducible repeat (first | refine blk_drewN ?_ _ | refine blk_drew ?_ | refine blk_alloc ?_ _)); refine blk_put (cs := #[.int .i64 0, .int .i64 0]) ?_ 0 _ rfl; (with_reducible repeat (first | refine blk_drewN ?_ _ | refine blk_drew ?_ | refine blk_alloc ?_ _)); exact BK243.out) Tryd.underlying25 rfl (by kernel_rfl) (.cell gb244 25 #[.int .i64 0, .int .i64 0] (0, 0) _ rfl (by (with_reducible repeat (first | refine blk_drewN ?_ _ | refine blk_drew ?_ | refine blk_alloc ?_ _)); refine blk_put (cs := #[.int .i64 0, .int .i64 0]) ?_ 1 _ rfl; (with_reducible repeat (first | refine blk_drewN ?_ _ | refine blk_drew ?_ | refine blk_alloc ?_ _)); refine blk_put (cs := #[.int .i64 0, .int .i64 0]) ?_ 0 _ rfl; (with_reducible repeat (first | refine blk_drewN ?_ _ | refine blk_drew ?_ | refine blk_alloc ?_ _)); refine blk_far ?_ NB244_243.out _; (with_reducible repeat (first | refine blk_drewN ?_ _ | refine blk_drew ?_ | refine blk_alloc ?_ _)); refine blk_far ?_ NB244_243.out _; (with_reducible repeat (first | refine blk_drewN ?_ _ | refine blk_drew ?_ | refine blk_alloc ?_ _)); exact BK244.out) Tryd.underlying25 rfl (by kernel_rfl) (.tmp .nil)))) rfl ?_
   exact ⟨by first | rfl | (simp [errW_none, errW_some] <;> rfl) | (simp [*, errW_none, errW_some] <;> rfl), by repeat (first | (with_reducible first | exact HB.out | apply below_alloc | apply pw_below_drewN | apply below_drew1 | refine below_set ?_ GE242.out | refine below_set ?_ GE243.out | refine below_set ?_ GE244.out) | exact HB.out)⟩
  ·rw [if_neg c4] at H
   have c4b0 : (a0_1 == 16) = false := beq_eq_false_iff_ne.mpr c4
   have c4b1 : (a0_1 != 16) = true := bne_iff_ne.mpr c4
   replace H := Option.bind_eq_some_iff.mp H
   obtain ⟨⟨t246, t247, t248, t249⟩, A160, H⟩ := H
   have A16 := Aside0.mk A160
   clear A160
   simp only [Option.some.injEq, Prod.mk.injEq] at H
   obtain ⟨rfl, rfl, rfl, rfl, rfl⟩ := H
   go_enter Tryd.func12, Tryd.ntmps12
   try go_wp2_with (first | ((with_reducible refine gate_dst (N := 1) rfl ?_); refine box_event ?hg (N := 1) ?hd (cs := #[.int .i64 a0_0, .int .i64 a0_1]) (t := 25) ?hr ?_; (case hd => rfl); (case hg => rfl); (case hr => first | (go_simp; done) | (go_simp; rfl)); intro gb242 hg w17 hbox hb; have BK242 := Aside0.mk hbox; have GW242 := ge_ HB hg; have GE242 := ge_ HB hg; replace HB := Aside0.mk (bt_ HB hb); clear hb hbox hg) | ((with_reducible refine gate_dst (N := 2) rfl ?_); refine box_event ?hg (N := 2) ?hd (cs := #[.int .i64 0, .int .i64 0]) (t := 25) ?hr ?_; (case hd => rfl); (case hg => rfl); (case hr => first | (go_simp; done) | (go_simp; rfl)); intro gb243 hg w18 hbox hb; have BK243 := Aside0.mk hbox; have GW243 := ge_ HB hg; have GE243 := ge_ HB hg; have NB242_243 := nl_ BK242 hg; have NB243_242 := ng_ BK242 hg; replace HB := Aside0.mk (bt_ HB hb); replace BK242 := Aside0.mk (bb_ BK242 hb); clear hb hbox hg) | ((with_reducible refine gate_dst (N := 3) rfl ?_); refine box_event ?hg (N := 3) ?hd (cs := #[.int .i64 0, .int .i64 0]) (t := 25) ?hr ?_; (case hd => rfl); (case hg => rfl); (case hr => first | (go_simp; done) | (go_simp; rfl)); intro gb244 hg w19 hbox hb; have BK244 := Aside0.mk hbox; have GW244 := ge_ HB hg; have GE244 := ge_ HB hg; have NB242_244 := nl_ BK242 hg; have NB244_242 := ng_ BK242 hg; have NB243_244 := nl_ BK243 hg; have NB244_243 := ng_ BK243 hg; replace HB := Aside0.mk (bt_ HB hb); replace BK242 := Aside0.mk (bb_ BK242 hb); replace BK243 := Aside0.mk (bb_ BK243 hb); clear hb hbox hg; have hnb20 := NB242_243.out; have hnc20 := NB243_242.out; have hnb21 := NB242_244.out; have hnc21 := NB244_242.out; have hcz22_0 := cz_ BK242 0 (.int .i64 a0_0); have hcz22_1 := cz_ BK242 1 (.int .i64 a0_1); have hfz22_0 := blk_frozen BK242.out 0; have hfz22_1 := blk_frozen BK242.out 1) | ((with_reducible refine gate_callee (f := 32) rfl ?_); refine gl_ (some 8) Tryd.func32 #[.agg #[.int .i64 a0_0, .int .i64 a0_1]] ?_; (with_reducible refine (impl_PrefixOk.calls a0_0 a0_1 true _ A2.out).mono ?_); rintro e w23 ⟨rfl, hb⟩; refine ⟨_, rfl, ?_⟩; replace BK242 := Aside0.mk (bb_ BK242 hb); replace BK243 := Aside0.mk (bb_ BK243 hb); replace BK244 := Aside0.mk (bb_ BK244 hb); replace HB := Aside0.mk (bt_ HB hb); (try clear hb); (try clear hb2); (try clear hk); (try clear hi); have hcz24_0 := cz_ BK242 0 (.int .i64 a0_0); have hcz24_1 := cz_ BK242 1 (.int .i64 a0_1); have hfz24_0 := blk_frozen BK242.out 0; have hfz24_1 := blk_frozen BK242.out 1) | ((with_reducible refine gate_callee (f := 34) rfl ?_); refine gl_ (some 19) Tryd.func34 #[.agg #[.int .i64 a0_0, .int .i64 a0_1]] ?_; (with_reducible refine (impl_Prefix_halves.calls a0_0 a0_1 t246 t247 t248 t249 _ A16.out).mono ?_); rintro e w25 ⟨rfl, hb⟩; refine ⟨_, rfl, ?_⟩; replace BK242 := Aside0.mk (bb_ BK242 hb); replace BK243 := Aside0.mk (bb_ BK243 hb); replace BK244 := Aside0.mk (bb_ BK244 hb); replace HB := Aside0.mk (bt_ HB hb); (try clear hb); (try clear hb2); (try clear hk); (try clear hi)) | ((with_reducible refine gate_dst (N := 5) rfl ?_); refine box_event ?hg (N := 5) ?hd (cs := #[.int .i64 0, .int .i64 0]) (t := 25) ?hr ?_; (case hd => rfl); (case hg => rfl); (case hr => first | (go_simp; done) | (go_simp; rfl)); intro gb250 hg w26 hbox hb; have BK250 := Aside0.mk hbox; have GW250 := ge_ HB hg; have GE250 := ge_ HB hg; have NB242_250 := nl_ BK242 hg; have NB250_242 := ng_ BK242 hg; have NB243_250 := nl_ BK243 hg; have NB250_243 := ng_ BK243 hg; have NB244_250 := nl_ BK244 hg; have NB250_244 := ng_ BK244 hg; replace HB := Aside0.mk (bt_ HB hb); replace BK242 := Aside0.mk (bb_ BK242 hb); replace BK243 := Aside0.mk (bb_ BK243 hb); replace BK244 := Aside0.mk (bb_ BK244 hb); clear hb hbox hg) | ((with_reducible refine gate_dst (N := 6) rfl ?_); refine box_event ?hg (N := 6) ?hd (cs := #[.int .i64 0, .int .i64 0]) (t := 25) ?hr ?_; (case hd => rfl); (case hg => rfl); (case hr => first | (go_simp; done) | (go_simp; rfl)); intro gb251 hg w27 hbox hb; have BK251 := Aside0.mk hbox; have GW251 := ge_ HB hg; have GE251 := ge_ HB hg; have NB242_251 := nl_ BK242 hg; have NB251_242 := ng_ BK242 hg; have NB243_251 := nl_ BK243 hg; have NB251_243 := ng_ BK243 hg; have NB244_251 := nl_ BK244 hg; have NB251_244 := ng_ BK244 hg; have NB250_251 := nl_ BK250 hg; have NB251_250 := ng_ BK250 hg; replace HB := Aside0.mk (bt_ HB hb); replace BK242 := Aside0.mk (bb_ BK242 hb); replace BK243 := Aside0.mk (bb_ BK243 hb); replace BK244 := Aside0.mk (bb_ BK244 hb); replace BK250 := Aside0.mk (bb_ BK250 hb); clear hb hbox hg; have hnb28 := NB250_242.out; have hnc28 := NB242_250.out; have hnb29 := NB250_243.out; have hnc29 := NB243_250.out; have hnb30 := NB250_244.out; have hnc30 := NB244_250.out; have hnb31 := NB250_251.out; have hnc31 := NB251_250.out; have hcz32_0 := cz_ BK250 0 (.int .i64 0); have hcz32_1 := cz_ BK250 1 (.int .i64 0); have hfz32_0 := blk_frozen BK250.out 0; have hfz32_1 := blk_frozen BK250.out 1; have hnb33 := NB251_242.out; have hnc33 := NB242_251.out; have hnb34 := NB251_243.out; have hnc34 := NB243_251.out; have hnb35 := NB251_244.out; have hnc35 := NB244_251.out; have hcz36_0 := cz_ BK251 0 (.int .i64 0); have hcz36_1 := cz_ BK251 1 (.int .i64 0); have hfz36_0 := blk_frozen BK251.out 0; have hfz36_1 := blk_frozen BK251.out 1))
   have n0_ : Aside0 (((((w27.setCell ⟨gb250, 0, none⟩ (.int .i64 t246)).setCell ⟨gb250, 1, none⟩ (.int .i64 t247)).setCell ⟨gb251, 0, none⟩ (.int .i64 t248)).setCell ⟨gb251, 1, none⟩ (.int .i64 t249)).heap[gb242]? = some (.cells #[.int .i64 a0_0, .int .i64 a0_1] 25 (0, 0))) := ⟨by (with_reducible repeat (first | refine blk_drewN ?_ _ | refine blk_drew ?_ | refine blk_alloc ?_ _)); refine blk_far ?_ NB242_251.out _; (with_reducible repeat (first | refine blk_drewN ?_ _ | refine blk_drew ?_ | refine blk_alloc ?_ _)); refine blk_far ?_ NB242_251.out _; (with_reducible repeat (first | refine blk_drewN ?_ _ | refine blk_drew ?_ | refine blk_alloc ?_ _)); refine blk_far ?_ NB242_250.out _; (with_reducible repeat (first | refine blk_drewN ?_ _ | refine blk_drew ?_ | refine blk_alloc ?_ _)); refine blk_far ?_ NB242_250.out _; (with_reducible repeat (first | refine blk_drewN ?_ _ | refine blk_drew ?_ | refine blk_alloc ?_ _)); exact BK242.out⟩
   have n1_ : Aside0 (((((w27.setCell ⟨gb250, 0, none⟩ (.int .i64 t246)).setCell ⟨gb250, 1, none⟩ (.int .i64 t247)).setCell ⟨gb251, 0, none⟩ (.int .i64 t248)).setCell ⟨gb251, 1, none⟩ (.int .i64 t249)).heap[gb243]? = some (.cells #[.int .i64 0, .int .i64 0] 25 (0, 0))) := ⟨by (with_reducible repeat (first | refine blk_drewN ?_ _ | refine blk_drew ?_ | refine blk_alloc ?_ _)); refine blk_far ?_ NB243_251.out _; (with_reducible repeat (first | refine blk_drewN ?_ _ | refine blk_drew ?_ | refine blk_alloc ?_ _)); refine blk_far ?_ NB243_251.out _; (with_reducible repeat (first | refine blk_drewN ?_ _ | refine blk_drew ?_ | refine blk_alloc ?_ _)); refine blk_far ?_ NB243_250.out _; (with_reducible repeat (first | refine blk_drewN ?_ _ | refine blk_drew ?_ | refine blk_alloc ?_ _)); refine blk_far ?_ NB243_250.out _; (with_reducible repeat (first | refine blk_drewN ?_ _ | refine blk_drew ?_ | refine blk_alloc ?_ _)); exact BK243.out⟩
   have n2_ : Aside0 (((((w27.setCell ⟨gb250, 0, none⟩ (.int .i64 t246)).setCell ⟨gb250, 1, none⟩ (.int .i64 t247)).setCell ⟨gb251, 0, none⟩ (.int .i64 t248)).setCell ⟨gb251, 1, none⟩ (.int .i64 t249)).heap[gb244]? = some (.cells #[.int .i64 0, .int .i64 0] 25 (0, 0))) := ⟨by (with_reducible repeat (first | refine blk_drewN ?_ _ | refine blk_drew ?_ | refine blk_alloc ?_ _)); refine blk_far ?_ NB244_251.out _; (with_reducible repeat (first | refine blk_drewN ?_ _ | refine blk_drew ?_ | refine blk_alloc ?_ _)); refine blk_far ?_ NB244_251.out _; (with_reducible repeat (first | refine blk_drewN ?_ _ | refine blk_drew ?_ | refine blk_alloc ?_ _)); refine blk_far ?_ NB244_250.out _; (with_reducible repeat (first | refine blk_drewN ?_ _ | refine blk_drew ?_ | refine blk_alloc ?_ _)); refine blk_far ?_ NB244_250.out _; (with_reducible repeat (first | refine blk_drewN ?_ _ | refine blk_drew ?_ | refine blk_alloc ?_ _)); exact BK244.out⟩
   have n3_ : Aside0 (((((w27.setCell ⟨gb250, 0, none⟩ (.int .i64 t246)).setCell ⟨gb250, 1, none⟩ (.int .i64 t247)).setCell ⟨gb251, 0, none⟩ (.int .i64 t248)).setCell ⟨gb251, 1, none⟩ (.int .i64 t249)).heap[gb250]? = some (.cells #[.int .i64 t246, .int .i64 t247] 25 (0, 0))) := ⟨by (with_reducible repeat (first | refine blk_drewN ?_ _ | refine blk_drew ?_ | refine blk_alloc ?_ _)); refine blk_far ?_ NB250_251.out _; (with_reducible repeat (first | refine blk_drewN ?_ _ | refine blk_drew ?_ | refine blk_alloc ?_ _)); refine blk_far ?_ NB250_251.out _; (with_reducible repeat (first | refine blk_drewN ?_ _ | refine blk_drew ?_ | refine blk_alloc ?_ _)); refine blk_put (cs := #[.int .i64 t246, .int .i64 0]) ?_ 1 _ rfl; (with_reducible repeat (first | refine blk_drewN ?_ _ | refine blk_drew ?_ | refine blk_alloc ?_ _)); refine blk_put (cs := #[.int .i64 0, .int .i64 0]) ?_ 0 _ rfl; (with_reducible repeat (first | refine blk_drewN ?_ _ | refine blk_drew ?_ | refine blk_alloc ?_ _)); exact BK250.out⟩
   have n4_ : Aside0 (((((w27.setCell ⟨gb250, 0, none⟩ (.int .i64 t246)).setCell ⟨gb250, 1, none⟩ (.int .i64 t247)).setCell ⟨gb251, 0, none⟩ (.int .i64 t248)).setCell ⟨gb251, 1, none⟩ (.int .i64 t249)).heap[gb251]? = some (.cells #[.int .i64 t248, .int .i64 t249] 25 (0, 0))) := ⟨by (with_reducible repeat (first | refine blk_drewN ?_ _ | refine blk_drew ?_ | refine blk_alloc ?_ _)); refine blk_put (cs := #[.int .i64 t248, .int .i64 0]) ?_ 1 _ rfl; (with_reducible repeat (first | refine blk_drewN ?_ _ | refine blk_drew ?_ | refine blk_alloc ?_ _)); refine blk_put (cs := #[.int .i64 0, .int .i64 0]) ?_ 0 _ rfl; (with_reducible repeat (first | refine blk_drewN ?_ _ | refine blk_drew ?_ | refine blk_alloc ?_ _)); refine blk_far ?_ NB251_250.out _; (with_reducible repeat (first | refine blk_drewN ?_ _ | refine blk_drew ?_ | refine blk_alloc ?_ _)); refine blk_far ?_ NB251_250.out _; (with_reducible repeat (first | refine blk_drewN ?_ _ | refine blk_drew ?_ | refine blk_alloc ?_ _)); exact BK251.out⟩
   have n5_ : Aside0 (Below w.heap.size w ((((w27.setCell ⟨gb250, 0, none⟩ (.int .i64 t246)).setCell ⟨gb250, 1, none⟩ (.int .i64 t247)).setCell ⟨gb251, 0, none⟩ (.int .i64 t248)).setCell ⟨gb251, 1, none⟩ (.int .i64 t249))) := ⟨by repeat (first | (with_reducible first | exact HB.out | apply below_alloc | apply pw_below_drewN | apply below_drew1 | refine below_set ?_ GE242.out | refine below_set ?_ GE243.out | refine below_set ?_ GE244.out | refine below_set ?_ GE250.out | refine below_set ?_ GE251.out) | exact HB.out)⟩
   (try clear BK242)
   (try clear BK243)
   (try clear BK244)
   (try clear BK250)
   (try clear BK251)
   (try clear HB)
   generalize ((((w27.setCell ⟨gb250, 0, none⟩ (.int .i64 t246)).setCell ⟨gb250, 1, none⟩ (.int .i64 t247)).setCell ⟨gb251, 0, none⟩ (.int .i64 t248)).setCell ⟨gb251, 1, none⟩ (.int .i64 t249)) = w37 at n0_ n1_ n2_ n3_ n4_ n5_ ⊢
   have BK242 := n0_
   have BK243 := n1_
   have BK244 := n2_
   have BK250 := n3_
   have BK251 := n4_
   have HB := n5_
   clear n0_ n1_ n2_ n3_ n4_ n5_
   replace BK242 := Aside0.mk (blk_drew BK242.out)
   replace BK243 := Aside0.mk (blk_drew BK243.out)
   replace BK244 := Aside0.mk (blk_drew BK244.out)
   replace BK250 := Aside0.mk (blk_drew BK250.out)
   replace BK251 := Aside0.mk (blk_drew BK251.out)
   replace HB := Aside0.mk (below_drew1 HB.out)
   refine start_ (n := 5) (S := fun w' => w'.cell? ⟨gb250, 0, none⟩ = some (.int .i64 t246) ∧ w'.cell? ⟨gb250, 1, none⟩ = some (.int .i64 t247) ∧ w'.cell? ⟨gb251, 0, none⟩ = some (.int .i64 t248) ∧ w'.cell? ⟨gb251, 1, none⟩ = some (.int .i64 t249)) (ds := []) ba8_19 (by kernel_rfl) rfl rfl ⟨(blk_cell BK250.out 0).trans rfl, (blk_cell BK250.out 1).trans rfl, (blk_cell BK251.out 0).trans rfl, (blk_cell BK251.out 1).trans rfl⟩ (fun hHeld => ?_)
   generalize w37.drew = w38 at BK242 BK243 BK244 BK250 BK251 HB hHeld ⊢
   refine take_ (i := 0) (N := some 22) (v := ?_) (a' := ?_) ba8_20 rfl rfl (by kernel_rfl) (fun _ _ _ h => h) (Or.inl ⟨by rfl, ?_⟩) hHeld ?_ ?_
   rotate_left; · rintro w' ⟨s0, s1, s2, s3⟩; go_simp; with_reducible rfl
   rotate_left; · simp only [Act.put, List.setIfInBounds_toArray, List.set_cons_zero, List.set_cons_succ, i64_w, i32_w]; rfl
   refine take_ (i := 1) (N := some 23) (v := ?_) (a' := ?_) ba8_21 rfl rfl (by kernel_rfl) (fun _ _ _ h => h) (Or.inl ⟨by rfl, ?_⟩) hHeld ?_ ?_
   rotate_left; · rintro w' ⟨s0, s1, s2, s3⟩; go_simp; with_reducible rfl
   rotate_left; · simp only [Act.put, List.setIfInBounds_toArray, List.set_cons_zero, List.set_cons_succ, i64_w, i32_w]; rfl
   refine one_ (i := 2) (N := none) ba8_22 rfl rfl (by kernel_rfl) (by decide) (fun K hK => ?_)
   have hs39 : w38.cell? ⟨gb243, 0, none⟩ = some (.int .i64 0) := (blk_cell BK243.out 0).trans rfl
   have hfs39 := blk_frozen BK243.out 0
   have hns39_0 := NB242_243.out
   have hns39_2 := NB244_243.out
   have hns39_3 := NB250_243.out
   have hns39_4 := NB251_243.out
   have hms39_0 := NB243_242.out
   have hms39_2 := NB243_244.out
   have hms39_3 := NB243_250.out
   have hms39_4 := NB243_251.out
   have hs40 : w38.cell? ⟨gb243, 1, none⟩ = some (.int .i64 0) := (blk_cell BK243.out 1).trans rfl
   have hfs40 := blk_frozen BK243.out 1
   have hns40_0 := NB242_243.out
   have hns40_2 := NB244_243.out
   have hns40_3 := NB250_243.out
   have hns40_4 := NB251_243.out
   have hms40_0 := NB243_242.out
   have hms40_2 := NB243_244.out
   have hms40_3 := NB243_250.out
   have hms40_4 := NB243_251.out
   refine skip_ (w1 := ?_) (by rfl) rfl ?_ ?_
   rotate_left; · go_simp; rfl
   refine hK.out _ _ ⟨((cell_far (p := ⟨gb243, _, none⟩) NB250_243.out _).trans (((cell_far (p := ⟨gb243, _, none⟩) NB250_243.out _).trans (hHeld.1)))), ((cell_far (p := ⟨gb243, _, none⟩) NB250_243.out _).trans (((cell_far (p := ⟨gb243, _, none⟩) NB250_243.out _).trans (hHeld.2.1)))), ((cell_far (p := ⟨gb243, _, none⟩) NB251_243.out _).trans (((cell_far (p := ⟨gb243, _, none⟩) NB251_243.out _).trans (hHeld.2.2.1)))), ((cell_far (p := ⟨gb243, _, none⟩) NB251_243.out _).trans (((cell_far (p := ⟨gb243, _, none⟩) NB251_243.out _).trans (hHeld.2.2.2))))⟩ (fun hHeld => ?_)
   clear hK K
   refine one_ (i := 3) (N := none) ba8_23 rfl rfl (by kernel_rfl) (by decide) (fun K hK => ?_)
   have hs41 : w38.cell? ⟨gb244, 0, none⟩ = some (.int .i64 0) := (blk_cell BK244.out 0).trans rfl
   have hfs41 := blk_frozen BK244.out 0
   have hns41_0 := NB242_244.out
   have hns41_1 := NB243_244.out
   have hns41_3 := NB250_244.out
   have hns41_4 := NB251_244.out
   have hms41_0 := NB244_242.out
   have hms41_1 := NB244_243.out
   have hms41_3 := NB244_250.out
   have hms41_4 := NB244_251.out
   have hs42 : w38.cell? ⟨gb244, 1, none⟩ = some (.int .i64 0) := (blk_cell BK244.out 1).trans rfl
   have hfs42 := blk_frozen BK244.out 1
   have hns42_0 := NB242_244.out
   have hns42_1 := NB243_244.out
   have hns42_3 := NB250_244.out
   have hns42_4 := NB251_244.out
   have hms42_0 := NB244_242.out
   have hms42_1 := NB244_243.out
   have hms42_3 := NB244_250.out
   have hms42_4 := NB244_251.out
   refine skip_ (w1 := ?_) (by rfl) rfl ?_ ?_
   rotate_left; · go_simp; rfl
   refine hK.out _ _ ⟨((cell_far (p := ⟨gb244, _, none⟩) NB250_244.out _).trans (((cell_far (p := ⟨gb244, _, none⟩) NB250_244.out _).trans (hHeld.1)))), ((cell_far (p := ⟨gb244, _, none⟩) NB250_244.out _).trans (((cell_far (p := ⟨gb244, _, none⟩) NB250_244.out _).trans (hHeld.2.1)))), ((cell_far (p := ⟨gb244, _, none⟩) NB251_244.out _).trans (((cell_far (p := ⟨gb244, _, none⟩) NB251_244.out _).trans (hHeld.2.2.1)))), ((cell_far (p := ⟨gb244, _, none⟩) NB251_244.out _).trans (((cell_far (p := ⟨gb244, _, none⟩) NB251_244.out _).trans (hHeld.2.2.2))))⟩ (fun hHeld => ?_)
   clear hK K
   refine pure_ (i := 4) (N := some 4) (v := ?_) (a' := ?_) ba8_24 rfl rfl (by kernel_rfl) (fun _ _ _ h => h) (Or.inl ⟨by rfl, ?_⟩) ?_ ?_
   rotate_left; · intro w'; go_simp; with_reducible rfl
   rotate_left; · simp only [Act.put, List.setIfInBounds_toArray, List.set_cons_zero, List.set_cons_succ, i64_w, i32_w]; rfl
   refine done_ (by kernel_rfl) ?_
   try go_wp2
   refine bodyPost_ret (results_list (rs := [.cell 2 25, .cell 3 25, .tmp 4]) rfl (by simp) (.cell gb243 25 #[.int .i64 t246, .int .i64 t247] (0, 0) _ rfl (by (with_reducible repeat (first | refine blk_drewN ?_ _ | refine blk_drew ?_ | refine blk_alloc ?_ _)); refine blk_far ?_ NB243_244.out _; (with_reducible repeat (first | refine blk_drewN ?_ _ | refine blk_drew ?_ | refine blk_alloc ?_ _)); refine blk_far ?_ NB243_244.out _; (with_reducible repeat (first | refine blk_drewN ?_ _ | refine blk_drew ?_ | refine blk_alloc ?_ _)); refine blk_put (cs := #[.int .i64 t246, .int .i64 0]) ?_ 1 _ rfl; (with_reducible repeat (first | refine blk_drewN ?_ _ | refine blk_drew ?_ | refine blk_alloc ?_ _)); refine blk_put (cs := #[.int .i64 0, .int .i64 0]) ?_ 0 _ rfl; (with_reducible repeat (first | refine blk_drewN ?_ _ | refine blk_drew ?_ | refine blk_alloc ?_ _)); exact BK243.out) Tryd.underlying25 rfl (by kernel_rfl) (.cell gb244 25 #[.int .i64 t248, .int .i64 t249] (0, 0) _ rfl (by (with_reducible repeat (first | refine blk_drewN ?_ _ | refine blk_drew ?_ | refine blk_alloc ?_ _)); refine blk_put (cs := #[.int .i64 t248, .int .i64 0]) ?_ 1 _ rfl; (with_reducible repeat (first | refine blk_drewN ?_ _ | refine blk_drew ?_ | refine blk_alloc ?_ _)); refine blk_put (cs := #[.int .i64 0, .int .i64 0]) ?_ 0 _ rfl; (with_reducible repeat (first | refine blk_drewN ?_ _ | refine blk_drew ?_ | refine blk_alloc ?_ _)); refine blk_far ?_ NB244_243.out _; (with_reducible repeat (first | refine blk_drewN ?_ _ | refine blk_drew ?_ | refine blk_alloc ?_ _)); refine blk_far ?_ NB244_243.out _; (with_reducible repeat (first | refine blk_drewN ?_ _ | refine blk_drew ?_ | refine blk_alloc ?_ _)); exact BK244.out) Tryd.underlying25 rfl (by kernel_rfl) (.tmp .nil)))) rfl ?_
   exact ⟨by first | rfl | (simp [errW_none, errW_some] <;> rfl) | (simp [*, errW_none, errW_some] <;> rfl), by repeat (first | (with_reducible first | exact HB.out | apply below_alloc | apply pw_below_drewN | apply below_drew1 | refine below_set ?_ GE242.out | refine below_set ?_ GE243.out | refine below_set ?_ GE244.out | refine below_set ?_ GE250.out | refine below_set ?_ GE251.out) | exact HB.out)⟩
 ·replace c3 := Bool.eq_false_iff.mpr c3
  subst c3
  rw [if_neg (show ¬ (false = true) by decide)] at H
  simp only [Option.some.injEq, Prod.mk.injEq] at H
  obtain ⟨rfl, rfl, rfl, rfl, rfl⟩ := H
  go_enter Tryd.func12, Tryd.ntmps12
  go_wp2_with (first | ((with_reducible refine gate_dst (N := 1) rfl ?_); refine box_event ?hg (N := 1) ?hd (cs := #[.int .i64 a0_0, .int .i64 a0_1]) (t := 25) ?hr ?_; (case hd => rfl); (case hg => rfl); (case hr => first | (go_simp; done) | (go_simp; rfl)); intro gb242 hg w43 hbox hb; have BK242 := Aside0.mk hbox; have GW242 := ge_ HB hg; have GE242 := ge_ HB hg; replace HB := Aside0.mk (bt_ HB hb); clear hb hbox hg) | ((with_reducible refine gate_dst (N := 2) rfl ?_); refine box_event ?hg (N := 2) ?hd (cs := #[.int .i64 0, .int .i64 0]) (t := 25) ?hr ?_; (case hd => rfl); (case hg => rfl); (case hr => first | (go_simp; done) | (go_simp; rfl)); intro gb243 hg w44 hbox hb; have BK243 := Aside0.mk hbox; have GW243 := ge_ HB hg; have GE243 := ge_ HB hg; have NB242_243 := nl_ BK242 hg; have NB243_242 := ng_ BK242 hg; replace HB := Aside0.mk (bt_ HB hb); replace BK242 := Aside0.mk (bb_ BK242 hb); clear hb hbox hg) | ((with_reducible refine gate_dst (N := 3) rfl ?_); refine box_event ?hg (N := 3) ?hd (cs := #[.int .i64 0, .int .i64 0]) (t := 25) ?hr ?_; (case hd => rfl); (case hg => rfl); (case hr => first | (go_simp; done) | (go_simp; rfl)); intro gb244 hg w45 hbox hb; have BK244 := Aside0.mk hbox; have GW244 := ge_ HB hg; have GE244 := ge_ HB hg; have NB242_244 := nl_ BK242 hg; have NB244_242 := ng_ BK242 hg; have NB243_244 := nl_ BK243 hg; have NB244_243 := ng_ BK243 hg; replace HB := Aside0.mk (bt_ HB hb); replace BK242 := Aside0.mk (bb_ BK242 hb); replace BK243 := Aside0.mk (bb_ BK243 hb); clear hb hbox hg; have hnb46 := NB242_243.out; have hnc46 := NB243_242.out; have hnb47 := NB242_244.out; have hnc47 := NB244_242.out; have hcz48_0 := cz_ BK242 0 (.int .i64 a0_0); have hcz48_1 := cz_ BK242 1 (.int .i64 a0_1); have hfz48_0 := blk_frozen BK242.out 0; have hfz48_1 := blk_frozen BK242.out 1) | ((with_reducible refine gate_callee (f := 32) rfl ?_); refine gl_ (some 8) Tryd.func32 #[.agg #[.int .i64 a0_0, .int .i64 a0_1]] ?_; (with_reducible refine (impl_PrefixOk.calls a0_0 a0_1 false _ A2.out).mono ?_); rintro e w49 ⟨rfl, hb⟩; refine ⟨_, rfl, ?_⟩; replace BK242 := Aside0.mk (bb_ BK242 hb); replace BK243 := Aside0.mk (bb_ BK243 hb); replace BK244 := Aside0.mk (bb_ BK244 hb); replace HB := Aside0.mk (bt_ HB hb); (try clear hb); (try clear hb2); (try clear hk); (try clear hi); have hnb50 := NB243_244.out; have hnc50 := NB244_243.out; have hcz51_0 := cz_ BK243 0 (.int .i64 0); have hcz51_1 := cz_ BK243 1 (.int .i64 0); have hfz51_0 := blk_frozen BK243.out 0; have hfz51_1 := blk_frozen BK243.out 1; have hcz52_0 := cz_ BK244 0 (.int .i64 0); have hcz52_1 := cz_ BK244 1 (.int .i64 0); have hfz52_0 := blk_frozen BK244.out 0; have hfz52_1 := blk_frozen BK244.out 1))
  refine bodyPost_ret (results_list (rs := [.cell 2 25, .cell 3 25, .tmp 4]) rfl (by simp) (.cell gb243 25 #[.int .i64 0, .int .i64 0] (0, 0) _ rfl (by (with_reducible repeat (first | refine blk_drewN ?_ _ | refine blk_drew ?_ | refine blk_alloc ?_ _)); refine blk_far ?_ NB243_244.out _; (with_reducible repeat (first | refine blk_drewN ?_ _ | refine blk_drew ?_ | refine blk_alloc ?_ _)); refine blk_far ?_ NB243_244.out _; (with_reducible repeat (first | refine blk_drewN ?_ _ | refine blk_drew ?_ | refine blk_alloc ?_ _)); refine blk_put (cs := #[.int .i64 0, .int .i64 0]) ?_ 1 _ rfl; (with_reducible repeat (first | refine blk_drewN ?_ _ | refine blk_drew ?_ | refine blk_alloc ?_ _)); refine blk_put (cs := #[.int .i64 0, .int .i64 0]) ?_ 0 _ rfl; (with_reducible repeat (first | refine blk_drewN ?_ _ | refine blk_drew ?_ | refine blk_alloc ?_ _)); exact BK243.out) Tryd.underlying25 rfl (by kernel_rfl) (.cell gb244 25 #[.int .i64 0, .int .i64 0] (0, 0) _ rfl (by (with_reducible repeat (first | refine blk_drewN ?_ _ | refine blk_drew ?_ | refine blk_alloc ?_ _)); refine blk_put (cs := #[.int .i64 0, .int .i64 0]) ?_ 1 _ rfl; (with_reducible repeat (first | refine blk_drewN ?_ _ | refine blk_drew ?_ | refine blk_alloc ?_ _)); refine blk_put (cs := #[.int .i64 0, .int .i64 0]) ?_ 0 _ rfl; (with_reducible repeat (first | refine blk_drewN ?_ _ | refine blk_drew ?_ | refine blk_alloc ?_ _)); refine blk_far ?_ NB244_243.out _; (with_reducible repeat (first | refine blk_drewN ?_ _ | refine blk_drew ?_ | refine blk_alloc ?_ _)); refine blk_far ?_ NB244_243.out _; (with_reducible repeat (first | refine blk_drewN ?_ _ | refine blk_drew ?_ | refine blk_alloc ?_ _)); exact BK244.out) Tryd.underlying25 rfl (by kernel_rfl) (.tmp .nil)))) rfl ?_
  exact ⟨by first | rfl | (simp [errW_none, errW_some] <;> rfl) | (simp [*, errW_none, errW_some] <;> rfl), by repeat (first | (with_reducible first | exact HB.out | apply below_alloc | apply pw_below_drewN | apply below_drew1 | refine below_set ?_ GE242.out | refine below_set ?_ GE243.out | refine below_set ?_ GE244.out) | exact HB.out)⟩

end Go.Proofs.YtmbaemcnjdgemaaDoor.QFnBlocks
