/- Contracts of functions that the law reaches: what each call returns and what it leaves in memory. Made by this session over the print of the kit. -/
import Derived.Test.YtjepmdngbafonaaQFnAggregatex0
import Derived.Test.YtjepmdngbafonaaQFnAggregatex2
namespace Go.Proofs.Ytjepmdngbafonaa.QFnAggregate
open Go.RowKit Go.Proofs.YtjepmdngbafonaaB.PrintWords Go.Proofs.YtjepmdngbafonaaB.PrintLast Go.Proofs.YtjepmdngbafonaaB.PrintMore
attribute [local go_sem] max2_int min2_int max_two min_two max_three min_three max_four min_four   -- for this text's walks alone
set_option linter.unusedVariables false
set_option linter.unusedSimpArgs false
abbrev tb10 : Bool := true
abbrev fb10 : Bool := false
def ba10_0 : Array Bool := #[fb10,fb10,fb10,fb10,fb10,fb10,fb10,fb10,fb10,fb10,fb10]
def ba10_1 : Array Bool := #[tb10,fb10,fb10,fb10,fb10,fb10,fb10,fb10,fb10,fb10,fb10]
def ba10_2 : Array Bool := #[tb10,tb10,fb10,fb10,fb10,fb10,fb10,fb10,fb10,fb10,fb10]
def ba10_3 : Array Bool := #[tb10,tb10,fb10,tb10,fb10,fb10,fb10,fb10,fb10,fb10,fb10]
def ba10_4 : Array Bool := #[tb10,tb10,tb10,tb10,fb10,fb10,fb10,fb10,fb10,fb10,fb10]
def ba10_5 : Array Bool := #[tb10,tb10,tb10,tb10,tb10,fb10,fb10,fb10,fb10,fb10,fb10]
def ba10_6 : Array Bool := #[tb10,tb10,tb10,tb10,tb10,tb10,fb10,fb10,fb10,fb10,fb10]
def ba10_7 : Array Bool := #[tb10,tb10,tb10,tb10,tb10,tb10,tb10,fb10,fb10,fb10,fb10]
def ba10_8 : Array Bool := #[tb10,tb10,tb10,tb10,tb10,tb10,tb10,tb10,fb10,fb10,fb10]
def ba10_9 : Array Bool := #[tb10,tb10,tb10,tb10,tb10,tb10,tb10,tb10,tb10,fb10,fb10]
def ba10_10 : Array Bool := #[tb10,tb10,tb10,tb10,tb10,tb10,tb10,tb10,tb10,tb10,fb10]
def ba10_11 : Array Bool := #[tb10,tb10,tb10,tb10,tb10,tb10,tb10,tb10,tb10,tb10,tb10]
def ba10_12 : Array Bool := #[fb10,fb10,fb10,fb10,fb10,fb10,fb10,fb10,fb10,fb10,fb10,fb10,fb10,fb10,fb10,fb10,fb10,fb10]
def ba10_13 : Array Bool := #[tb10,fb10,fb10,fb10,fb10,fb10,fb10,fb10,fb10,fb10,fb10,fb10,fb10,fb10,fb10,fb10,fb10,fb10]
def ba10_14 : Array Bool := #[tb10,fb10,tb10,fb10,fb10,fb10,fb10,fb10,fb10,fb10,fb10,fb10,fb10,fb10,fb10,fb10,fb10,fb10]
def ba10_15 : Array Bool := #[tb10,fb10,tb10,fb10,fb10,fb10,tb10,fb10,fb10,fb10,fb10,fb10,fb10,fb10,fb10,fb10,fb10,fb10]
def ba10_16 : Array Bool := #[tb10,fb10,tb10,fb10,fb10,fb10,tb10,fb10,fb10,fb10,fb10,fb10,tb10,fb10,fb10,fb10,fb10,fb10]
def ba10_17 : Array Bool := #[tb10,tb10,tb10,fb10,fb10,fb10,tb10,fb10,fb10,fb10,fb10,fb10,tb10,fb10,fb10,fb10,fb10,fb10]
def ba10_18 : Array Bool := #[tb10,tb10,tb10,tb10,fb10,fb10,tb10,fb10,fb10,fb10,fb10,fb10,tb10,fb10,fb10,fb10,fb10,fb10]
def ba10_19 : Array Bool := #[tb10,tb10,tb10,tb10,tb10,fb10,tb10,fb10,fb10,fb10,fb10,fb10,tb10,fb10,fb10,fb10,fb10,fb10]
def ba10_20 : Array Bool := #[tb10,tb10,tb10,tb10,tb10,tb10,tb10,fb10,fb10,fb10,fb10,fb10,tb10,fb10,fb10,fb10,fb10,fb10]
def ba10_21 : Array Bool := #[tb10,tb10,tb10,tb10,tb10,tb10,tb10,tb10,fb10,fb10,fb10,fb10,tb10,fb10,fb10,fb10,fb10,fb10]
def ba10_22 : Array Bool := #[tb10,tb10,tb10,tb10,tb10,tb10,tb10,tb10,tb10,fb10,fb10,fb10,tb10,fb10,fb10,fb10,fb10,fb10]
def ba10_23 : Array Bool := #[tb10,tb10,tb10,tb10,tb10,tb10,tb10,tb10,tb10,fb10,fb10,fb10,tb10,tb10,fb10,fb10,fb10,fb10]
def ba10_24 : Array Bool := #[tb10,tb10,tb10,tb10,tb10,tb10,tb10,tb10,tb10,fb10,fb10,fb10,tb10,tb10,tb10,fb10,fb10,fb10]
def ba10_25 : Array Bool := #[tb10,tb10,tb10,tb10,tb10,tb10,tb10,tb10,tb10,tb10,fb10,fb10,tb10,tb10,tb10,fb10,fb10,fb10]
def ba10_26 : Array Bool := #[tb10,tb10,tb10,tb10,tb10,tb10,tb10,tb10,tb10,tb10,tb10,fb10,tb10,tb10,tb10,fb10,fb10,fb10]
def ba10_27 : Array Bool := #[tb10,tb10,tb10,tb10,tb10,tb10,tb10,tb10,tb10,tb10,tb10,tb10,tb10,tb10,tb10,fb10,fb10,fb10]
def ba10_28 : Array Bool := #[tb10,tb10,tb10,tb10,tb10,tb10,tb10,tb10,tb10,tb10,tb10,tb10,tb10,tb10,tb10,tb10,fb10,fb10]
def ba10_29 : Array Bool := #[tb10,tb10,tb10,tb10,tb10,tb10,tb10,tb10,tb10,tb10,tb10,tb10,tb10,tb10,tb10,tb10,tb10,fb10]
def ba10_30 : Array Bool := #[tb10,tb10,tb10,tb10,tb10,tb10,tb10,tb10,tb10,tb10,tb10,tb10,tb10,tb10,tb10,tb10,tb10,tb10]

/-! ### slices_SortFunc_impl_Prefix_impl_Prefix: function 76 -/
section
open Go.Shelf Go.Lib Go.Sort
variable {α : Type}
def sf_ren : Go.Shelf.Ren := ⟨fun | 6 => 76 | 15 => 104 | 14 => 103 | 28 => 120 | 29 => 121 | 20 => 112 | 21 => 113 | 22 => 114 | 23 => 115 | 24 => 116 | 25 => 117 | 26 => 118 | 27 => 119 | 46 => 127 | 47 => 128 | 48 => 129 | 49 => 130 | 50 => 131 | 57 => 133 | n => n, fun | 22 => 51 | 24 => 28 | 25 => 98 | 3 => 3 | 39 => 59 | 0 => 0 | 53 => 137 | 55 => 139 | 4 => 4 | 46 => 131 | 45 => 130 | 50 => 76 | 5 => 5 | 9 => 9 | 66 => 147 | 70 => 151 | 76 => 153 | 77 => 63 | n => n, fun | n => n⟩
theorem sf_lay : Go.Proofs.SlLaysF0.n6 Try.prog sf_ren := {
 mixed := by kernel_rfl
 f6 := ⟨Try.f76.name, by decide, Try.func76.trans (congrArg some (by kernel_rfl))⟩
 f14 := ⟨Try.f103.name, by decide, Try.func103.trans (congrArg some (by kernel_rfl))⟩
 f15 := Try.func104.trans (congrArg some (by kernel_rfl))
 f20 := ⟨Try.f112.name, by decide, Try.func112.trans (congrArg some (by kernel_rfl))⟩
 f21 := ⟨Try.f113.name, by decide, Try.func113.trans (congrArg some (by kernel_rfl))⟩
 f22 := ⟨Try.f114.name, by decide, Try.func114.trans (congrArg some (by kernel_rfl))⟩
 f23 := ⟨Try.f115.name, by decide, Try.func115.trans (congrArg some (by kernel_rfl))⟩
 f24 := ⟨Try.f116.name, by decide, Try.func116.trans (congrArg some (by kernel_rfl))⟩
 f25 := ⟨Try.f117.name, by decide, Try.func117.trans (congrArg some (by kernel_rfl))⟩
 f26 := ⟨Try.f118.name, by decide, Try.func118.trans (congrArg some (by kernel_rfl))⟩
 f27 := ⟨Try.f119.name, by decide, Try.func119.trans (congrArg some (by kernel_rfl))⟩
 f28 := Try.func120.trans (congrArg some (by kernel_rfl))
 f29 := Try.func121.trans (congrArg some (by kernel_rfl))
 f46 := ⟨Try.f127.name, by decide, Try.func127.trans (congrArg some (by kernel_rfl))⟩
 f47 := Try.func128.trans (congrArg some (by kernel_rfl))
 f48 := Try.func129.trans (congrArg some (by kernel_rfl))
 f49 := ⟨Try.f130.name, by decide, Try.func130.trans (congrArg some (by kernel_rfl))⟩
 f50 := ⟨Try.f131.name, by decide, Try.func131.trans (congrArg some (by kernel_rfl))⟩
 f57 := ⟨Try.f133.name, by decide, Try.func133.trans (congrArg some (by kernel_rfl))⟩
 t0 := Try.underlying0
 a0 := Try.isAgg0
 z0 := Try.sizeOf0
 v0 := Try.zeroValue0
 t3 := Try.underlying3
 a3 := Try.isAgg3
 z3 := Try.sizeOf3
 v3 := Try.zeroValue3
 t4 := Try.underlying4
 a4 := Try.isAgg4
 z4 := Try.sizeOf4
 v4 := Try.zeroValue4
 t5 := Try.underlying5
 a5 := Try.isAgg5
 z5 := Try.sizeOf5
 v5 := Try.zeroValue5
 t9 := Try.underlying9
 a9 := Try.isAgg9
 z9 := Try.sizeOf9
 v9 := Try.zeroValue9
 t22 := Try.underlying51
 a22 := Try.isAgg51
 z22 := Try.sizeOf51
 v22 := Try.zeroValue51
 t25 := Try.underlying98
 a25 := Try.isAgg98
 z25 := Try.sizeOf98
 v25 := Try.zeroValue98
 t39 := Try.underlying59
 a39 := Try.isAgg59
 z39 := Try.sizeOf59
 v39 := Try.zeroValue59
 t45 := Try.underlying130
 a45 := Try.isAgg130
 z45 := Try.sizeOf130
 v45 := Try.zeroValue130
 t46 := Try.underlying131
 a46 := Try.isAgg131
 z46 := Try.sizeOf131
 v46 := Try.zeroValue131
 t50 := Try.underlying76
 a50 := Try.isAgg76
 z50 := Try.sizeOf76
 v50 := Try.zeroValue76
 t53 := Try.underlying137
 a53 := Try.isAgg137
 z53 := Try.sizeOf137
 v53 := Try.zeroValue137
 t55 := Try.underlying139
 a55 := Try.isAgg139
 z55 := Try.sizeOf139
 v55 := Try.zeroValue139
 t66 := Try.underlying147
 a66 := Try.isAgg147
 z66 := Try.sizeOf147
 v66 := Try.zeroValue147
 t70 := Try.underlying151
 a70 := Try.isAgg151
 z70 := Try.sizeOf151
 v70 := Try.zeroValue151
 t76 := Try.underlying153
 a76 := Try.isAgg153
 z76 := Try.sizeOf153
 v76 := Try.zeroValue153
 t77 := Try.underlying63
 a77 := Try.isAgg63
 z77 := Try.sizeOf63
 v77 := Try.zeroValue63 }
def sf_in (p : S28) : Bool := decide (0 ≤ p.f0 ∧ p.f0 ≤ 65535 ∧ 0 ≤ p.f1 ∧ p.f1 ≤ 16)
abbrev SfE := {p : S28 // sf_in p = true}
instance : Inhabited SfE := ⟨⟨⟨0, 0⟩, by decide⟩⟩
def sf_cmp (x y : SfE) : Int := if x.1.f0 = y.1.f0 then wrap64 (x.1.f1 - y.1.f1) else wrap64 (x.1.f0 - y.1.f0)
def sf_lt (x y : S28) : Bool := decide (x.f0 < y.f0 ∨ x.f0 = y.f0 ∧ x.f1 < y.f1)
def sf_enc (x : SfE) : List Value := [.int .i64 x.1.f0, .int .i64 x.1.f1]
def slices_SortFunc_impl_Prefix_impl_Prefix.f (l0 : List S28) : Option (List S28) :=
 if l0.all sf_in = true ∧ l0.length ≤ 1048576 then some (l0.mergeSort fun x y => !sf_lt y x) else none
theorem sf_inn (x : SfE) : 0 ≤ x.1.f0 ∧ x.1.f0 ≤ 65535 ∧ 0 ≤ x.1.f1 ∧ x.1.f1 ≤ 16 := of_decide_eq_true x.2
theorem sf_ltOf (x y : SfE) : ltOf sf_cmp x y = sf_lt x.1 y.1 := by
 obtain ⟨a1, a2, a3, a4⟩ := sf_inn x
 obtain ⟨b1, b2, b3, b4⟩ := sf_inn y
 have w1 : wrap64 (x.1.f1 - y.1.f1) = x.1.f1 - y.1.f1 := by unfold wrap64; omega
 have w2 : wrap64 (x.1.f0 - y.1.f0) = x.1.f0 - y.1.f0 := by unfold wrap64; omega
 unfold ltOf sf_cmp sf_lt
 rw [w1, w2]
 rw [decide_eq_decide]
 split <;> omega
theorem sf_swo : SWO (ltOf sf_cmp) where
 irrefl x := by rw [sf_ltOf]; unfold sf_lt; exact decide_eq_false (by omega)
 trans x y z h1 h2 := by
  rw [sf_ltOf] at *
  unfold sf_lt at *
  rw [decide_eq_true_iff] at *
  omega
 ntrans x y z h1 h2 := by
  rw [sf_ltOf] at *
  unfold sf_lt at *
  rw [decide_eq_false_iff_not] at *
  omega
theorem sf_total (x y : SfE) (h1 : ltOf sf_cmp x y = false) (h2 : ltOf sf_cmp y x = false) : x = y := by
 rw [sf_ltOf] at h1 h2
 unfold sf_lt at h1 h2
 have h1 := of_decide_eq_false h1
 have h2 := of_decide_eq_false h2
 obtain ⟨⟨x0, x1⟩, hx⟩ := x
 obtain ⟨⟨y0, y1⟩, hy⟩ := y
 dsimp only at h1 h2
 obtain rfl : x0 = y0 := by omega
 obtain rfl : x1 = y1 := by omega
 rfl
set_option maxHeartbeats 1000000 in
theorem sf_walk (x y : SfE) (W : World) : Calls Try.prog 77 #[.agg #[.int .i64 x.1.f0, .int .i64 x.1.f1], .agg #[.int .i64 y.1.f0, .int .i64 y.1.f1]] W fun e w' => e = .returned (.int .i64 (sf_cmp x y)) ∧ ∃ q os', w' = grow (W.drewN q) os' := by
 obtain ⟨⟨x0, x1⟩, hx⟩ := x
 obtain ⟨⟨y0, y1⟩, hy⟩ := y
 show Calls Try.prog 77 #[.agg #[.int .i64 x0, .int .i64 x1], .agg #[.int .i64 y0, .int .i64 y1]] W fun e w' => e = .returned (.int .i64 (if x0 = y0 then wrap64 (x1 - y1) else wrap64 (x0 - y0))) ∧ ∃ q os', w' = grow (W.drewN q) os'
 clear hx hy
 by_cases c : x0 = y0
 ·rw [if_pos c]
  subst c
  go_enter Try.func77, Try.ntmps77
  go_wp2
  go_ret
  exact ⟨rfl, 0, _, by rw [alloc_eq_grow, alloc_eq_grow, grow_grow]; rfl⟩
 rw [if_neg c]
 have c3b0 : (x0 == y0) = false := beq_eq_false_iff_ne.mpr c
 have c3b1 : (x0 != y0) = true := bne_iff_ne.mpr c
 go_enter Try.func77, Try.ntmps77
 go_wp2
 go_ret
 exact ⟨rfl, 0, _, by rw [alloc_eq_grow, alloc_eq_grow, grow_grow]; rfl⟩
theorem sf_heap {w : World} {g n : Nat} {os : Array Obj} {cur : Array Value} {e : TypeId} {fr : Nat × Nat} (d : Array Value) (hb : w.heap[g]? = some (.cells cur e fr)) :
  (grow (putRow id (Sort.ahead w n) g 0 d) os).heap[g]? = some (.cells (putCells id 0 d cur) e fr) := by
 have hg : g < w.heap.size := (Array.getElem?_eq_some_iff.1 hb).1
 rw [heap_grow_old _ _ (by simpa using hg)]
 simp [putRow, mapBlock, Sort.ahead, Array.getElem?_modify, hb, onCells]
theorem sf_grown {w : World} {g n : Nat} {os : Array Obj} (d : Array Value) : w.grownBy (grow (putRow id (Sort.ahead w n) g 0 d) os) (some g) := by
 refine ⟨rfl, rfl, rfl, by simp, fun k hk hne => ?_⟩
 rw [heap_grow_old _ _ (by simpa using hk)]
 have : g ≠ k := fun e => hne (by rw [e])
 simp [putRow, mapBlock, Sort.ahead, Array.getElem?_modify, this]
theorem sf_take (cur d : Array Value) (h : d.size ≤ cur.size) : (putCells id 0 d cur).toList.take d.size = d.toList := by
 apply List.ext_getElem?
 intro j
 by_cases hj : j < d.size
 rotate_left
 ·rw [List.getElem?_take_eq_none (by omega), List.getElem?_eq_none (by simp; omega)]
 rw [List.getElem?_take_of_lt hj, Array.getElem?_toList]
 simp [putCells, hj, show j < cur.size by omega]
theorem sf_getL (L : List SfE) (j : Nat) (hj : j < L.length) : L.toArray[j]! = L[j] := by
 rw [getElem!_pos L.toArray j (by simpa using hj)]
 simp
theorem sf_flat (L : List SfE) (t : Nat) (ht : t < L.length * 2) : (flatK sf_enc 2 L.toArray)[t]! = (if t % 2 = 0 then .int .i64 (L[t / 2]'(by omega)).1.f0 else .int .i64 (L[t / 2]'(by omega)).1.f1) := by
 rw [get_flatK _ _ _ _ (by simpa using ht), sf_getL L (t / 2) (by omega)]
 rcases Nat.mod_two_eq_zero_or_one t with h | h
 ·rw [h, if_pos rfl]; rfl
 ·rw [h, if_neg (by decide)]; rfl
theorem sf_inner {w : World} {base : Nat} {ok : Nat → Prop} {L : List SfE} {inner : List Value} (h : Reps (k28.M w base ok) 2 (L.map (·.1)) inner) (t : Nat) (ht : t < L.length * 2) : inner[t]? = some (flatK sf_enc 2 L.toArray)[t]! := by
 have h2 := h.2 (t / 2) (L[t / 2]'(by omega)).1 (by rw [List.getElem?_map, List.getElem?_eq_getElem (by omega)]; rfl)
 have h3 := k28_openM h2
 have h4 : ((inner.drop (t / 2 * 2)).take 2)[t % 2]? = inner[t]? := by
  rw [List.getElem?_take_of_lt (Nat.mod_lt _ (by decide)), List.getElem?_drop]
  congr 1
  omega
 rw [← h4, h3, sf_flat L t ht]
 rcases Nat.mod_two_eq_zero_or_one t with h | h
 ·rw [h]; rfl
 ·rw [h]; rfl
theorem sf_reps (w : World) (base : Nat) (ok : Nat → Prop) (L : List SfE) : Reps (k28.M w base ok) 2 (L.map (·.1)) (flatK sf_enc 2 L.toArray).toList := by
 have hs : (flatK sf_enc 2 L.toArray).toList.length = L.length * 2 := by simp
 refine ⟨by rw [hs, List.length_map], fun j p hp => ?_⟩
 rw [List.getElem?_map] at hp
 have hj : j < L.length := by
  rcases Nat.lt_or_ge j L.length with h | h
  ·exact h
  ·rw [List.getElem?_eq_none h] at hp; cases hp
 rw [List.getElem?_eq_getElem hj] at hp
 have hp := Option.some.inj hp
 have e : ((flatK sf_enc 2 L.toArray).toList.drop (j * 2)).take 2 = [.int .i64 p.f0, .int .i64 p.f1] := by
  apply List.ext_getElem?
  intro q
  by_cases hq : q < 2
  rotate_left
  ·rw [List.getElem?_take_eq_none (by omega), List.getElem?_eq_none (by simp; omega)]
  have hlt : j * 2 + q < (flatK sf_enc 2 L.toArray).size := by simp; omega
  have e1 := sf_flat L (j * 2 + q) (by omega)
  rw [List.getElem?_take_of_lt hq, List.getElem?_drop, Array.getElem?_toList, Array.getElem?_eq_getElem hlt, ← getElem!_pos (flatK sf_enc 2 L.toArray) (j * 2 + q) hlt, e1]
  have e2 : (j * 2 + q) / 2 = j := by omega
  have e3 : (j * 2 + q) % 2 = q := by omega
  rw [e3]
  simp only [e2]
  rw [← hp]
  rcases (show q = 0 ∨ q = 1 by omega) with rfl | rfl <;> rfl
 rw [e]
 exact k28_mkM w base ok p
theorem sf_cells {d : Kd α} {W : World} {base e g n c : Nat} {xs : List α} {ok : Nat → Prop} (HO : d.R e W base ok (.slice (some ⟨g, 0, none⟩) n c) xs) :
  ∃ inner cur, Reps (d.M W base (fun k => ok k ∧ k ≠ g)) d.sz xs inner ∧ W.heap[g]? = some (.cells cur e (0, 0)) ∧ cur.size = c * d.sz ∧ n = xs.length ∧ n ≤ c ∧ c ≤ maxLen ∧ base ≤ g ∧ ok g ∧ ∀ j v, inner[j]? = some v → W.cell? ⟨g, j, none⟩ = some v := by
 obtain ⟨hn, hnc, _⟩ := Kd.R_reads' HO
 obtain ⟨hok, inner, hown, hr⟩ := HO
 rcases hown.2 with ⟨hv, _⟩ | ⟨g', cap', cur, hv, hb, hh, h9, hcm, hcs, htake⟩
 ·cases hv
 injection hv with ha _ hc
 injection ha with ha
 injection ha with hg
 subst hg; subst hc
 rw [← hn] at htake
 refine ⟨inner, cur, hr.imp_ (fun p q hp => d.M_mono (fun k hk => ⟨hk.1, fun e => hk.2 (by simp [Value.ownBlock, e])⟩) hp), hh, hcs, hn, hnc, hcm, hb, hok _ (by simp [Value.ownBlock]), fun j v hj => ?_⟩
 rw [cell_of_row W g j cur e (0, 0) hh, ← Array.getElem?_toList]
 rw [← htake, List.getElem?_take] at hj
 split at hj
 ·exact hj
 ·cases hj
theorem sf_form {d : Kd α} {W : World} {base e : Nat} {v : Value} {xs : List α} {ok : Nat → Prop} (HO : d.R e W base ok v xs) : (v = .slice none 0 0 ∧ xs = []) ∨ ∃ g c, v = .slice (some ⟨g, 0, none⟩) xs.length c ∧ xs.length ≤ c := by
 obtain ⟨hok, inner, hown, hr⟩ := HO
 rcases hown.2 with ⟨hv, h0⟩ | ⟨g', cap', cur, hv, hb, hh, h9, hcm, hcs, htake⟩
 ·exact .inl ⟨hv, List.eq_nil_of_length_eq_zero h0⟩
 ·exact .inr ⟨g', cap', hv, h9⟩
set_option maxHeartbeats 1000000 in
theorem slices_SortFunc_impl_Prefix_impl_Prefix.calls (P0_ : Nat → Prop) (u9000_ : Value) (l0 : List S28) (r : List S28) (w0 w : World) (hB : Below w0.heap.size w0 w) (ho0 : Kd.R k28 28 w w0.heap.size P0_ u9000_ l0) (h : slices_SortFunc_impl_Prefix_impl_Prefix.f l0 = some r) :
  Calls Try.prog 76 #[u9000_, .func (.func 77) #[] #[]] w fun e w' => e = .returned (.tuple #[]) ∧ Kd.R k28 28 w' w0.heap.size (fun k_ => (P0_ k_ ∨ w.heap.size ≤ k_)) u9000_ r ∧ Below w0.heap.size w0 w' ∧ Kept w w' (fun k_ => P0_ k_) := by
 unfold slices_SortFunc_impl_Prefix_impl_Prefix.f at h
 split at h
 rotate_left
 ·cases h
 rename_i hc
 obtain ⟨hall, hlen⟩ := hc
 obtain rfl := Option.some.inj h
 clear h
 have hall : ∀ x ∈ l0, sf_in x = true := List.all_eq_true.1 hall
 rcases sf_form ho0 with ⟨rfl, rfl⟩ | ⟨g, c, rfl, hcap⟩
 ·refine (AnyF.slices_SortFunc_none sf_lay none 0 (.func (.func 77) #[] #[]) w).mono ?_
  rintro e w' ⟨rfl, rfl⟩
  refine ⟨rfl, ?_, hB, Kept.refl _ _⟩
  rw [List.mergeSort_nil]
  exact Kd.R_mono ho0 (fun _ h => .inl h)
 obtain ⟨inner, cur, hr, hh, hcs, -, hnc, hcm, hbg, hog, hcell⟩ := sf_cells ho0
 obtain ⟨L, hL⟩ : ∃ L : List SfE, L.map (·.1) = l0 := ⟨l0.attach.map fun x => ⟨x.1, hall x.1 x.2⟩, by simp⟩
 subst hL
 have hlL : (L.map (·.1)).length = L.length := List.length_map ..
 rw [hlL] at hlen hcap hnc ⊢
 have hsz : (flatK sf_enc 2 L.toArray).size = L.length * 2 := by simp
 have hH : HoldsK sf_enc 2 w g 0 L.toArray := fun j hj => by
  rw [hsz] at hj
  rw [Nat.zero_add]
  exact ⟨hcell j _ (sf_inner hr j hj), blk_frozen hh _⟩
 have eg : ∀ args w, (callFunc 77 args).run Try.prog w = .ok (.enter 77 args) w := enters_of Try.func77 (by kernel_rfl) rfl
 have hcon := AnyQ.slices_SortFunc_total sf_lay 2 Try.isAgg28 Try.sizeOf28 sf_enc (fun _ => rfl) (fun x v hv => by simp [sf_enc] at hv; rcases hv with rfl | rfl <;> rfl) sf_cmp sf_swo 77 #[] g 0 c L.toArray w eg (fun _ _ _ _ x y => sf_walk x y _) hH (blk_lt hh) (by simp; omega) sf_total
 have hms : (L.toArray.toList.mergeSort fun x y => !(ltOf sf_cmp) y x).map (·.1) = (L.map (·.1)).mergeSort fun x y => !sf_lt y x := by
  rw [List.map_mergeSort (s := fun x y => !sf_lt y x) (fun a _ b _ => by rw [sf_ltOf])]
 have hml : (L.toArray.toList.mergeSort fun x y => !(ltOf sf_cmp) y x).length = L.length := by simp
 generalize (L.toArray.toList.mergeSort fun x y => !(ltOf sf_cmp) y x) = M at hcon hms hml
 rw [List.size_toArray] at hcon
 refine Calls.mono hcon ?_
 rintro e w' ⟨rfl, n, os, rfl⟩
 unfold sortWorldK putRowK
 have hsM : (flatK sf_enc 2 M.toArray).size = L.length * 2 := by simp [hml]
 obtain ⟨F, hF⟩ : ∃ F, F = flatK sf_enc 2 M.toArray := ⟨_, rfl⟩
 have hfit : F.size ≤ cur.size := by
  rw [hF, hsM, hcs]
  exact Nat.mul_le_mul_right _ hnc
 have h3 := sf_heap (n := n) (os := os) F hh
 have hg : w.grownBy (grow (putRow id (Sort.ahead w n) g 0 F) os) (some g) := sf_grown F
 rw [← hF]
 rw [← hms]
 refine ⟨rfl, ⟨fun k' hk' => ?_, F.toList, ⟨by rw [hF, List.length_map, Array.length_toList, hsM, hml]; rfl, .inr ⟨g, c, _, by rw [List.length_map, hml], hbg, h3, by rw [List.length_map, hml]; exact hnc, hcm, by rw [show (putCells id 0 F cur).size = cur.size by simp [putCells], hcs], ?_⟩⟩, ?_⟩, ?_, ?_⟩
 ·have : g = k' := by simpa [Value.ownBlock] using hk'
  rw [← this]; exact .inl hog
 ·have := sf_take cur F hfit
  rw [List.length_map, hml]
  rw [hF, hsM, ← hF] at this
  exact this
 ·rw [hF]; exact sf_reps _ _ _ M
 ·exact hB.grown hg hB.size (fun k hk => by injection hk with hk; subst hk; exact hbg)
 ·exact Kept.of_grown (S := fun k_ => P0_ k_) hg (Kept.refl w _) (fun k_ e_ => by injection e_ with e_; subst e_; exact .inl hog)
end

/-! ### impl_Prefix_has: function 105 -/
def impl_Prefix_has.f (a0_0 : Int) (a0_1 : Int) (a1 : Int) : Option (Bool) := (impl_Prefix_size.f a0_0 a0_1).bind fun t235 => ((impl_within.f a1 a0_0 (wrap64 ((wrap64 (a0_0 + t235)) - 1))).bind fun t236 => (some t236))
def impl_Prefix_has.T1 : Bool × List (List Nat × List Nat) := (true, [([], []), ([], []), ([1], [1]), ([], []), ([3], [3]), ([], []), ([5], [5]), ([4, 6], [4, 6]), ([7], [7]), ([0, 2, 8, 6], [0, 2, 8]), ([9, 9, 0, 1, 2, 3, 4, 5, 6, 7, 8, 9], [9])])
def impl_Prefix_has.B1 : List Nat := [0, 0, 2, 0, 8, 0, 32, 120, 248, 511, 1023]
theorem impl_Prefix_has.tab1 : rtab .any (opsOf Try.f105 1) = impl_Prefix_has.T1 := by kernel_rfl
theorem impl_Prefix_has.bits1 : waitsOk impl_Prefix_has.T1.2 impl_Prefix_has.B1 = true := by kernel_rfl
set_option maxHeartbeats 8000000 in
set_option maxRecDepth 100000 in
theorem impl_Prefix_has.calls (a0_0 : Int) (a0_1 : Int) (a1 : Int) (r : Bool) (w : World) (h : impl_Prefix_has.f a0_0 a0_1 a1 = some r) :
  Calls Try.prog 105 #[.agg #[.int .i64 a0_0, .int .i64 a0_1], .int .i64 a1] w fun e w' => e = .returned (.bool r) ∧ Below w.heap.size w w' := by
 have hu28 := Try.underlying28
 have HB := Aside0.mk (Below.refl w.heap.size w)
 have H : ((impl_Prefix_size.f a0_0 a0_1).bind fun t235 => ((impl_within.f a1 a0_0 (wrap64 ((wrap64 (a0_0 + t235)) - 1))).bind fun t236 => (some t236))) = some r := h
 clear h
 replace H := Option.bind_eq_some_iff.mp H
 obtain ⟨t235, A30, H⟩ := H
 have A3 := Aside0.mk A30
 clear A30
 replace H := Option.bind_eq_some_iff.mp H
 obtain ⟨t236, A40, H⟩ := H
 have A4 := Aside0.mk A40
 clear A40
 obtain rfl := Option.some.inj H
 go_enter Try.func105, Try.ntmps105
 try go_wp2_with (first | ((with_reducible refine gate_dst (N := 2) rfl ?_); refine box_event ?hg (N := 2) ?hd (cs := #[.int .i64 a0_0, .int .i64 a0_1]) (t := 28) ?hr ?_; (case hd => rfl); (case hg => rfl); (case hr => first | (go_simp; done) | (go_simp; rfl)); intro gb234 hg w5 hbox hb; have BK234 := Aside0.mk hbox; have GW234 := ge_ HB hg; have GE234 := ge_ HB hg; replace HB := Aside0.mk (bt_ HB hb); clear hb hbox hg))
 replace BK234 := Aside0.mk (blk_drew BK234.out)
 replace HB := Aside0.mk (below_drew1 HB.out)
 refine start_ (n := 11) (S := fun w' => w'.cell? ⟨gb234, 0, none⟩ = some (.int .i64 a0_0) ∧ w'.cell? ⟨gb234, 1, none⟩ = some (.int .i64 a0_1)) (ds := []) ba10_0 (by kernel_rfl) rfl rfl ⟨(blk_cell BK234.out 0).trans rfl, (blk_cell BK234.out 1).trans rfl⟩ (fun hHeld => ?_); refine with_tabW impl_Prefix_has.tab1 impl_Prefix_has.bits1 (fun HT_ HW_ => ?_)
 generalize w5.drew = w6 at BK234 HB hHeld ⊢
 refine pz_ 0 5 ba10_1 HT_ ?_
 refine pz_ 1 6 ba10_2 HT_ ?_
 refine pz_ 3 8 ba10_3 HT_ ?_
 refine pt_ 2 7 ba10_4 HT_ HW_ hHeld ?_
 refine pt_ 4 9 ba10_5 HT_ HW_ hHeld ?_
 refine pt_ 5 10 ba10_6 HT_ HW_ hHeld ?_
 refine one_ (i := 6) (N := some 11) ba10_7 rfl rfl (one_of HT_.out (by kernel_rfl)) (by decide) (fun K hK => ?_)
 refine gz_ Try.func69 #[.agg #[.int .i64 a0_0, .int .i64 a0_1]] ?_
 with_reducible refine (impl_Prefix_size.calls a0_0 a0_1 t235 _ A3.out).mono ?_
 rintro e w7 ⟨rfl, hb⟩
 refine ⟨_, rfl, ?_⟩
 replace BK234 := Aside0.mk (bb_ BK234 hb)
 replace HB := Aside0.mk (bt_ HB hb)
 (try clear hb)
 (try clear hb2)
 (try clear hk)
 (try clear hi)
 refine hK.out _ _ ⟨(blk_cell BK234.out 0).trans rfl, (blk_cell BK234.out 1).trans rfl⟩ (fun hHeld => ?_)
 clear hK K
 refine nz_ 11 ?_
 refine pz_ 7 12 ba10_8 HT_ ?_
 refine pz_ 8 13 ba10_9 HT_ ?_
 refine one_ (i := 9) (N := some 14) ba10_10 rfl rfl (one_of HT_.out (by kernel_rfl)) (by decide) (fun K hK => ?_)
 refine gz_ Try.func88 #[.int .i64 a1, .int .i64 a0_0, .int .i64 (wrap64 ((wrap64 (a0_0 + t235)) - 1))] ?_
 with_reducible refine (impl_within.calls a1 a0_0 (wrap64 ((wrap64 (a0_0 + t235)) - 1)) t236 _ A4.out).mono ?_
 rintro e w' ⟨rfl, ⟨nd, rfl⟩⟩
 refine ⟨_, rfl, ?_⟩
 refine hK.out _ _ ⟨(blk_cell BK234.out 0).trans rfl, (blk_cell BK234.out 1).trans rfl⟩ (fun hHeld => ?_)
 clear hK K
 refine nz_ 14 ?_
 refine pz_ 10 4 ba10_11 HT_ ?_
 refine done_ (done_of HT_.out (by kernel_rfl)) ?_
 try go_wp2
 go_ret
 exact ⟨by first | rfl | (simp [errW_none, errW_some] <;> rfl) | (simp [*, errW_none, errW_some] <;> rfl), by repeat (first | (with_reducible first | exact HB.out | apply below_alloc | apply pw_below_drewN | apply below_drew1 | refine below_set ?_ GE234.out) | exact HB.out)⟩

/-! ### impl_Prefix_covers: function 78 -/
def impl_Prefix_covers.f (a0_0 : Int) (a0_1 : Int) (a1_0 : Int) (a1_1 : Int) : Option (Bool) := if a0_1 ≤ a1_1 then ((impl_Prefix_has.f a0_0 a0_1 a1_0).bind fun t239 => (some t239)) else (some false)
set_option maxHeartbeats 8000000 in
set_option maxRecDepth 100000 in
theorem impl_Prefix_covers.calls (a0_0 : Int) (a0_1 : Int) (a1_0 : Int) (a1_1 : Int) (r : Bool) (w : World) (h : impl_Prefix_covers.f a0_0 a0_1 a1_0 a1_1 = some r) :
  Calls Try.prog 78 #[.agg #[.int .i64 a0_0, .int .i64 a0_1], .agg #[.int .i64 a1_0, .int .i64 a1_1]] w fun e w' => e = .returned (.bool r) ∧ Below w.heap.size w w' := by
 have hu28 := Try.underlying28
 have HB := Aside0.mk (Below.refl w.heap.size w)
 have H : (if a0_1 ≤ a1_1 then ((impl_Prefix_has.f a0_0 a0_1 a1_0).bind fun t239 => (some t239)) else (some false)) = some r := h
 clear h
 by_cases c3 : a0_1 ≤ a1_1
 rotate_left
 ·rw [if_neg c3] at H
  have c3b0 : decide (a0_1 ≤ a1_1) = false := decide_eq_false c3
  clear c3
  obtain rfl := Option.some.inj H
  go_enter Try.func78, Try.ntmps78
  go_wp2_with (first | ((with_reducible refine gate_dst (N := 2) rfl ?_); refine box_event ?hg (N := 2) ?hd (cs := #[.int .i64 a0_0, .int .i64 a0_1]) (t := 28) ?hr ?_; (case hd => rfl); (case hg => rfl); (case hr => first | (go_simp; done) | (go_simp; rfl)); intro gb237 hg w11 hbox hb; have BK237 := Aside0.mk hbox; have GW237 := ge_ HB hg; have GE237 := ge_ HB hg; replace HB := Aside0.mk (bt_ HB hb); clear hb hbox hg) | ((with_reducible refine gate_dst (N := 3) rfl ?_); refine box_event ?hg (N := 3) ?hd (cs := #[.int .i64 a1_0, .int .i64 a1_1]) (t := 28) ?hr ?_; (case hd => rfl); (case hg => rfl); (case hr => first | (go_simp; done) | (go_simp; rfl)); intro gb238 hg w12 hbox hb; have BK238 := Aside0.mk hbox; have GW238 := ge_ HB hg; have GE238 := ge_ HB hg; have NB237_238 := nl_ BK237 hg; have NB238_237 := ng_ BK237 hg; replace HB := Aside0.mk (bt_ HB hb); replace BK237 := Aside0.mk (bb_ BK237 hb); clear hb hbox hg; have hnb13 := NB237_238.out; have hnc13 := NB238_237.out; have hcz14_0 := cz_ BK237 0 (.int .i64 a0_0); have hcz14_1 := cz_ BK237 1 (.int .i64 a0_1); have hfz14_0 := blk_frozen BK237.out 0; have hfz14_1 := blk_frozen BK237.out 1; have hcz15_0 := cz_ BK238 0 (.int .i64 a1_0); have hcz15_1 := cz_ BK238 1 (.int .i64 a1_1); have hfz15_0 := blk_frozen BK238.out 0; have hfz15_1 := blk_frozen BK238.out 1))
  go_ret
  exact ⟨by first | rfl | (simp [errW_none, errW_some] <;> rfl) | (simp [*, errW_none, errW_some] <;> rfl), by repeat (first | (with_reducible first | exact HB.out | apply below_alloc | apply pw_below_drewN | apply below_drew1 | refine below_set ?_ GE237.out | refine below_set ?_ GE238.out) | exact HB.out)⟩
 rw [if_pos c3] at H
 have c3b0 : decide (a0_1 ≤ a1_1) = true := decide_eq_true c3
 clear c3
 replace H := Option.bind_eq_some_iff.mp H
 obtain ⟨t239, A40, H⟩ := H
 have A4 := Aside0.mk A40
 clear A40
 obtain rfl := Option.some.inj H
 go_enter Try.func78, Try.ntmps78
 go_wp2_with (first | ((with_reducible refine gate_dst (N := 2) rfl ?_); refine box_event ?hg (N := 2) ?hd (cs := #[.int .i64 a0_0, .int .i64 a0_1]) (t := 28) ?hr ?_; (case hd => rfl); (case hg => rfl); (case hr => first | (go_simp; done) | (go_simp; rfl)); intro gb237 hg w5 hbox hb; have BK237 := Aside0.mk hbox; have GW237 := ge_ HB hg; have GE237 := ge_ HB hg; replace HB := Aside0.mk (bt_ HB hb); clear hb hbox hg) | ((with_reducible refine gate_dst (N := 3) rfl ?_); refine box_event ?hg (N := 3) ?hd (cs := #[.int .i64 a1_0, .int .i64 a1_1]) (t := 28) ?hr ?_; (case hd => rfl); (case hg => rfl); (case hr => first | (go_simp; done) | (go_simp; rfl)); intro gb238 hg w6 hbox hb; have BK238 := Aside0.mk hbox; have GW238 := ge_ HB hg; have GE238 := ge_ HB hg; have NB237_238 := nl_ BK237 hg; have NB238_237 := ng_ BK237 hg; replace HB := Aside0.mk (bt_ HB hb); replace BK237 := Aside0.mk (bb_ BK237 hb); clear hb hbox hg; have hnb7 := NB237_238.out; have hnc7 := NB238_237.out; have hcz8_0 := cz_ BK237 0 (.int .i64 a0_0); have hcz8_1 := cz_ BK237 1 (.int .i64 a0_1); have hfz8_0 := blk_frozen BK237.out 0; have hfz8_1 := blk_frozen BK237.out 1; have hcz9_0 := cz_ BK238 0 (.int .i64 a1_0); have hcz9_1 := cz_ BK238 1 (.int .i64 a1_1); have hfz9_0 := blk_frozen BK238.out 0; have hfz9_1 := blk_frozen BK238.out 1) | (go_at_call 105; (with_reducible refine (impl_Prefix_has.calls a0_0 a0_1 a1_0 t239 _ A4.out).mono ?_); rintro e w10 ⟨rfl, hb⟩; replace BK237 := Aside0.mk (bb_ BK237 hb); replace BK238 := Aside0.mk (bb_ BK238 hb); replace HB := Aside0.mk (bt_ HB hb); (try clear hb); (try clear hb2); (try clear hk); (try clear hi)))
 go_ret
 exact ⟨by first | rfl | (simp [errW_none, errW_some] <;> rfl) | (simp [*, errW_none, errW_some] <;> rfl), by repeat (first | (with_reducible first | exact HB.out | apply below_alloc | apply pw_below_drewN | apply below_drew1 | refine below_set ?_ GE237.out | refine below_set ?_ GE238.out) | exact HB.out)⟩

/-! ### impl_Aggregate_2: function 80 -/
def impl_Aggregate_2.l0 : Nat → Int → List (S28) → Int → Int → Int → Int → Option (Int)
 | 0, _, _, _, _, _, _ => none
 | k + 1, x4, x7, x8, x9, x241000, x241001 => if x9 < x8 then (if 0 ≤ x9 then (if x9 < (x7.length : Int) then ((impl_Prefix_covers.f ((rd_T28 x7 x9).f0) ((rd_T28 x7 x9).f1) x241000 x241001).bind fun t244 => (if t244 = true then ((impl_Prefix_size.f x241000 x241001).bind fun t245 => (some t245)) else ((impl_Prefix_covers.f x241000 x241001 ((rd_T28 x7 x9).f0) ((rd_T28 x7 x9).f1)).bind fun t246 => (if t246 = true then ((impl_Prefix_size.f ((rd_T28 x7 x9).f0) ((rd_T28 x7 x9).f1)).bind fun t247 => (impl_Aggregate_2.l0 k (wrap64 (x4 + t247)) x7 x8 (wrap64 (x9 + 1)) x241000 x241001)) else (impl_Aggregate_2.l0 k x4 x7 x8 (wrap64 (x9 + 1)) x241000 x241001))))) else (none)) else (none)) else (some x4)
def impl_Aggregate_2.f (k : Nat) (a0_0 : Int) (a0_1 : Int) (l1 : List (List (S28))) : Option (Int) := if 0 < (l1.length : Int) then (impl_Aggregate_2.l0 k 0 (rd_L3 l1 0) ((rd_L3 l1 0).length : Int) 0 a0_0 a0_1) else (none)
theorem impl_Aggregate_2.mono_l : ∀ k, (∀ y0 y1 y2 y3 y4 y5, LeO (impl_Aggregate_2.l0 k y0 y1 y2 y3 y4 y5) (impl_Aggregate_2.l0 (k + 1) y0 y1 y2 y3 y4 y5))
 | 0 => fun _ _ _ _ _ _ r h => by simp [impl_Aggregate_2.l0] at h
 | k + 1 => by
  have ih0 := impl_Aggregate_2.mono_l k
  ·intro y0 y1 y2 y3 y4 y5
   unfold impl_Aggregate_2.l0
   repeat' first
   | (with_reducible exact ih0 _ _ _ _ _ _)
   | (with_reducible exact LeO.refl _)
   | (with_reducible exact LeO.none _)
   | (with_reducible refine LeO.ite ?_ ?_)
   | (with_reducible refine LeO.bind ?_ (fun _ => ?_))
   | exact ih0 _ _ _ _ _ _
   | exact LeO.none _
   | refine LeO.ite ?_ ?_
   | refine LeO.bind ?_ (fun _ => ?_)
theorem impl_Aggregate_2.mono : ∀ a0 a1 a2 k, LeO (impl_Aggregate_2.f k a0 a1 a2) (impl_Aggregate_2.f (k + 1) a0 a1 a2) := by
 intro a0 a1 a2 k
 have ih0 := impl_Aggregate_2.mono_l k
 unfold impl_Aggregate_2.f
 repeat' first
   | (with_reducible exact ih0 _ _ _ _ _ _)
   | (with_reducible exact LeO.refl _)
   | (with_reducible exact LeO.none _)
   | (with_reducible refine LeO.ite ?_ ?_)
   | (with_reducible refine LeO.bind ?_ (fun _ => ?_))
   | exact ih0 _ _ _ _ _ _
   | exact LeO.none _
   | refine LeO.ite ?_ ?_
   | refine LeO.bind ?_ (fun _ => ?_)
set_option maxHeartbeats 8000000 in
set_option maxRecDepth 100000 in
theorem impl_Aggregate_2.calls (k : Nat) (a0_0 : Int) (a0_1 : Int) (A1 : Option Addr) (l1 : List (List (S28))) (r : Int) (w : World) (hr1 : Kd.C (Kd.slice 28 k28) w A1 l1.length l1) (h : impl_Aggregate_2.f k a0_0 a0_1 l1 = some r) :
  Calls Try.prog 80 #[.agg #[.int .i64 a0_0, .int .i64 a0_1], .pointer A1] w fun e w' => e = .returned (.int .i64 r) ∧ Below w.heap.size w w' := by
 have hu28 := Try.underlying28
 have HR1 := Aside0.mk hr1
 clear hr1
 have HB := Aside0.mk (Below.refl w.heap.size w)
 have H : (if 0 < (l1.length : Int) then (impl_Aggregate_2.l0 k 0 (rd_L3 l1 0) ((rd_L3 l1 0).length : Int) 0 a0_0 a0_1) else (none)) = some r := h
 clear h
 by_cases c3 : 0 < (l1.length : Int)
 rotate_left
 ·rw [if_neg c3] at H
  exact absurd H (by simp)
 rw [if_pos c3] at H
 have c3b0 : decide (0 < (l1.length : Int)) = true := decide_eq_true c3
 have c3b1 : decide (0 < l1.length) = true := decide_eq_true (by omega)
 clear c3
 have H' := Aside0.mk H
 clear H
 go_enter Try.func80, Try.ntmps80
 go_wp2_with (first | ((with_reducible refine gate_dst (N := 2) rfl ?_); refine box_event ?hg (N := 2) ?hd (cs := #[.int .i64 a0_0, .int .i64 a0_1]) (t := 28) ?hr ?_; (case hd => rfl); (case hg => rfl); (case hr => first | (go_simp; done) | (go_simp; rfl)); intro gb240 hg w4 hbox hb; have BK240 := Aside0.mk hbox; have GW240 := ge_ HB hg; have GE240 := ge_ HB hg; replace HB := Aside0.mk (bt_ HB hb); clear hb hbox hg; have p241 : 0 ≤ (0 : Int) := (by omega); have q241 : 0 < (l1.length : Int) := of_decide_eq_true (by first | (with_reducible assumption) | assumption); obtain ⟨ad241, A241_0, c241_0, e241, hx241_0, hl241_0, hi241_0⟩ := at_L3 HR1.out 0 p241 q241; cases e241; have qi241 : (0 < l1.length) = True := eq_true (by omega); (try rw [show ((0 : Int)).toNat = 0 from rfl] at hx241_0); (try rw [Addr.add_zero'] at hx241_0); replace hx241_0 := (HB.out.cell (World.block_lt_of_cell? w _ hx241_0)).trans hx241_0; have HR241_0 := Aside0.mk hi241_0; have HC241_0 := Aside0.mk hl241_0; clear hi241_0 hl241_0; replace p241 := eq_true p241; replace q241 := eq_true q241))
 go_loopg [4, 9] k (fun kq v4 v9 w' => ∃ (x4_1 : Int) (x9_1 : Int), v4 = .int .i64 x4_1 ∧ v9 = .int .i64 x9_1 ∧ Aside0 (impl_Aggregate_2.l0 kq x4_1 (rd_L3 l1 0) ((rd_L3 l1 0).length : Int) x9_1 a0_0 a0_1 = some r) ∧ Aside0 (kq ≤ k) ∧ Aside0 (w'.heap[gb240]? = some (.cells #[.int .i64 a0_0, .int .i64 a0_1] 28 (0, 0))) ∧ Aside0 (Below w.heap.size w w'))
 case atStart => exact ⟨(0), (0), (by first | rfl | (simp; done) | (simp [*]; done)), (by first | rfl | (simp; done) | (simp [*]; done)), H', ⟨Nat.le_refl _⟩, ⟨by (with_reducible repeat (first | refine blk_drewN ?_ _ | refine blk_drew ?_ | refine blk_alloc ?_ _)); exact BK240.out⟩, ⟨by repeat (first | (with_reducible first | exact HB.out | apply below_alloc | apply pw_below_drewN | apply below_drew1 | refine below_set ?_ GE240.out) | exact HB.out)⟩⟩
 case round =>
  clear H'
  try clear c2
  try clear p2
  try clear q2
  try clear hx2
  try clear qi2
  try clear c3
  try clear c3b0
  try clear c3b1
  try clear hx241_0
  try clear p241
  try clear q241
  obtain ⟨x4_1, x9_1, rfl, rfl, HA, HK1, BK240, HB⟩ := hrel
  cases gk with
  | zero => exact absurd HA.out (by simp [impl_Aggregate_2.l0])
  | succ k1 =>
   have H := HA.out
   clear HA
   simp only [impl_Aggregate_2.l0] at H
   by_cases c5 : x9_1 < ((rd_L3 l1 0).length : Int)
   rotate_left
   ·rw [if_neg c5] at H
    have c5b0 : decide (x9_1 < ((rd_L3 l1 0).length : Int)) = false := decide_eq_false c5
    clear c5
    obtain rfl := Option.some.inj H
    go_wp2
    go_ret
    exact ⟨by first | rfl | (simp [errW_none, errW_some] <;> rfl) | (simp [*, errW_none, errW_some] <;> rfl), by repeat (first | (with_reducible first | exact HB.out | apply below_alloc | apply pw_below_drewN | apply below_drew1 | refine below_set ?_ GE240.out) | exact HB.out)⟩
   rw [if_pos c5] at H
   have c5b0 : decide (x9_1 < ((rd_L3 l1 0).length : Int)) = true := decide_eq_true c5
   clear c5
   by_cases c6 : 0 ≤ x9_1
   rotate_left
   ·rw [if_neg c6] at H
    exact absurd H (by simp)
   rw [if_pos c6] at H
   have c6b0 : decide (0 ≤ x9_1) = true := decide_eq_true c6
   clear c6
   by_cases c7 : x9_1 < ((rd_L3 l1 0).length : Int)
   rotate_left
   ·rw [if_neg c7] at H
    exact absurd H (by simp)
   rw [if_pos c7] at H
   have c7b0 : decide (x9_1 < ((rd_L3 l1 0).length : Int)) = true := decide_eq_true c7
   clear c7
   replace H := Option.bind_eq_some_iff.mp H
   obtain ⟨t244, A80, H⟩ := H
   have A8 := Aside0.mk A80
   clear A80
   by_cases c9 : t244 = true
   ·subst c9
    rw [if_pos rfl] at H
    replace H := Option.bind_eq_some_iff.mp H
    obtain ⟨t245, A100, H⟩ := H
    have A10 := Aside0.mk A100
    clear A100
    obtain rfl := Option.some.inj H
    have p242 : 0 ≤ (x9_1 : Int) := of_decide_eq_true (by first | (with_reducible assumption) | assumption)
    have q242 : x9_1 < ((rd_L3 l1 0).length : Int) := of_decide_eq_true (by first | (with_reducible assumption) | assumption)
    obtain ⟨ad242, e242, hx242_0, hx242_1⟩ := at_T28 HR241_0.out x9_1 p242 q242
    cases e242
    replace hx242_0 := (HB.out.cell (World.block_lt_of_cell? w _ hx242_0)).trans hx242_0
    replace hx242_1 := (HB.out.cell (World.block_lt_of_cell? w _ hx242_1)).trans hx242_1
    replace p242 := eq_true p242
    replace q242 := eq_true q242
    go_wp2_with (first | ((with_reducible refine gate_dst (N := 6) rfl ?_); refine box_event ?hg (N := 6) ?hd (cs := #[.int .i64 0, .int .i64 0]) (t := 28) ?hr ?_; (case hd => rfl); (case hg => rfl); (case hr => first | (go_simp; done) | (go_simp; rfl)); intro gb243 hg w11 hbox hb; have BK243 := Aside0.mk hbox; have GW243 := ge_ HB hg; have GE243 := ge_ HB hg; have NB240_243 := nl_ BK240 hg; have NB243_240 := ng_ BK240 hg; replace HB := Aside0.mk (bt_ HB hb); replace BK240 := Aside0.mk (bb_ BK240 hb); clear hb hbox hg; have hnb12 := NB243_240.out; have hnc12 := NB240_243.out; have hcz13_0 := cz_ BK243 0 (.int .i64 0); have hcz13_1 := cz_ BK243 1 (.int .i64 0); have hfz13_0 := blk_frozen BK243.out 0; have hfz13_1 := blk_frozen BK243.out 1; have hcz14_0 := cz_ BK240 0 (.int .i64 a0_0); have hcz14_1 := cz_ BK240 1 (.int .i64 a0_1); have hfz14_0 := blk_frozen BK240.out 0; have hfz14_1 := blk_frozen BK240.out 1) | ((with_reducible refine gate_callee (f := 78) rfl ?_); refine gl_ (some 16) Try.func78 #[.agg #[.int .i64 ((rd_T28 (rd_L3 l1 0) x9_1).f0), .int .i64 ((rd_T28 (rd_L3 l1 0) x9_1).f1)], .agg #[.int .i64 a0_0, .int .i64 a0_1]] ?_; (with_reducible refine (impl_Prefix_covers.calls ((rd_T28 (rd_L3 l1 0) x9_1).f0) ((rd_T28 (rd_L3 l1 0) x9_1).f1) a0_0 a0_1 true _ A8.out).mono ?_); rintro e w15 ⟨rfl, hb⟩; refine ⟨_, rfl, ?_⟩; replace BK240 := bf_ BK240 NB240_243 hb; replace BK243 := Aside0.mk (blk_below (g := gb243) (o := .cells #[.int .i64 ((rd_T28 (rd_L3 l1 0) x9_1).f0), .int .i64 ((rd_T28 (rd_L3 l1 0) x9_1).f1)] 28 (0, 0)) (by (with_reducible repeat (first | refine blk_drewN ?_ _ | refine blk_drew ?_ | refine blk_alloc ?_ _)); refine blk_put (cs := #[.int .i64 ((rd_T28 (rd_L3 l1 0) x9_1).f0), .int .i64 0]) ?_ 1 _ rfl; (with_reducible repeat (first | refine blk_drewN ?_ _ | refine blk_drew ?_ | refine blk_alloc ?_ _)); refine blk_put (cs := #[.int .i64 0, .int .i64 0]) ?_ 0 _ rfl; (with_reducible repeat (first | refine blk_drewN ?_ _ | refine blk_drew ?_ | refine blk_alloc ?_ _)); exact BK243.out) hb); replace HB := Aside0.mk (bt_ HB hb); (try clear hb); (try clear hb2); (try clear hk); (try clear hi); have hcz16_0 := cz_ BK240 0 (.int .i64 a0_0); have hcz16_1 := cz_ BK240 1 (.int .i64 a0_1); have hfz16_0 := blk_frozen BK240.out 0; have hfz16_1 := blk_frozen BK240.out 1) | ((with_reducible refine gate_callee (f := 69) rfl ?_); refine gl_ (some 18) Try.func69 #[.agg #[.int .i64 a0_0, .int .i64 a0_1]] ?_; (with_reducible refine (impl_Prefix_size.calls a0_0 a0_1 t245 _ A10.out).mono ?_); rintro e w17 ⟨rfl, hb⟩; refine ⟨_, rfl, ?_⟩; replace BK240 := Aside0.mk (bb_ BK240 hb); replace BK243 := Aside0.mk (bb_ BK243 hb); replace HB := Aside0.mk (bt_ HB hb); (try clear hb); (try clear hb2); (try clear hk); (try clear hi)))
    go_ret
    exact ⟨by first | rfl | (simp [errW_none, errW_some] <;> rfl) | (simp [*, errW_none, errW_some] <;> rfl), by repeat (first | (with_reducible first | exact HB.out | apply below_alloc | apply pw_below_drewN | apply below_drew1 | refine below_set ?_ GE240.out | refine below_set ?_ GE243.out) | exact HB.out)⟩
   replace c9 := Bool.eq_false_iff.mpr c9
   subst c9
   rw [if_neg (show ¬ (false = true) by decide)] at H
   replace H := Option.bind_eq_some_iff.mp H
   obtain ⟨t246, A180, H⟩ := H
   have A18 := Aside0.mk A180
   clear A180
   by_cases c19 : t246 = true
   rotate_left
   ·replace c19 := Bool.eq_false_iff.mpr c19
    subst c19
    rw [if_neg (show ¬ (false = true) by decide)] at H
    have H' := Aside0.mk H
    clear H
    have p242 : 0 ≤ (x9_1 : Int) := of_decide_eq_true (by first | (with_reducible assumption) | assumption)
    have q242 : x9_1 < ((rd_L3 l1 0).length : Int) := of_decide_eq_true (by first | (with_reducible assumption) | assumption)
    obtain ⟨ad242, e242, hx242_0, hx242_1⟩ := at_T28 HR241_0.out x9_1 p242 q242
    cases e242
    replace hx242_0 := (HB.out.cell (World.block_lt_of_cell? w _ hx242_0)).trans hx242_0
    replace hx242_1 := (HB.out.cell (World.block_lt_of_cell? w _ hx242_1)).trans hx242_1
    replace p242 := eq_true p242
    replace q242 := eq_true q242
    go_wp2_with (first | ((with_reducible refine gate_dst (N := 6) rfl ?_); refine box_event ?hg (N := 6) ?hd (cs := #[.int .i64 0, .int .i64 0]) (t := 28) ?hr ?_; (case hd => rfl); (case hg => rfl); (case hr => first | (go_simp; done) | (go_simp; rfl)); intro gb243 hg w31 hbox hb; have BK243 := Aside0.mk hbox; have GW243 := ge_ HB hg; have GE243 := ge_ HB hg; have NB240_243 := nl_ BK240 hg; have NB243_240 := ng_ BK240 hg; replace HB := Aside0.mk (bt_ HB hb); replace BK240 := Aside0.mk (bb_ BK240 hb); clear hb hbox hg; have hnb32 := NB243_240.out; have hnc32 := NB240_243.out; have hcz33_0 := cz_ BK243 0 (.int .i64 0); have hcz33_1 := cz_ BK243 1 (.int .i64 0); have hfz33_0 := blk_frozen BK243.out 0; have hfz33_1 := blk_frozen BK243.out 1; have hcz34_0 := cz_ BK240 0 (.int .i64 a0_0); have hcz34_1 := cz_ BK240 1 (.int .i64 a0_1); have hfz34_0 := blk_frozen BK240.out 0; have hfz34_1 := blk_frozen BK240.out 1) | ((with_reducible refine gate_callee (f := 78) rfl ?_); refine gl_ (some 16) Try.func78 #[.agg #[.int .i64 ((rd_T28 (rd_L3 l1 0) x9_1).f0), .int .i64 ((rd_T28 (rd_L3 l1 0) x9_1).f1)], .agg #[.int .i64 a0_0, .int .i64 a0_1]] ?_; (with_reducible refine (impl_Prefix_covers.calls ((rd_T28 (rd_L3 l1 0) x9_1).f0) ((rd_T28 (rd_L3 l1 0) x9_1).f1) a0_0 a0_1 false _ A8.out).mono ?_); rintro e w35 ⟨rfl, hb⟩; refine ⟨_, rfl, ?_⟩; replace BK240 := bf_ BK240 NB240_243 hb; replace BK243 := Aside0.mk (blk_below (g := gb243) (o := .cells #[.int .i64 ((rd_T28 (rd_L3 l1 0) x9_1).f0), .int .i64 ((rd_T28 (rd_L3 l1 0) x9_1).f1)] 28 (0, 0)) (by (with_reducible repeat (first | refine blk_drewN ?_ _ | refine blk_drew ?_ | refine blk_alloc ?_ _)); refine blk_put (cs := #[.int .i64 ((rd_T28 (rd_L3 l1 0) x9_1).f0), .int .i64 0]) ?_ 1 _ rfl; (with_reducible repeat (first | refine blk_drewN ?_ _ | refine blk_drew ?_ | refine blk_alloc ?_ _)); refine blk_put (cs := #[.int .i64 0, .int .i64 0]) ?_ 0 _ rfl; (with_reducible repeat (first | refine blk_drewN ?_ _ | refine blk_drew ?_ | refine blk_alloc ?_ _)); exact BK243.out) hb); replace HB := Aside0.mk (bt_ HB hb); (try clear hb); (try clear hb2); (try clear hk); (try clear hi); have hcz36_0 := cz_ BK240 0 (.int .i64 a0_0); have hcz36_1 := cz_ BK240 1 (.int .i64 a0_1); have hfz36_0 := blk_frozen BK240.out 0; have hfz36_1 := blk_frozen BK240.out 1; have hcz37_0 := cz_ BK243 0 (.int .i64 ((rd_T28 (rd_L3 l1 0) x9_1).f0)); have hcz37_1 := cz_ BK243 1 (.int .i64 ((rd_T28 (rd_L3 l1 0) x9_1).f1)); have hfz37_0 := blk_frozen BK243.out 0; have hfz37_1 := blk_frozen BK243.out 1) | ((with_reducible refine gate_callee (f := 78) rfl ?_); refine gl_ (some 22) Try.func78 #[.agg #[.int .i64 a0_0, .int .i64 a0_1], .agg #[.int .i64 ((rd_T28 (rd_L3 l1 0) x9_1).f0), .int .i64 ((rd_T28 (rd_L3 l1 0) x9_1).f1)]] ?_; (with_reducible refine (impl_Prefix_covers.calls a0_0 a0_1 ((rd_T28 (rd_L3 l1 0) x9_1).f0) ((rd_T28 (rd_L3 l1 0) x9_1).f1) false _ A18.out).mono ?_); rintro e w38 ⟨rfl, hb⟩; refine ⟨_, rfl, ?_⟩; replace BK240 := Aside0.mk (bb_ BK240 hb); replace BK243 := Aside0.mk (bb_ BK243 hb); replace HB := Aside0.mk (bt_ HB hb); (try clear hb); (try clear hb2); (try clear hk); (try clear hi)))
    go_roundg k1
    case measure => have := HK1.out; omega
    case rel => exact ⟨(x4_1), (wrap64 (x9_1 + 1)), (by first | rfl | (simp; done) | (simp [*]; done)), (by first | rfl | (simp; done) | (simp [*]; done)), H', ⟨by have := HK1.out; omega⟩, ⟨by (with_reducible repeat (first | refine blk_drewN ?_ _ | refine blk_drew ?_ | refine blk_alloc ?_ _)); exact BK240.out⟩, ⟨by repeat (first | (with_reducible first | exact HB.out | apply below_alloc | apply pw_below_drewN | apply below_drew1 | refine below_set ?_ GE240.out | refine below_set ?_ GE243.out) | exact HB.out)⟩⟩
   subst c19
   rw [if_pos rfl] at H
   replace H := Option.bind_eq_some_iff.mp H
   obtain ⟨t247, A200, H⟩ := H
   have A20 := Aside0.mk A200
   clear A200
   have H' := Aside0.mk H
   clear H
   have p242 : 0 ≤ (x9_1 : Int) := of_decide_eq_true (by first | (with_reducible assumption) | assumption)
   have q242 : x9_1 < ((rd_L3 l1 0).length : Int) := of_decide_eq_true (by first | (with_reducible assumption) | assumption)
   obtain ⟨ad242, e242, hx242_0, hx242_1⟩ := at_T28 HR241_0.out x9_1 p242 q242
   cases e242
   replace hx242_0 := (HB.out.cell (World.block_lt_of_cell? w _ hx242_0)).trans hx242_0
   replace hx242_1 := (HB.out.cell (World.block_lt_of_cell? w _ hx242_1)).trans hx242_1
   replace p242 := eq_true p242
   replace q242 := eq_true q242
   go_wp2_with (first | ((with_reducible refine gate_dst (N := 6) rfl ?_); refine box_event ?hg (N := 6) ?hd (cs := #[.int .i64 0, .int .i64 0]) (t := 28) ?hr ?_; (case hd => rfl); (case hg => rfl); (case hr => first | (go_simp; done) | (go_simp; rfl)); intro gb243 hg w21 hbox hb; have BK243 := Aside0.mk hbox; have GW243 := ge_ HB hg; have GE243 := ge_ HB hg; have NB240_243 := nl_ BK240 hg; have NB243_240 := ng_ BK240 hg; replace HB := Aside0.mk (bt_ HB hb); replace BK240 := Aside0.mk (bb_ BK240 hb); clear hb hbox hg; have hnb22 := NB243_240.out; have hnc22 := NB240_243.out; have hcz23_0 := cz_ BK243 0 (.int .i64 0); have hcz23_1 := cz_ BK243 1 (.int .i64 0); have hfz23_0 := blk_frozen BK243.out 0; have hfz23_1 := blk_frozen BK243.out 1; have hcz24_0 := cz_ BK240 0 (.int .i64 a0_0); have hcz24_1 := cz_ BK240 1 (.int .i64 a0_1); have hfz24_0 := blk_frozen BK240.out 0; have hfz24_1 := blk_frozen BK240.out 1) | ((with_reducible refine gate_callee (f := 78) rfl ?_); refine gl_ (some 16) Try.func78 #[.agg #[.int .i64 ((rd_T28 (rd_L3 l1 0) x9_1).f0), .int .i64 ((rd_T28 (rd_L3 l1 0) x9_1).f1)], .agg #[.int .i64 a0_0, .int .i64 a0_1]] ?_; (with_reducible refine (impl_Prefix_covers.calls ((rd_T28 (rd_L3 l1 0) x9_1).f0) ((rd_T28 (rd_L3 l1 0) x9_1).f1) a0_0 a0_1 false _ A8.out).mono ?_); rintro e w25 ⟨rfl, hb⟩; refine ⟨_, rfl, ?_⟩; replace BK240 := bf_ BK240 NB240_243 hb; replace BK243 := Aside0.mk (blk_below (g := gb243) (o := .cells #[.int .i64 ((rd_T28 (rd_L3 l1 0) x9_1).f0), .int .i64 ((rd_T28 (rd_L3 l1 0) x9_1).f1)] 28 (0, 0)) (by (with_reducible repeat (first | refine blk_drewN ?_ _ | refine blk_drew ?_ | refine blk_alloc ?_ _)); refine blk_put (cs := #[.int .i64 ((rd_T28 (rd_L3 l1 0) x9_1).f0), .int .i64 0]) ?_ 1 _ rfl; (with_reducible repeat (first | refine blk_drewN ?_ _ | refine blk_drew ?_ | refine blk_alloc ?_ _)); refine blk_put (cs := #[.int .i64 0, .int .i64 0]) ?_ 0 _ rfl; (with_reducible repeat (first | refine blk_drewN ?_ _ | refine blk_drew ?_ | refine blk_alloc ?_ _)); exact BK243.out) hb); replace HB := Aside0.mk (bt_ HB hb); (try clear hb); (try clear hb2); (try clear hk); (try clear hi); have hcz26_0 := cz_ BK240 0 (.int .i64 a0_0); have hcz26_1 := cz_ BK240 1 (.int .i64 a0_1); have hfz26_0 := blk_frozen BK240.out 0; have hfz26_1 := blk_frozen BK240.out 1; have hcz27_0 := cz_ BK243 0 (.int .i64 ((rd_T28 (rd_L3 l1 0) x9_1).f0)); have hcz27_1 := cz_ BK243 1 (.int .i64 ((rd_T28 (rd_L3 l1 0) x9_1).f1)); have hfz27_0 := blk_frozen BK243.out 0; have hfz27_1 := blk_frozen BK243.out 1) | ((with_reducible refine gate_callee (f := 78) rfl ?_); refine gl_ (some 22) Try.func78 #[.agg #[.int .i64 a0_0, .int .i64 a0_1], .agg #[.int .i64 ((rd_T28 (rd_L3 l1 0) x9_1).f0), .int .i64 ((rd_T28 (rd_L3 l1 0) x9_1).f1)]] ?_; (with_reducible refine (impl_Prefix_covers.calls a0_0 a0_1 ((rd_T28 (rd_L3 l1 0) x9_1).f0) ((rd_T28 (rd_L3 l1 0) x9_1).f1) true _ A18.out).mono ?_); rintro e w28 ⟨rfl, hb⟩; refine ⟨_, rfl, ?_⟩; replace BK240 := Aside0.mk (bb_ BK240 hb); replace BK243 := Aside0.mk (bb_ BK243 hb); replace HB := Aside0.mk (bt_ HB hb); (try clear hb); (try clear hb2); (try clear hk); (try clear hi); have hcz29_0 := cz_ BK243 0 (.int .i64 ((rd_T28 (rd_L3 l1 0) x9_1).f0)); have hcz29_1 := cz_ BK243 1 (.int .i64 ((rd_T28 (rd_L3 l1 0) x9_1).f1)); have hfz29_0 := blk_frozen BK243.out 0; have hfz29_1 := blk_frozen BK243.out 1) | ((with_reducible refine gate_callee (f := 69) rfl ?_); refine gl_ (some 25) Try.func69 #[.agg #[.int .i64 ((rd_T28 (rd_L3 l1 0) x9_1).f0), .int .i64 ((rd_T28 (rd_L3 l1 0) x9_1).f1)]] ?_; (with_reducible refine (impl_Prefix_size.calls ((rd_T28 (rd_L3 l1 0) x9_1).f0) ((rd_T28 (rd_L3 l1 0) x9_1).f1) t247 _ A20.out).mono ?_); rintro e w30 ⟨rfl, hb⟩; refine ⟨_, rfl, ?_⟩; replace BK240 := Aside0.mk (bb_ BK240 hb); replace BK243 := Aside0.mk (bb_ BK243 hb); replace HB := Aside0.mk (bt_ HB hb); (try clear hb); (try clear hb2); (try clear hk); (try clear hi)))
   go_roundg k1
   case measure => have := HK1.out; omega
   case rel => exact ⟨(wrap64 (x4_1 + t247)), (wrap64 (x9_1 + 1)), (by first | rfl | (simp; done) | (simp [*]; done)), (by first | rfl | (simp; done) | (simp [*]; done)), H', ⟨by have := HK1.out; omega⟩, ⟨by (with_reducible repeat (first | refine blk_drewN ?_ _ | refine blk_drew ?_ | refine blk_alloc ?_ _)); exact BK240.out⟩, ⟨by repeat (first | (with_reducible first | exact HB.out | apply below_alloc | apply pw_below_drewN | apply below_drew1 | refine below_set ?_ GE240.out | refine below_set ?_ GE243.out) | exact HB.out)⟩⟩

/-! ### impl_Prefix_halves: function 106 -/
def impl_Prefix_halves.f (a0_0 : Int) (a0_1 : Int) : Option (Int × Int × Int × Int) := (impl_Prefix_size.f a0_0 a0_1).bind fun t251 => (some (a0_0, wrap64 (a0_1 + 1), wrap64 (a0_0 + (wrap64 (Int.tdiv t251 2))), wrap64 (a0_1 + 1)))
def impl_Prefix_halves.T1 : Bool × List (List Nat × List Nat) := (true, [([], []), ([0], [0]), ([], []), ([2], [2]), ([3], [3]), ([1, 4], [1, 4]), ([], []), ([6], [6]), ([], []), ([8], [8]), ([9], [9]), ([7, 10], [7, 10]), ([], []), ([12], [12]), ([13], [13]), ([11, 14], [11, 14]), ([5, 9, 0, 1, 2, 3, 4, 5], [5]), ([15, 16, 0, 1, 2, 3, 4, 5, 6, 7, 8, 9, 10, 11, 12, 13, 14, 15, 16], [15])])
def impl_Prefix_halves.B1 : List Nat := [0, 1, 0, 4, 12, 31, 0, 64, 0, 256, 768, 1984, 0, 4096, 12288, 32704, 831, 131071]
theorem impl_Prefix_halves.tab1 : rtab .any (opsOf Try.f106 1) = impl_Prefix_halves.T1 := by kernel_rfl
theorem impl_Prefix_halves.bits1 : waitsOk impl_Prefix_halves.T1.2 impl_Prefix_halves.B1 = true := by kernel_rfl
set_option maxHeartbeats 8000000 in
set_option maxRecDepth 100000 in
theorem impl_Prefix_halves.calls (a0_0 : Int) (a0_1 : Int) (r1 : Int) (r2 : Int) (r3 : Int) (r4 : Int) (w : World) (h : impl_Prefix_halves.f a0_0 a0_1 = some (r1, r2, r3, r4)) :
  Calls Try.prog 106 #[.agg #[.int .i64 a0_0, .int .i64 a0_1]] w fun e w' => e = .returned (.tuple #[.agg #[.int .i64 r1, .int .i64 r2], .agg #[.int .i64 r3, .int .i64 r4]]) ∧ Below w.heap.size w w' := by
 have hu28 := Try.underlying28
 have HB := Aside0.mk (Below.refl w.heap.size w)
 have H : ((impl_Prefix_size.f a0_0 a0_1).bind fun t251 => (some (a0_0, wrap64 (a0_1 + 1), wrap64 (a0_0 + (wrap64 (Int.tdiv t251 2))), wrap64 (a0_1 + 1)))) = some (r1, r2, r3, r4) := h
 clear h
 replace H := Option.bind_eq_some_iff.mp H
 obtain ⟨t251, A20, H⟩ := H
 have A2 := Aside0.mk A20
 clear A20
 simp only [Option.some.injEq, Prod.mk.injEq] at H
 obtain ⟨rfl, rfl, rfl, rfl⟩ := H
 go_enter Try.func106, Try.ntmps106
 try go_wp2_with (first | ((with_reducible refine gate_dst (N := 1) rfl ?_); refine box_event ?hg (N := 1) ?hd (cs := #[.int .i64 a0_0, .int .i64 a0_1]) (t := 28) ?hr ?_; (case hd => rfl); (case hg => rfl); (case hr => first | (go_simp; done) | (go_simp; rfl)); intro gb248 hg w3 hbox hb; have BK248 := Aside0.mk hbox; have GW248 := ge_ HB hg; have GE248 := ge_ HB hg; replace HB := Aside0.mk (bt_ HB hb); clear hb hbox hg) | ((with_reducible refine gate_dst (N := 2) rfl ?_); refine box_event ?hg (N := 2) ?hd (cs := #[.int .i64 0, .int .i64 0]) (t := 28) ?hr ?_; (case hd => rfl); (case hg => rfl); (case hr => first | (go_simp; done) | (go_simp; rfl)); intro gb249 hg w4 hbox hb; have BK249 := Aside0.mk hbox; have GW249 := ge_ HB hg; have GE249 := ge_ HB hg; have NB248_249 := nl_ BK248 hg; have NB249_248 := ng_ BK248 hg; replace HB := Aside0.mk (bt_ HB hb); replace BK248 := Aside0.mk (bb_ BK248 hb); clear hb hbox hg) | ((with_reducible refine gate_dst (N := 3) rfl ?_); refine box_event ?hg (N := 3) ?hd (cs := #[.int .i64 0, .int .i64 0]) (t := 28) ?hr ?_; (case hd => rfl); (case hg => rfl); (case hr => first | (go_simp; done) | (go_simp; rfl)); intro gb250 hg w5 hbox hb; have BK250 := Aside0.mk hbox; have GW250 := ge_ HB hg; have GE250 := ge_ HB hg; have NB248_250 := nl_ BK248 hg; have NB250_248 := ng_ BK248 hg; have NB249_250 := nl_ BK249 hg; have NB250_249 := ng_ BK249 hg; replace HB := Aside0.mk (bt_ HB hb); replace BK248 := Aside0.mk (bb_ BK248 hb); replace BK249 := Aside0.mk (bb_ BK249 hb); clear hb hbox hg))
 replace BK248 := Aside0.mk (blk_drew BK248.out)
 replace BK249 := Aside0.mk (blk_drew BK249.out)
 replace BK250 := Aside0.mk (blk_drew BK250.out)
 replace HB := Aside0.mk (below_drew1 HB.out)
 refine start_ (n := 18) (S := fun w' => w'.cell? ⟨gb248, 0, none⟩ = some (.int .i64 a0_0) ∧ w'.cell? ⟨gb248, 1, none⟩ = some (.int .i64 a0_1)) (ds := []) ba10_12 (by kernel_rfl) rfl rfl ⟨(blk_cell BK248.out 0).trans rfl, (blk_cell BK248.out 1).trans rfl⟩ (fun hHeld => ?_); refine with_tabW impl_Prefix_halves.tab1 impl_Prefix_halves.bits1 (fun HT_ HW_ => ?_)
 generalize w5.drew = w6 at BK248 BK249 BK250 HB hHeld ⊢
 refine pz_ 0 4 ba10_13 HT_ ?_
 refine pz_ 2 6 ba10_14 HT_ ?_
 refine pz_ 6 10 ba10_15 HT_ ?_
 refine pz_ 12 16 ba10_16 HT_ ?_
 refine pt_ 1 5 ba10_17 HT_ HW_ hHeld ?_
 refine pt_ 3 7 ba10_18 HT_ HW_ hHeld ?_
 refine pz_ 4 8 ba10_19 HT_ ?_
 refine pz_ 5 9 ba10_20 HT_ ?_
 refine pt_ 7 11 ba10_21 HT_ HW_ hHeld ?_
 refine pt_ 8 12 ba10_22 HT_ HW_ hHeld ?_
 refine pt_ 13 17 ba10_23 HT_ HW_ hHeld ?_
 refine pz_ 14 18 ba10_24 HT_ ?_
 refine one_ (i := 9) (N := some 13) ba10_25 rfl rfl (one_of HT_.out (by kernel_rfl)) (by decide) (fun K hK => ?_)
 refine gz_ Try.func69 #[.agg #[.int .i64 a0_0, .int .i64 a0_1]] ?_
 with_reducible refine (impl_Prefix_size.calls a0_0 a0_1 t251 _ A2.out).mono ?_
 rintro e w7 ⟨rfl, hb⟩
 refine ⟨_, rfl, ?_⟩
 replace BK248 := Aside0.mk (bb_ BK248 hb)
 replace BK249 := Aside0.mk (bb_ BK249 hb)
 replace BK250 := Aside0.mk (bb_ BK250 hb)
 replace HB := Aside0.mk (bt_ HB hb)
 (try clear hb)
 (try clear hb2)
 (try clear hk)
 (try clear hi)
 refine hK.out _ _ ⟨(blk_cell BK248.out 0).trans rfl, (blk_cell BK248.out 1).trans rfl⟩ (fun hHeld => ?_)
 clear hK K
 refine nz_ 13 ?_
 refine pz_ 10 14 ba10_26 HT_ ?_
 refine pz_ 11 15 ba10_27 HT_ ?_
 refine pz_ 15 19 ba10_28 HT_ ?_
 refine one_ (i := 16) (N := none) ba10_29 rfl rfl (one_of HT_.out (by kernel_rfl)) (by decide) (fun K hK => ?_)
 have hs8 : w7.cell? ⟨gb249, 0, none⟩ = some (.int .i64 0) := (blk_cell BK249.out 0).trans rfl
 have hfs8 := blk_frozen BK249.out 0
 have hns8_0 := NB248_249.out
 have hns8_2 := NB250_249.out
 have hms8_0 := NB249_248.out
 have hms8_2 := NB249_250.out
 have hs9 : w7.cell? ⟨gb249, 1, none⟩ = some (.int .i64 0) := (blk_cell BK249.out 1).trans rfl
 have hfs9 := blk_frozen BK249.out 1
 have hns9_0 := NB248_249.out
 have hns9_2 := NB250_249.out
 have hms9_0 := NB249_248.out
 have hms9_2 := NB249_250.out
 refine skip_ (w1 := ?_) (by rfl) rfl ?_ ?_
 rotate_left; · go_simp; rfl
 refine hK.out _ _ ⟨((cell_far (p := ⟨gb249, _, none⟩) NB248_249.out _).trans (((cell_far (p := ⟨gb249, _, none⟩) NB248_249.out _).trans (hHeld.1)))), ((cell_far (p := ⟨gb249, _, none⟩) NB248_249.out _).trans (((cell_far (p := ⟨gb249, _, none⟩) NB248_249.out _).trans (hHeld.2))))⟩ (fun hHeld => ?_)
 clear hK K
 refine one_ (i := 17) (N := none) ba10_30 rfl rfl (one_of HT_.out (by kernel_rfl)) (by decide) (fun K hK => ?_)
 have hs10 : w7.cell? ⟨gb250, 0, none⟩ = some (.int .i64 0) := (blk_cell BK250.out 0).trans rfl
 have hfs10 := blk_frozen BK250.out 0
 have hns10_0 := NB248_250.out
 have hns10_1 := NB249_250.out
 have hms10_0 := NB250_248.out
 have hms10_1 := NB250_249.out
 have hs11 : w7.cell? ⟨gb250, 1, none⟩ = some (.int .i64 0) := (blk_cell BK250.out 1).trans rfl
 have hfs11 := blk_frozen BK250.out 1
 have hns11_0 := NB248_250.out
 have hns11_1 := NB249_250.out
 have hms11_0 := NB250_248.out
 have hms11_1 := NB250_249.out
 refine skip_ (w1 := ?_) (by rfl) rfl ?_ ?_
 rotate_left; · go_simp; rfl
 refine hK.out _ _ ⟨((cell_far (p := ⟨gb250, _, none⟩) NB248_250.out _).trans (((cell_far (p := ⟨gb250, _, none⟩) NB248_250.out _).trans (hHeld.1)))), ((cell_far (p := ⟨gb250, _, none⟩) NB248_250.out _).trans (((cell_far (p := ⟨gb250, _, none⟩) NB248_250.out _).trans (hHeld.2))))⟩ (fun hHeld => ?_)
 clear hK K
 refine done_ (done_of HT_.out (by kernel_rfl)) ?_
 try go_wp2
 refine bodyPost_ret (results_cc rfl _ _ gb249 gb250 28 28 #[.int .i64 a0_0, .int .i64 (wrap64 (a0_1 + 1))] #[.int .i64 (wrap64 (a0_0 + (wrap64 (Int.tdiv t251 2)))), .int .i64 (wrap64 (a0_1 + 1))] (0, 0) (0, 0) _ _ rfl (by (with_reducible repeat (first | refine blk_drewN ?_ _ | refine blk_drew ?_ | refine blk_alloc ?_ _)); refine blk_far ?_ NB249_250.out _; (with_reducible repeat (first | refine blk_drewN ?_ _ | refine blk_drew ?_ | refine blk_alloc ?_ _)); refine blk_far ?_ NB249_250.out _; (with_reducible repeat (first | refine blk_drewN ?_ _ | refine blk_drew ?_ | refine blk_alloc ?_ _)); refine blk_put (cs := #[.int .i64 a0_0, .int .i64 0]) ?_ 1 _ rfl; (with_reducible repeat (first | refine blk_drewN ?_ _ | refine blk_drew ?_ | refine blk_alloc ?_ _)); refine blk_put (cs := #[.int .i64 0, .int .i64 0]) ?_ 0 _ rfl; (with_reducible repeat (first | refine blk_drewN ?_ _ | refine blk_drew ?_ | refine blk_alloc ?_ _)); exact BK249.out) Try.underlying28 rfl (by kernel_rfl) rfl (by (with_reducible repeat (first | refine blk_drewN ?_ _ | refine blk_drew ?_ | refine blk_alloc ?_ _)); refine blk_put (cs := #[.int .i64 (wrap64 (a0_0 + (wrap64 (Int.tdiv t251 2)))), .int .i64 0]) ?_ 1 _ rfl; (with_reducible repeat (first | refine blk_drewN ?_ _ | refine blk_drew ?_ | refine blk_alloc ?_ _)); refine blk_put (cs := #[.int .i64 0, .int .i64 0]) ?_ 0 _ rfl; (with_reducible repeat (first | refine blk_drewN ?_ _ | refine blk_drew ?_ | refine blk_alloc ?_ _)); refine blk_far ?_ NB250_249.out _; (with_reducible repeat (first | refine blk_drewN ?_ _ | refine blk_drew ?_ | refine blk_alloc ?_ _)); refine blk_far ?_ NB250_249.out _; (with_reducible repeat (first | refine blk_drewN ?_ _ | refine blk_drew ?_ | refine blk_alloc ?_ _)); exact BK250.out) Try.underlying28 rfl (by kernel_rfl)) rfl ?_
 exact ⟨by first | rfl | (simp [errW_none, errW_some] <;> rfl) | (simp [*, errW_none, errW_some] <;> rfl), by repeat (first | (with_reducible first | exact HB.out | apply below_alloc | apply pw_below_drewN | apply below_drew1 | refine below_set ?_ GE248.out | refine below_set ?_ GE249.out | refine below_set ?_ GE250.out) | exact HB.out)⟩

end Go.Proofs.Ytjepmdngbafonaa.QFnAggregate
