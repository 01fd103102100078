/- Contracts of functions that the law reaches: what each call returns and what it leaves in memory. Made by this session over the print of the kit. -/
import Derived.Test.YtflfbaofgfandaaQFnExactPutRoutex0
namespace Go.Proofs.Ytflfbaofgfandaa.QFnExactPutRoute
open Go.RowKit Go.Proofs.YtflfbaofgfandaaP.PrintWords Go.Proofs.YtflfbaofgfandaaP.PrintLast Go.Proofs.YtflfbaofgfandaaP.PrintMore
attribute [local go_sem] max2_int min2_int max_two min_two max_three min_three max_four min_four   -- for this text's walks alone
set_option linter.unusedVariables false
set_option linter.unusedSimpArgs false
def ba11_0 : Array Bool := #[false, false, false, false, false, false, false, false, false, false, false, false, false, false, false, false]
def ba11_1 : Array Bool := #[true, false, false, false, false, false, false, false, false, false, false, false, false, false, false, false]
def ba11_2 : Array Bool := #[true, true, false, false, false, false, false, false, false, false, false, false, false, false, false, false]
def ba11_3 : Array Bool := #[true, true, true, false, false, false, false, false, false, false, false, false, false, false, false, false]
def ba11_4 : Array Bool := #[true, true, true, true, false, false, false, false, false, false, false, false, false, false, false, false]
def ba11_5 : Array Bool := #[true, true, true, true, true, false, false, false, false, false, false, false, false, false, false, false]
def ba11_6 : Array Bool := #[true, true, true, true, true, true, false, false, false, false, false, false, false, false, false, false]
def ba11_7 : Array Bool := #[true, true, true, true, true, true, true, false, false, false, false, false, false, false, false, false]
def ba11_8 : Array Bool := #[true, true, true, true, true, true, true, false, true, false, false, false, false, false, false, false]
def ba11_9 : Array Bool := #[true, true, true, true, true, true, true, false, true, true, false, false, false, false, false, false]
def ba11_10 : Array Bool := #[true, true, true, true, true, true, true, false, true, true, true, false, false, false, false, false]
def ba11_11 : Array Bool := #[true, true, true, true, true, true, true, true, true, true, true, false, false, false, false, false]
def ba11_12 : Array Bool := #[true, true, true, true, true, true, true, true, true, true, true, true, false, false, false, false]
def ba11_13 : Array Bool := #[true, true, true, true, true, true, true, true, true, true, true, true, true, false, false, false]
def ba11_14 : Array Bool := #[true, true, true, true, true, true, true, true, true, true, true, true, true, true, false, false]
def ba11_15 : Array Bool := #[true, true, true, true, true, true, true, true, true, true, true, true, true, true, true, false]
def ba11_16 : Array Bool := #[true, true, true, true, true, true, true, true, true, true, true, true, true, true, true, true]

/-! ### slices_Insert_impl_Route_impl_Route: function 39 -/
section
open Go.Lib
variable {P : Program} {α : Type}
theorem ins_copy {W : World} (t ty e : TypeId) (i0 : TypeInfo) (ht : P.underlying t = some (.slice e)) (hi : P.info? e = some i0) (b o m1 c1 : Nat) (a : Addr) (m2 c2 k : Nat) (cs : List Value) (hk : Nat.min m2 m1 = k) (hn : cs.length = k * i0.size)
  (hsrc : ∀ j v, cs[j]? = some v → W.cell? (a.add j) = some v) (hc : ∀ j, j < cs.length → (W.cell? ⟨b, o + j, none⟩).isSome = true) (hf : ∀ j, j < cs.length → W.frozen? ⟨b, o + j, none⟩ = false) (h1 : ∀ v ∈ cs, v.oneCell' = true) :
  (Builtin.copy_ #[t, t] ty #[.slice (some ⟨b, o, none⟩) m1 c1, .slice (some a) m2 c2]).run P W = .ok (goInt k) (W.setCells b o cs) := by
 have hl := run_firstCells_some (P := P) W i0.size k a m2 c2 cs hn hsrc
 have hst := run_storeCells_cells (P := P) b o cs 0 W (by simpa using hc) (by simpa using hf) h1
 simp only [Nat.add_zero] at hst
 simp [Builtin.copy_, run_underlying ht, Builtin.lenOf, sizeOf, typeInfo, hi, hk, hl, hst]
theorem ins_one {d : Kd α} {W : World} {base : Nat} {ok : Nat → Prop} {ys : List α} {vs : List Value} (hs0 : 0 < d.sz) (h : Reps (d.M W base ok) d.sz ys vs) : ∀ u ∈ vs, u.oneCell' = true := by
 intro u hu
 obtain ⟨q, hq, rfl⟩ := List.mem_iff_getElem.1 hu
 have hql : q / d.sz < ys.length := by
  rw [Nat.div_lt_iff_lt_mul hs0, ← h.1]
  exact hq
 refine d.K_one (d.K_of_M (h.2 (q / d.sz) _ (List.getElem?_eq_getElem hql))) _ ?_
 rw [List.mem_iff_getElem?]
 refine ⟨q % d.sz, ?_⟩
 rw [List.getElem?_take, if_pos (Nat.mod_lt _ hs0), List.getElem?_drop, Nat.mul_comm, Nat.div_add_mod, List.getElem?_eq_getElem hq]
theorem ins_cells {d : Kd α} {W : World} {base e g n c : Nat} {xs : List α} {ok : Nat → Prop} (HO : d.R e W base ok (.slice (some ⟨g, 0, none⟩) n c) xs) :
  ∃ inner cur, Reps (d.M W base (fun k => ok k ∧ k ≠ g)) d.sz xs inner ∧ W.heap[g]? = some (.cells cur e (0, 0)) ∧ cur.size = c * d.sz ∧ cur.toList.take (n * d.sz) = inner ∧ n = xs.length ∧ n ≤ c ∧ c ≤ maxLen ∧ base ≤ g ∧ ok g ∧ ∀ j v, inner[j]? = some v → W.cell? ⟨g, j, none⟩ = some v := by
 obtain ⟨hn, hnc, _⟩ := Kd.R_reads' HO
 obtain ⟨hok, inner, hown, hr⟩ := HO
 rcases hown.2 with ⟨hv, _⟩ | ⟨g', cap', cur, hv, hb, hh, h9, hcm, hcs, htake⟩
 ·cases hv
 injection hv with ha _ hc
 injection ha with ha
 injection ha with hg
 subst hg; subst hc
 rw [← hn] at htake
 refine ⟨inner, cur, hr.imp_ (fun p q hp => d.M_mono (fun k hk => ⟨hk.1, fun e => hk.2 (by simp [Value.ownBlock, e])⟩) hp), hh, hcs, htake, hn, hnc, hcm, hb, hok _ (by simp [Value.ownBlock]), fun j v hj => ?_⟩
 rw [cell_of_row W g j cur e (0, 0) hh, ← Array.getElem?_toList]
 rw [← htake, List.getElem?_take] at hj
 split at hj
 ·exact hj
 ·cases hj
theorem ins_form {d : Kd α} {W : World} {base e : Nat} {v : Value} {xs : List α} {ok : Nat → Prop} (HO : d.R e W base ok v xs) : (v = .slice none 0 0 ∧ xs = []) ∨ ∃ g c, v = .slice (some ⟨g, 0, none⟩) xs.length c ∧ xs.length ≤ c := by
 obtain ⟨hok, inner, hown, hr⟩ := HO
 rcases hown.2 with ⟨hv, h0⟩ | ⟨g', cap', cur, hv, hb, hh, h9, hcm, hcs, htake⟩
 ·exact .inl ⟨hv, List.eq_nil_of_length_eq_zero h0⟩
 ·exact .inr ⟨g', cap', hv, h9⟩
theorem ins_put {d : Kd α} {W : World} {base e g n c j : Nat} {xs ys : List α} {vs : List Value} {ok : Nat → Prop} (HO : d.R e W base ok (.slice (some ⟨g, 0, none⟩) n c) xs) (hv : Reps (d.M W base (fun k => ok k ∧ k ≠ g)) d.sz ys vs) (hj : j ≤ n) (hc : j + ys.length ≤ c) (m : Nat) (hm : m = max n (j + ys.length)) :
  d.R e (W.setCells g (j * d.sz) vs) base ok (.slice (some ⟨g, 0, none⟩) m c) (xs.take j ++ (ys ++ xs.drop (j + ys.length))) ∧ W.grownBy (W.setCells g (j * d.sz) vs) (some g) := by
 obtain ⟨inner, cur, hr, hh, hcs, htake, hn, hnc, hcm, hb, hok, _⟩ := ins_cells HO
 obtain ⟨l, hl⟩ : ∃ l, l = ys.length := ⟨_, rfl⟩
 have hvl : vs.length = l * d.sz := by rw [hv.1, hl]
 rw [← hl] at hc hm ⊢
 have hin : inner.length = n * d.sz := by rw [hr.1, hn]
 have e1 : j * d.sz + l * d.sz = (j + l) * d.sz := (Nat.add_mul _ _ _).symm
 have hjn : j * d.sz ≤ n * d.sz := Nat.mul_le_mul_right _ hj
 have hfit : j * d.sz + vs.length ≤ cur.size := by
  rw [hvl, hcs, e1]
  exact Nat.mul_le_mul_right _ hc
 obtain ⟨cur', h3, h4, h5⟩ := setCells_row vs (j * d.sz) W cur hh hfit
 obtain ⟨s1, s2, s3, s4⟩ := setCells_same g vs (j * d.sz) W
 have hfar : ∀ k', k' ≠ g → (W.setCells g (j * d.sz) vs).heap[k']? = W.heap[k']? := fun k' hk' => setCells_far vs _ k' hk'
 have hml : (xs.take j ++ (ys ++ xs.drop (j + l))).length = m := by
  simp only [List.length_append, List.length_take, List.length_drop, ← hl, ← hn]
  omega
 have hmv : ∀ p q, d.M W base (fun k' => ok k' ∧ k' ≠ g) p q → d.M (W.setCells g (j * d.sz) vs) base (fun k' => ok k' ∧ some k' ≠ (Value.slice (some ⟨g, 0, none⟩) m c).ownBlock) p q := fun p q hp =>
  d.M_mono (fun k' hk' => ⟨hk'.1, fun he => hk'.2 (by simpa [Value.ownBlock] using he)⟩) (d.M_move (fun k' hk' => hfar k' hk'.2) hp)
 have hreps : Reps (d.M W base (fun k => ok k ∧ k ≠ g)) d.sz (xs.take j ++ (ys ++ xs.drop (j + l))) (inner.take (j * d.sz) ++ (vs ++ inner.drop ((j + l) * d.sz))) :=
  Kd.reps_append (Kd.reps_take hr (by omega)) (Kd.reps_append hv (Kd.reps_drop hr))
 refine ⟨⟨fun k' hk' => ?_, _, ⟨by rw [hreps.1], .inr ⟨g, c, cur', by rw [hml], hb, h3, by rw [hml]; omega, hcm, by rw [h4, hcs], ?_⟩⟩, hreps.imp_ hmv⟩, ⟨s1, s2, s3, by rw [s4]; exact Nat.le_refl _, fun k' _ hk' => hfar k' (fun he => hk' (by rw [he]))⟩⟩
 ·have : g = k' := by simpa [Value.ownBlock] using hk'
  rw [← this]; exact hok
 ·rw [hml, h5, ← htake, hvl, e1, List.take_take, Nat.min_eq_left hjn, List.append_assoc]
  rcases Nat.le_total (j + l) n with hle | hle
  ·have hm' : m = n := by omega
   have h7 : (j + l) * d.sz ≤ n * d.sz := Nat.mul_le_mul_right _ hle
   have h8 : (cur.toList.take (j * d.sz)).length = j * d.sz := by
    rw [List.length_take, Array.length_toList, hcs]
    have := Nat.mul_le_mul_right d.sz hnc
    omega
   rw [hm', List.take_append, List.take_of_length_le (l := cur.toList.take (j * d.sz)) (by omega), List.take_append, List.take_of_length_le (l := vs) (by rw [h8, hvl]; omega), h8, hvl, List.drop_take]
   congr 3
   omega
  ·have hm' : m = j + l := by omega
   have h7 : n * d.sz ≤ (j + l) * d.sz := Nat.mul_le_mul_right _ hle
   have h8 : (cur.toList.take (j * d.sz)).length = j * d.sz := by
    rw [List.length_take, Array.length_toList, hcs]
    have := Nat.mul_le_mul_right d.sz hnc
    omega
   rw [hm', List.drop_of_length_le (l := cur.toList.take (n * d.sz)) (by rw [List.length_take]; omega), List.append_nil, ← List.append_assoc]
   exact List.take_left' (by rw [List.length_append, h8, hvl, e1])
theorem ins_from {d : Kd α} {W : World} {base g n c j m1 c1 m2 c2 : Nat} (t ty e : TypeId) (i0 : TypeInfo) (ht : P.underlying t = some (.slice e)) (hi : P.info? e = some i0) (hsz : i0.size = d.sz) (hs0 : 0 < d.sz) {xs ys : List α} {vs : List Value} {a : Addr} {ok : Nat → Prop}
  (HO : d.R e W base ok (.slice (some ⟨g, 0, none⟩) n c) xs) (hv : Reps (d.M W base (fun k => ok k ∧ k ≠ g)) d.sz ys vs) (hsrc : ∀ j v, vs[j]? = some v → W.cell? (a.add j) = some v) (hmin : Nat.min m2 m1 = ys.length) (hj : j ≤ n) (hc : j + ys.length ≤ c) (m : Nat) (hm : m = max n (j + ys.length)) :
  ∃ w1, (Builtin.copy_ #[t, t] ty #[.slice (some ⟨g, j * d.sz, none⟩) m1 c1, .slice (some a) m2 c2]).run P W = .ok (goInt ys.length) w1 ∧ d.R e w1 base ok (.slice (some ⟨g, 0, none⟩) m c) (xs.take j ++ (ys ++ xs.drop (j + ys.length))) ∧ W.grownBy w1 (some g) := by
 obtain ⟨inner, cur, hr, hh, hcs, htake, hn, hnc, hcm, hb, hok, _⟩ := ins_cells HO
 have hfit : j * d.sz + vs.length ≤ cur.size := by
  rw [hv.1, hcs, ← Nat.add_mul]
  exact Nat.mul_le_mul_right _ hc
 exact ⟨_, ins_copy t ty e i0 ht hi g (j * d.sz) m1 c1 a m2 c2 ys.length vs hmin (by rw [hv.1, hsz]) hsrc (fun q hq => by rw [cell_of_row W g _ cur e (0, 0) hh]; simp; omega) (fun q _ => blk_frozen hh _) (ins_one hs0 hv), ins_put HO hv hj hc m hm⟩
theorem ins_make {d : Kd α} {W : World} {base g n c k : Nat} (t tn ty e : TypeId) (i0 : TypeInfo) (z : Value) (ht : P.underlying t = some (.slice e)) (htn : P.underlying tn = some (.int .i64)) (hi : P.info? e = some i0) (hz : i0.zero = some z) (hsz : i0.size = d.sz) (hs0 : 0 < d.sz) (hzs : z.cells.size = d.sz) (z0 : α)
  (hzM : ∀ W, d.M W base (fun _ => False) z0 z.cells.toList) {xs : List α} {ok : Nat → Prop} (HO : d.R e W base ok (.slice (some ⟨g, 0, none⟩) n c) xs) (hbase : base ≤ W.heap.size) (hk : k < n) (hroom : c < n + 1) (hb1 : n ≤ 1048576) (hb2 : i0.bytes ≤ 1048576) :
  ∃ w1 cap, (Builtin.append_ #[t, tn] ty #[.slice (some ⟨g, 0, none⟩) k c, .int .i64 ((n : Int) + 1 - (k : Int))]).run P W = .ok (.slice (some ⟨W.heap.size, 0, none⟩) (n + 1) cap) w1 ∧ n + 1 ≤ cap ∧ cap ≤ 9223372036854775807 ∧ d.R e w1 base (fun k => ok k ∨ W.heap.size ≤ k) (.slice (some ⟨W.heap.size, 0, none⟩) (n + 1) cap) (xs.take k ++ List.replicate (n + 1 - k) z0) ∧ W.grownBy w1 none := by
 obtain ⟨inner, cur, hr, hh, hcs, htake, hn, hnc, hcm, hb, hok, hcell⟩ := ins_cells HO
 have hik : k + (n + 1 - k) = n + 1 := by omega
 have hkk : (n : Int) + 1 - (k : Int) = ((n + 1 - k : Nat) : Int) := by omega
 have hbig : (n + 1) * i0.bytes ≤ 140737488355328 := Nat.le_trans (Nat.mul_le_mul (show n + 1 ≤ 1048577 by omega) hb2) (by decide)
 have hbk : (n + 1 - k) * i0.bytes ≤ 281474976710656 := Nat.le_trans (Nat.mul_le_mul (show n + 1 - k ≤ 1048577 by omega) hb2) (by decide)
 have hrk := Kd.reps_take hr (m := k) (by omega)
 have hold : (Builtin.firstCells i0.size k (.slice (some ⟨g, 0, none⟩) k c)).run P W.drew = .ok (inner.take (k * d.sz)).toArray W.drew := by
  refine run_firstCells_some W.drew i0.size k ⟨g, 0, none⟩ k c _ (by rw [hsz, hrk.1, List.length_take]; congr 1; omega) (fun j v hj => ?_)
  rw [Addr.add_lit, Nat.zero_add]
  rw [List.getElem?_take] at hj
  split at hj
  ·exact hcell j v hj
  ·cases hj
 have h := Lib.run_append_grow_zeros (P := P) W t tn ty e i0 z .i64 .i64 ht htn hi hz (some ⟨g, 0, none⟩) k c _ hold (n + 1 - k) (by omega) (by omega) (by omega) (by omega) hbk (by rw [hik]; exact growslice_fits hroom hbig)
 rw [hik, ← hkk] at h
 have hGn : n + 1 ≤ grownCap W (n + 1) c e := grownCap_ge W _ _ _
 have hGm : grownCap W (n + 1) c e ≤ maxLen := grownCap_le_maxLen W (n + 1) c e (by unfold maxLen; omega)
 generalize grownCap W (n + 1) c e = G at h hGn hGm
 have hgr : W.grownBy (W.drew.alloc (.cells ((inner.take (k * d.sz)).toArray ++ Builtin.zeroCells z.cells (n + 1 - k) ++ Builtin.zeroCells z.cells (G - (n + 1))) e)) none := ⟨rfl, rfl, rfl, by simp, fun k hk hn => (World.grownBy_alloc W.drew _ none).block k hk hn⟩
 have hnew : (W.drew.alloc (.cells ((inner.take (k * d.sz)).toArray ++ Builtin.zeroCells z.cells (n + 1 - k) ++ Builtin.zeroCells z.cells (G - (n + 1))) e)).heap[W.heap.size]? = some (.cells ((inner.take (k * d.sz)).toArray ++ Builtin.zeroCells z.cells (n + 1 - k) ++ Builtin.zeroCells z.cells (G - (n + 1))) e (0, 0)) := heap_alloc_new W.drew _
 generalize W.drew.alloc (.cells ((inner.take (k * d.sz)).toArray ++ Builtin.zeroCells z.cells (n + 1 - k) ++ Builtin.zeroCells z.cells (G - (n + 1))) e) = w1 at h hgr hnew
 refine ⟨w1, G, h, hGn, by unfold maxLen at hGm; omega, ?_, hgr⟩
 have hkl : (inner.take (k * d.sz)).length = k * d.sz := by rw [hrk.1, List.length_take]; congr 1; omega
 have hreps : Reps (d.M w1 base (fun k' => (ok k' ∨ W.heap.size ≤ k') ∧ some k' ≠ (Value.slice (some ⟨W.heap.size, 0, none⟩) (n + 1) G).ownBlock)) d.sz (xs.take k ++ List.replicate (n + 1 - k) z0) (inner.take (k * d.sz) ++ (Builtin.zeroCells z.cells (n + 1 - k)).toList) := by
  refine Kd.reps_append (hrk.imp_ (fun p q hp => ?_)) ((Kd.reps_zeros hzs hs0 (hzM w1) (n + 1 - k)).imp_ (fun p q hp => d.M_mono (fun _ h => h.elim) hp))
  have h1 := d.M_move (w1 := w1) (fun k' hk' => hgr.block k' hk'.2.2.1 (by simp)) (d.M_bound hp)
  exact d.M_mono (fun k' hk' => ⟨.inl hk'.1.1, fun he => by simp [Value.ownBlock] at he; have := hk'.2.2.1; omega⟩) h1
 have hll : (xs.take k ++ List.replicate (n + 1 - k) z0).length = n + 1 := by
  rw [List.length_append, List.length_take, List.length_replicate]; omega
 refine ⟨fun k' hk' => .inr ?_, _, ⟨hreps.1, .inr ⟨W.heap.size, G, _, by rw [hll], hbase, hnew, by rw [hll]; exact hGn, hGm, ?_, ?_⟩⟩, hreps⟩
 ·have : W.heap.size = k' := by simpa [Value.ownBlock] using hk'
  omega
 ·rw [Array.size_append, Array.size_append, size_zeroCells, size_zeroCells, hzs, List.size_toArray, hkl, ← Nat.add_mul, ← Nat.add_mul]
  congr 1
  omega
 ·rw [hll, Array.toList_append, Array.toList_append]
  exact List.take_left' (by rw [List.length_append, hkl, Array.length_toList, size_zeroCells, hzs, ← Nat.add_mul, hik])
end
def slices_Insert_impl_Route_impl_Route.f (l0 : List S43) (a1 : Int) (l2 : List S43) : Option (List S43) := if 0 ≤ a1 then (if a1 ≤ (l0.length : Int) then (if l0.length ≤ 1048576 then (if l2.length = 1 then some (l0.take (a1 : Int).toNat ++ (l2 ++ l0.drop (a1 : Int).toNat)) else none) else none) else none) else none
section
open Go.Lib
theorem ins_step {P : Program} {ops : Array Oper} {o : Oper} {a : Act} {w : World} {K : Act → World → Prop} {Q : Exit → Act → World → Prop} {E : Prop}
  (hg : o.guard = none) (d x : Operand) (dT sT : TypeId) (hop : o.op = Op.call { callee := Callee.builtin Builtin.copy, args := #[d, x], argTypes := #[dT, sT] })
  (v u : Value) (hd : a.eval d = v) (hx : a.eval x = u) {v' : Value} {w' : World} (hr : (Builtin.copy_ #[dT, sT] o.type #[v, u]).run P w = .ok v' w') (hK : K (a.put o.dst v') w') :
  if Region.wanted o (yielded ops a.tmps) = true then Oper.wp P o a w K Q else E := by
 have hw : Region.wanted o (yielded ops a.tmps) = true := by simp [Region.wanted, hg]
 rw [if_pos hw]
 unfold Oper.wp
 simp [execOp, hop, resolve, invoke, builtin, hd, hx, hr, Result.andThen]
 exact hK
theorem ins_plain {P : Program} (w : World) {ops : Array Oper} {rest : List Oper} {o : Oper} {a : Act} {Q : Exit → Act → World → Prop} (hgd : o.guard = none) (d s : Operand) (t t' : TypeId)
  (ho : o.op = .call { callee := .builtin .copy, args := #[d, s], argTypes := #[t, t'] }) (v u : Value) (hd : a.eval d = v) (hs : a.eval s = u) {v' : Value} {w' : World}
  (hr : (Builtin.copy_ #[t, t'] o.type #[v, u]).run P w = .ok v' w') (h : wpList P ops Q rest (a.put o.dst v') w') : wpList P ops Q (o :: rest) a w :=
 wpList_plain hgd fun _ hK => by
  unfold Oper.wp execOp
  simp only [ho, resolve, invoke, builtin, Sem.run_bind, Sem.run_pure, Result.andThen_ok, List.map_toArray, List.map_cons, List.map_nil, hd, hs, hr]
  exact hK _ _ h
end
set_option maxHeartbeats 4000000 in
set_option maxRecDepth 100000 in
theorem slices_Insert_impl_Route_impl_Route.calls (P0_ : Nat → Prop) (u9000_ : Value) (l0 : List S43) (a1 : Int) (P2_ : Nat → Prop) (u9002_ : Value) (l2 : List S43) (r : List S43) (w0 w : World) (hB : Below w0.heap.size w0 w) (ho0 : Kd.R k43 43 w w0.heap.size P0_ u9000_ l0) (hp0_2 : ∀ k_, P0_ k_ → ¬ P2_ k_) (ho2 : Kd.R k43 43 w w0.heap.size P2_ u9002_ l2) (hp2_0 : ∀ k_, P2_ k_ → ¬ P0_ k_) (h : slices_Insert_impl_Route_impl_Route.f l0 a1 l2 = some r) :
  Calls Try.prog 39 #[u9000_, .int .i64 a1, u9002_] w fun e w' => ∃ v0_ : Value, e = .returned (v0_) ∧ Kd.R k43 43 w' w0.heap.size (fun k_ => ((P0_ k_ ∨ P2_ k_) ∨ w.heap.size ≤ k_)) v0_ r ∧ Below w0.heap.size w0 w' ∧ Kept w w' (fun k_ => (P0_ k_ ∨ P2_ k_)) := by
 unfold slices_Insert_impl_Route_impl_Route.f at h
 by_cases c1 : 0 ≤ a1
 rotate_left
 ·rw [if_neg c1] at h; cases h
 rw [if_pos c1] at h
 by_cases c2 : a1 ≤ (l0.length : Int)
 rotate_left
 ·rw [if_neg c2] at h; cases h
 rw [if_pos c2] at h
 by_cases c3 : l0.length ≤ 1048576
 rotate_left
 ·rw [if_neg c3] at h; cases h
 rw [if_pos c3] at h
 by_cases c4 : l2.length = 1
 rotate_left
 ·rw [if_neg c4] at h; cases h
 rw [if_pos c4] at h
 obtain rfl := Option.some.inj h
 clear h
 obtain ⟨i, rfl⟩ := Int.eq_ofNat_of_zero_le c1
 clear c1
 have hiN : i ≤ l0.length := by omega
 obtain ⟨x, rfl⟩ := List.length_eq_one_iff.1 c4
 obtain ⟨g2, cp2, e2, gb2, gl2, cl2, HG2⟩ := Kd.R_form ho2 (by simp)
 subst e2
 have hP2 := ho2.1 g2 (by simp [Value.ownBlock])
 obtain ⟨in2, cur2, hr2, hh2, hcs2, htk2, -, hnc2, hcm2, -, -, hcell2⟩ := ins_cells ho2
 have hK : ∀ {W : World}, Kept w W (fun k_ => (P0_ k_ ∨ P2_ k_)) → Kept w W (fun k_ => (P0_ k_ ∨ P2_ k_)) := fun h => h
 have hM2 : ∀ (W : World) (b : Nat) (ok : Nat → Prop) p q, (k43).M w w0.heap.size (fun k => P2_ k ∧ k ≠ g2) p q → (k43).M W b ok p q := fun W b ok p q hp => by
  obtain rfl := k43_openM hp
  exact k43_mkM W b ok p
 have hM0 : ∀ {p q}, (k43).K w p q → (k43).M w w0.heap.size (fun _ => False) p q := fun {p q} hp => by
  obtain rfl := k43_open hp
  exact k43_mkM w w0.heap.size _ p
 have hok0 := ho0.1
 have HB := Aside0.mk hB
 have HO0 := Aside0.mk ho0
 have HO2 := Aside0.mk ho2
 have HW0 := Aside0.mk hB.size
 rcases ins_form ho0 with ⟨e0, e1⟩ | ⟨g, c, e0, hnc⟩
 ·subst e0
  subst e1
  obtain rfl : i = 0 := by simpa using hiN
  clear ho0 ho2 hB
  have ez : ((0 : Nat) : Int) = 0 := rfl
  simp only [ez]
  go_enter Try.func39, Try.ntmps39
  go_wp2_with (first | ((with_reducible refine gate_builtin (b := .append) (xs := #[.tmp 23, .tmp 24]) rfl ?_); at_builtin; refine Kd.R_append_rows k43 (w0 := w0) w0.heap.size rfl (.tmp 23) (.tmp 24) 28 43 (.agg #[(.int .i64 0), (.int .i64 0), (.int .i64 0)]) 24 rfl Try.underlying28 info43 rfl (by decide) (by omega) (.slice none 0 0) [] [x] _ _ _ (fun k_ => ((P0_ k_ ∨ P2_ k_) ∨ w.heap.size ≤ k_)) (fun _ => False) rfl rfl ?aO ?aR (fun _ _ h => hM0 h) (fun _ h => h.elim) ?aF ?aB ?aS ?aL ?_; (case aO => exact Kd.R_mono HO0.out (fun _ h => .inl (.inl h))); (case aR => exact (Kd.R_reads' HO2.out).2.2); (case aF => exact (fun _ h => .inr h)); (case aB => exact HB.out); (case aS => exact HW0.out); (case aL => first | omega | (have := HL.out; simp; omega) | (simp; done)); intro v1 w1 ho1 hb1 hg hat; have HO1 := Aside0.mk ho1; have HB1 := Aside0.mk hb1; have HG1 := Aside0.mk hg; clear ho1 hb1 hg hat))
  go_ret
  refine ⟨_, rfl, HO1.out, HB1.out, ?_⟩
  exact Kept.of_grown (S := (fun k_ => (P0_ k_ ∨ P2_ k_))) HG1.out (Kept.refl w _) (fun k_ e_ => .inl (.inl (hok0 k_ e_)))
 subst e0
 obtain ⟨n, hL⟩ : ∃ n, n = l0.length := ⟨_, rfl⟩
 rw [← hL] at c2 c3 hiN hnc HO0 hok0 ⊢
 rw [← hL] at ho0
 by_cases ci : i = n
 ·subst ci
  have q0 : (i ≤ c) = True := eq_true hnc
  have hlr : (l0.take (((i : Nat) : Int)).toNat ++ ([x] ++ l0.drop (((i : Nat) : Int)).toNat)) = l0 ++ [x] := by
   rw [Int.toNat_natCast, hL, List.take_length, List.drop_length, List.append_nil]
  rw [hlr]
  have HL := Aside0.mk hL
  clear ho0 ho2 hB hlr hL
  by_cases cc : c = i
  ·subst cc
   go_enter Try.func39, Try.ntmps39
   go_wp2_with (first | ((with_reducible refine gate_builtin (b := .append) (xs := #[.tmp 23, .tmp 24]) rfl ?_); at_builtin; refine Kd.R_append_rows k43 (w0 := w0) w0.heap.size rfl (.tmp 23) (.tmp 24) 28 43 (.agg #[(.int .i64 0), (.int .i64 0), (.int .i64 0)]) 24 rfl Try.underlying28 info43 rfl (by decide) (by omega) (.slice (some ⟨g, 0, none⟩) c c) l0 [x] _ _ _ (fun k_ => ((P0_ k_ ∨ P2_ k_) ∨ w.heap.size ≤ k_)) (fun _ => False) rfl rfl ?aO ?aR (fun _ _ h => hM0 h) (fun _ h => h.elim) ?aF ?aB ?aS ?aL ?_; (case aO => exact Kd.R_mono HO0.out (fun _ h => .inl (.inl h))); (case aR => exact (Kd.R_reads' HO2.out).2.2); (case aF => exact (fun _ h => .inr h)); (case aB => exact HB.out); (case aS => exact HW0.out); (case aL => first | omega | (have := HL.out; simp; omega) | (simp; done)); intro v1 w1 ho1 hb1 hg hat; have HO1 := Aside0.mk ho1; have HB1 := Aside0.mk hb1; have HG1 := Aside0.mk hg; clear ho1 hb1 hg hat))
   go_ret
   refine ⟨_, rfl, HO1.out, HB1.out, ?_⟩
   exact Kept.of_grown (S := (fun k_ => (P0_ k_ ∨ P2_ k_))) HG1.out (Kept.refl w _) (fun k_ e_ => .inl (.inl (hok0 k_ e_)))
  ·have cc1 : (c = i) = False := eq_false cc
   go_enter Try.func39, Try.ntmps39
   go_wp2_with (first | ((with_reducible refine gate_builtin (b := .append) (xs := #[.tmp 23, .tmp 24]) rfl ?_); at_builtin; refine Kd.R_append_rows k43 (w0 := w0) w0.heap.size rfl (.tmp 23) (.tmp 24) 28 43 (.agg #[(.int .i64 0), (.int .i64 0), (.int .i64 0)]) 24 rfl Try.underlying28 info43 rfl (by decide) (by omega) (.slice (some ⟨g, 0, none⟩) i c) l0 [x] _ _ _ (fun k_ => ((P0_ k_ ∨ P2_ k_) ∨ w.heap.size ≤ k_)) (fun _ => False) rfl rfl ?aO ?aR (fun _ _ h => hM0 h) (fun _ h => h.elim) ?aF ?aB ?aS ?aL ?_; (case aO => exact Kd.R_mono HO0.out (fun _ h => .inl (.inl h))); (case aR => exact (Kd.R_reads' HO2.out).2.2); (case aF => exact (fun _ h => .inr h)); (case aB => exact HB.out); (case aS => exact HW0.out); (case aL => first | omega | (have := HL.out; simp; omega) | (simp; done)); intro v1 w1 ho1 hb1 hg hat; have HO1 := Aside0.mk ho1; have HB1 := Aside0.mk hb1; have HG1 := Aside0.mk hg; clear ho1 hb1 hg hat))
   go_ret
   refine ⟨_, rfl, HO1.out, HB1.out, ?_⟩
   exact Kept.of_grown (S := (fun k_ => (P0_ k_ ∨ P2_ k_))) HG1.out (Kept.refl w _) (fun k_ e_ => .inl (.inl (hok0 k_ e_)))
 have hlt : i < n := by omega
 have HL := Aside0.mk hL
 obtain ⟨in0, cur0, hr0, hh0, hcs0, htk0, -, -, hcm0, gb0, hg0, hcell0⟩ := ins_cells ho0
 have hgN : g < w.heap.size := blk_lt hh0
 have hne : g2 ≠ g := fun e => hp0_2 g (by rw [← e]; rw [e]; exact hg0) (by rw [← e]; exact hP2)
 have hsz3 : (k43).sz = 3 := rfl
 obtain ⟨i0, hi0, hiz⟩ := Option.map_eq_some_iff.1 info43
 simp only [Prod.mk.injEq] at hiz
 obtain ⟨hz0, hzs, hzb⟩ := hiz
 have hMM : ∀ {W W' : World} {b b' : Nat} {ok ok' : Nat → Prop} (p q), (k43).M W b ok p q → (k43).M W' b' ok' p q := fun {W W' b b' ok ok'} p q hp => by
  obtain rfl := k43_openM hp
  exact k43_mkM W' b' ok' p
 have hdl : (l0.drop i).length = n - i := by rw [List.length_drop, ← hL]
 have hrd : Reps ((k43).M w w0.heap.size (fun k => P0_ k ∧ k ≠ g)) 3 (l0.drop i) (in0.drop (i * 3)) := Kd.reps_drop hr0
 have hfin : ∀ A : List S43, A = l0.take i ++ ([x] ++ l0.drop i) → A = l0.take (((i : Nat) : Int)).toNat ++ ([x] ++ l0.drop (((i : Nat) : Int)).toNat) := fun A h => by rw [Int.toNat_natCast]; exact h
 have q1 : ¬ (((i : Nat) : Int) = ((n : Nat) : Int)) := by omega
 have q2 : (((i : Nat) : Int) == ((n : Nat) : Int)) = false := beq_eq_false_iff_ne.mpr q1
 have q3 : (i ≤ n) = True := eq_true hiN
 have q6 : IntKind.i64.wrap ((n : Int) + 1) = (n : Int) + 1 := by rw [IntKind.wrap_i64]; omega
 have q7 : IntKind.i64.wrap ((i : Int) + 1) = (i : Int) + 1 := by rw [IntKind.wrap_i64]; omega
 have q8 : ((i : Int) + 1).toNat = i + 1 := by omega
 have q9 : (c = i) = False := eq_false (by omega)
 by_cases croom : n + 1 ≤ c
 ·have hov : ∀ lb cb, (callFunc 58 #[.slice (some ⟨g2, 0, none⟩) 1 cp2, .slice (some ⟨g, (i + 1) * 3, none⟩) lb cb]).run Try.prog w = .ok (.value (.bool false)) w := fun lb cb => by
   rw [run_callFunc_extern Try.func58 (by kernel_rfl) (by kernel_rfl) (by kernel_rfl) (e := Extern.SlicesOverlaps.overlaps #[28, 28] #[4]) (by kernel_rfl),
    Lib.run_overlaps_apart w 28 4 43 Try.underlying28 3 (fun W => by simp [sizeOf, typeInfo, hi0, hzs]) ⟨g2, 0, none⟩ ⟨g, (i + 1) * 3, none⟩ 1 cp2 lb cb hne 43 43 cur2.size cur0.size (by simp [World.shape?, hh2]) (by simp [World.shape?, hh0]) (by rw [hcs0, hsz3]; omega) (blk_frozen hh2 _) (blk_frozen hh2 _)]
   rfl
  obtain ⟨w1, hr1, HR1, hg1⟩ := ins_from (d := k43) (P := Try.prog) (W := w.drew) (m1 := n + 1 - (i + 1)) (c1 := c - (i + 1)) (m2 := n + 1 - i) (c2 := c - i) (j := i + 1) 28 3 43 i0 Try.underlying28 hi0 hzs (by decide) (ys := l0.drop i) (vs := in0.drop (i * 3)) (a := ⟨g, i * 3, none⟩) (Kd.R_drew ho0) (hrd.imp_ hMM)
   (fun q v hq => by rw [Addr.add_lit]; exact hcell0 _ v (by rwa [List.getElem?_drop] at hq)) (by rw [hdl]; simp only [Nat.min_def]; split <;> omega) (by omega) (by rw [hdl]; omega) (n + 1) (by rw [hdl]; omega)
  have hg1' : w.grownBy w1 (some g) := ⟨hg1.os, hg1.tape, hg1.output, hg1.size, hg1.block⟩
  have hb2 : w1.heap[g2]? = some (.cells cur2 43 (0, 0)) := (hg1'.block g2 (blk_lt hh2) (by simpa using hne)).trans hh2
  have hcell2' : ∀ j v, in2[j]? = some v → w1.cell? ⟨g2, j, none⟩ = some v := fun j v hj => (World.cell?_of_block (hg1'.block g2 (blk_lt hh2) (by simpa using hne))).trans (hcell2 j v hj)
  obtain ⟨w2, hr2', HR2, hg2⟩ := ins_from (d := k43) (P := Try.prog) (W := w1) (m1 := n + 1 - i) (c1 := c - i) (m2 := 1) (c2 := cp2) (j := i) 28 3 43 i0 Try.underlying28 hi0 hzs (by decide) (ys := [x]) (vs := in2) (a := ⟨g2, 0, none⟩) HR1 (hr2.imp_ hMM)
   (fun q v hq => by rw [Addr.add_lit, Nat.zero_add]; exact hcell2' _ v hq) (by simp only [Nat.min_def, List.length_singleton]; split <;> omega) (by omega) (by simp; omega) (n + 1) (by simp; omega)
  have HR2' := Kd.R_mono (ok' := fun k_ => ((P0_ k_ ∨ P2_ k_) ∨ w.heap.size ≤ k_)) HR2 (fun _ h => .inl (.inl h))
  have HE : (l0.take (i + 1) ++ (l0.drop i ++ l0.drop (i + 1 + (l0.drop i).length))).take i ++ ([x] ++ (l0.take (i + 1) ++ (l0.drop i ++ l0.drop (i + 1 + (l0.drop i).length))).drop (i + ([x] : List S43).length)) = l0.take i ++ ([x] ++ l0.drop i) := by
   rw [hdl, List.length_singleton, List.drop_of_length_le (l := l0) (i := i + 1 + (n - i)) (by omega), List.append_nil, List.take_append_of_le_length (by rw [List.length_take]; omega), List.take_take, Nat.min_eq_left (by omega), List.drop_append_of_le_length (by rw [List.length_take]; omega), List.drop_of_length_le (l := l0.take (i + 1)) (by rw [List.length_take]; omega), List.nil_append]
  rw [HE] at HR2'
  rw [Int.toNat_natCast]
  have HBf : Below w0.heap.size w0 w2 := (hB.grown hg1' hB.size (fun k hk => by injection hk with hk; subst hk; exact gb0)).grown hg2 (Nat.le_trans hB.size hg1'.size) (fun k hk => by injection hk with hk; subst hk; exact gb0)
  have HKf : Kept w w2 (fun k_ => (P0_ k_ ∨ P2_ k_)) := Kept.of_grown (S := (fun k_ => (P0_ k_ ∨ P2_ k_))) hg2 (Kept.of_grown (S := (fun k_ => (P0_ k_ ∨ P2_ k_))) hg1' (Kept.refl w _) (fun k_ e_ => by injection e_ with e_; subst e_; exact .inl (.inl hg0))) (fun k_ e_ => by injection e_ with e_; subst e_; exact .inl (.inl hg0))
  simp only [hsz3, hdl, List.length_singleton] at hr1 hr2'
  have HF := Aside0.mk (And.intro HR2' (And.intro HBf HKf))
  have HL1 := Aside0.mk hlt
  clear HR2 HR2' HR1 HBf HKf hrd hr0 hr2 hcell0 hcell2 hcell2' hfin hMM hM0 hM2 hg1 hg1' hg2 hb2 hh0 hh2 ho0 ho2 hL HG2 HO0 HO2 hB HB htk0 htk2 hcs0 hcs2 hdl hp0_2 hp2_0 hK hok0
  have f1 : (n + 1 ≤ c) = True := eq_true croom
  have f2 : ¬ ((c : Int) < (n : Int) + 1) := by omega
  have f3 : (c = i + 1) = False := eq_false (by omega)
  have f4 : (i + 1 ≤ n + 1) = True := eq_true (by omega)
  have f5 : (i ≤ n + 1) = True := eq_true (by omega)
  have f6 : ((i : Int) ≤ (n : Int) + 1) = True := eq_true (by omega)
  have f7 : (0 ≤ (i : Int) + 1) = True := eq_true (by omega)
  have f8 : (0 ≤ (n : Int) + 1) = True := eq_true (by omega)
  have f9 : ((n : Int) + 1 ≤ (c : Int)) = True := eq_true (by omega)
  have f10 : ((n : Int) + 1).toNat = n + 1 := by omega
  go_enter Try.func39, Try.ntmps39
  go_wp2_with (simp only [hov])
  go_region_law (refine ins_step rfl _ _ 28 28 rfl _ _ (by simp [Act.eval, Act.put]) (by simp [Act.eval, Act.put]) hr1 ?_)
  go_wp2_with (at_builtin; refine ins_plain _ rfl _ _ 28 28 rfl _ _ rfl rfl hr2' ?_)
  go_ret
  exact ⟨_, rfl, HF.out.1, HF.out.2.1, HF.out.2.2⟩
 ·obtain ⟨w1, G, hrA, hGn, hG63, HR1, hg1⟩ := ins_make (d := k43) (P := Try.prog) (W := w) (k := i) 28 3 28 43 i0 _ Try.underlying28 Try.underlying3 hi0 hz0 hzs (by decide) rfl z43 (fun W => k43_mkM W _ _ z43) ho0 hB.size hlt (by omega) c3 (by rw [hzb]; decide)
  have hNg : w.heap.size ≠ g := by omega
  have hNg2 : g2 ≠ w.heap.size := by have := blk_lt hh2; omega
  have hcA2 : ∀ j v, in2[j]? = some v → w1.cell? ⟨g2, j, none⟩ = some v := fun j v hj => (World.cell?_of_block (hg1.block g2 (blk_lt hh2) (by simp))).trans (hcell2 j v hj)
  have hcA0 : ∀ j v, in0[j]? = some v → w1.cell? ⟨g, j, none⟩ = some v := fun j v hj => (World.cell?_of_block (hg1.block g hgN (by simp))).trans (hcell0 j v hj)
  have hg1s : g < w1.heap.size := Nat.lt_of_lt_of_le hgN hg1.size
  obtain ⟨w2, hr2', HR2, hg2⟩ := ins_from (d := k43) (P := Try.prog) (W := w1) (m1 := n + 1 - i) (c1 := G - i) (m2 := 1) (c2 := cp2) (j := i) 28 3 43 i0 Try.underlying28 hi0 hzs (by decide) (ys := [x]) (vs := in2) (a := ⟨g2, 0, none⟩) HR1 (hr2.imp_ hMM)
   (fun q v hq => by rw [Addr.add_lit, Nat.zero_add]; exact hcA2 _ v hq) (by simp only [Nat.min_def, List.length_singleton]; split <;> omega) (by omega) (by simp; omega) (n + 1) (by simp; omega)
  have hcB0 : ∀ j v, in0[j]? = some v → w2.cell? ⟨g, j, none⟩ = some v := fun j v hj => (World.cell?_of_block (hg2.block g hg1s (by simpa using fun e => hNg e.symm))).trans (hcA0 j v hj)
  obtain ⟨w3, hr3, HR3, hg3⟩ := ins_from (d := k43) (P := Try.prog) (W := w2.drew) (m1 := n + 1 - (i + 1)) (c1 := G - (i + 1)) (m2 := n - i) (c2 := c - i) (j := i + 1) 28 3 43 i0 Try.underlying28 hi0 hzs (by decide) (ys := l0.drop i) (vs := in0.drop (i * 3)) (a := ⟨g, i * 3, none⟩) (Kd.R_drew HR2) (hrd.imp_ hMM)
   (fun q v hq => by rw [Addr.add_lit]; exact hcB0 _ v (by rwa [List.getElem?_drop] at hq)) (by rw [hdl]; simp only [Nat.min_def]; split <;> omega) (by omega) (by rw [hdl]; omega) (n + 1) (by rw [hdl]; omega)
  have hg3' : w2.grownBy w3 (some w.heap.size) := ⟨hg3.os, hg3.tape, hg3.output, hg3.size, hg3.block⟩
  have HR3' := Kd.R_mono (ok' := fun k_ => ((P0_ k_ ∨ P2_ k_) ∨ w.heap.size ≤ k_)) HR3 (fun _ h => h.elim (fun z => .inl (.inl z)) .inr)
  have HE : (((l0.take i ++ List.replicate (n + 1 - i) z43).take i ++ ([x] ++ (l0.take i ++ List.replicate (n + 1 - i) z43).drop (i + ([x] : List S43).length))).take (i + 1) ++ (l0.drop i ++ ((l0.take i ++ List.replicate (n + 1 - i) z43).take i ++ ([x] ++ (l0.take i ++ List.replicate (n + 1 - i) z43).drop (i + ([x] : List S43).length))).drop (i + 1 + (l0.drop i).length))) = l0.take i ++ ([x] ++ l0.drop i) := by
   have ha : (l0.take i).length = i := by rw [List.length_take]; omega
   have hb : (l0.take i ++ List.replicate (n + 1 - i) z43).take i = l0.take i := List.take_left' ha
   rw [hb, ← List.append_assoc (l0.take i) [x], List.take_left' (by rw [List.length_append, ha, List.length_singleton]), List.drop_of_length_le (l := (l0.take i ++ [x]) ++ _) (by simp only [List.length_append, List.length_drop, List.length_take, List.length_replicate, List.length_singleton]; omega), List.append_nil, List.append_assoc]
  rw [HE] at HR3'
  rw [Int.toNat_natCast]
  have HBf : Below w0.heap.size w0 w3 := ((hB.grown hg1 hB.size (fun k hk => by cases hk)).grown hg2 (Nat.le_trans hB.size hg1.size) (fun k hk => by injection hk with hk; subst hk; exact hB.size)).grown hg3' (Nat.le_trans hB.size (Nat.le_trans hg1.size hg2.size)) (fun k hk => by injection hk with hk; subst hk; exact hB.size)
  have HKf : Kept w w3 (fun k_ => (P0_ k_ ∨ P2_ k_)) := Kept.of_grown (S := (fun k_ => (P0_ k_ ∨ P2_ k_))) hg3' (Kept.of_grown (S := (fun k_ => (P0_ k_ ∨ P2_ k_))) hg2 (Kept.of_grown (S := (fun k_ => (P0_ k_ ∨ P2_ k_))) hg1 (Kept.refl w _) (fun k_ e_ => by cases e_)) (fun k_ e_ => by injection e_ with e_; subst e_; exact .inr (Nat.le_refl _))) (fun k_ e_ => by injection e_ with e_; subst e_; exact .inr (Nat.le_refl _))
  simp only [hsz3, hdl, List.length_singleton] at hr2' hr3
  have HF := Aside0.mk (And.intro HR3' (And.intro HBf HKf))
  have HL1 := Aside0.mk hlt
  clear HR2 HR3 HR3' HR1 HBf HKf hrd hr0 hr2 hcell0 hcell2 hcA0 hcA2 hcB0 hfin hMM hM0 hM2 hg1 hg2 hg3 hg3' hh0 hh2 ho0 ho2 hL HG2 HO0 HO2 hB HB htk0 htk2 hcs0 hcs2 hdl hp0_2 hp2_0 hK hok0 HE hg1s
  have f2 : ((c : Int) < (n : Int) + 1) := by omega
  have f3 : (G = i) = False := eq_false (by omega)
  have f4 : (i + 1 ≤ n + 1) = True := eq_true (by omega)
  have f5 : (i ≤ n + 1) = True := eq_true (by omega)
  have f6 : ((i : Int) ≤ (n : Int) + 1) = True := eq_true (by omega)
  have f7 : (0 ≤ (i : Int) + 1) = True := eq_true (by omega)
  have f9 : (G = i + 1) = False := eq_false (by omega)
  have f10 : (i ≤ c) = True := eq_true (by omega)
  have f11 : ((i : Int) ≤ (n : Int)) = True := eq_true (by omega)
  have f12 : IntKind.i64.wrap ((n : Int) + 1 - (i : Int)) = (n : Int) + 1 - (i : Int) := by rw [IntKind.wrap_i64]; omega
  go_enter Try.func39, Try.ntmps39
  go_wp2_with (first
   | (at_builtin; refine Lib.wpList_append_run _ rfl _ _ _ _ rfl _ _ rfl rfl _ _ hrA ?_)
   | (at_builtin; refine ins_plain _ rfl _ _ 28 28 rfl _ _ rfl rfl hr2' ?_))
  go_region_law (refine ins_step rfl _ _ 28 28 rfl _ _ (by simp [Act.eval, Act.put]) (by simp [Act.eval, Act.put]) hr3 ?_)
  go_wp2
  go_ret
  exact ⟨_, rfl, HF.out.1, HF.out.2.1, HF.out.2.2⟩

end Go.Proofs.Ytflfbaofgfandaa.QFnExactPutRoute
