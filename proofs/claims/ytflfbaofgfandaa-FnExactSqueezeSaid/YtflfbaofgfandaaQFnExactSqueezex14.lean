/- Contracts of functions that the law reaches: what each call returns and what it leaves in memory. Made by this session over the print of the kit. -/
import Derived.Test.YtflfbaofgfandaaQFnExactSqueezex0
import Derived.Test.YtflfbaofgfandaaQFnExactSqueezex2
import Derived.Test.YtflfbaofgfandaaQFnExactSqueezex12
namespace Go.Proofs.Ytflfbaofgfandaa.QFnExactSqueeze
open Go.RowKit Go.Proofs.YtflfbaofgfandaaQ.PrintWords Go.Proofs.YtflfbaofgfandaaQ.PrintLast Go.Proofs.YtflfbaofgfandaaQ.PrintMore
attribute [local go_sem] max2_int min2_int max_two min_two max_three min_three max_four min_four   -- for this text's walks alone
set_option linter.unusedVariables false
set_option linter.unusedSimpArgs false
abbrev tb14 : Bool := true
abbrev fb14 : Bool := false
def ba14_0 : Array Bool := #[fb14,fb14,fb14,fb14,fb14,fb14,fb14,fb14]
def ba14_1 : Array Bool := #[tb14,fb14,fb14,fb14,fb14,fb14,fb14,fb14]
def ba14_2 : Array Bool := #[tb14,tb14,fb14,fb14,fb14,fb14,fb14,fb14]
def ba14_3 : Array Bool := #[tb14,tb14,tb14,fb14,fb14,fb14,fb14,fb14]
def ba14_4 : Array Bool := #[tb14,tb14,tb14,tb14,fb14,fb14,fb14,fb14]
def ba14_5 : Array Bool := #[tb14,tb14,tb14,tb14,tb14,fb14,fb14,fb14]
def ba14_6 : Array Bool := #[tb14,tb14,tb14,tb14,tb14,tb14,fb14,fb14]
def ba14_7 : Array Bool := #[tb14,tb14,tb14,tb14,tb14,tb14,tb14,fb14]
def ba14_8 : Array Bool := #[tb14,tb14,tb14,tb14,tb14,tb14,tb14,tb14]
def ba14_9 : Array Bool := #[fb14,fb14,fb14,fb14,fb14,fb14,fb14,fb14,fb14,fb14,fb14]
def ba14_10 : Array Bool := #[tb14,fb14,fb14,fb14,fb14,fb14,fb14,fb14,fb14,fb14,fb14]
def ba14_11 : Array Bool := #[tb14,tb14,fb14,fb14,fb14,fb14,fb14,fb14,fb14,fb14,fb14]
def ba14_12 : Array Bool := #[tb14,tb14,fb14,tb14,fb14,fb14,fb14,fb14,fb14,fb14,fb14]
def ba14_13 : Array Bool := #[tb14,tb14,tb14,tb14,fb14,fb14,fb14,fb14,fb14,fb14,fb14]
def ba14_14 : Array Bool := #[tb14,tb14,tb14,tb14,tb14,fb14,fb14,fb14,fb14,fb14,fb14]
def ba14_15 : Array Bool := #[tb14,tb14,tb14,tb14,tb14,tb14,fb14,fb14,fb14,fb14,fb14]
def ba14_16 : Array Bool := #[tb14,tb14,tb14,tb14,tb14,tb14,tb14,fb14,fb14,fb14,fb14]
def ba14_17 : Array Bool := #[tb14,tb14,tb14,tb14,tb14,tb14,tb14,tb14,fb14,fb14,fb14]
def ba14_18 : Array Bool := #[tb14,tb14,tb14,tb14,tb14,tb14,tb14,tb14,tb14,fb14,fb14]
def ba14_19 : Array Bool := #[tb14,tb14,tb14,tb14,tb14,tb14,tb14,tb14,tb14,tb14,fb14]
def ba14_20 : Array Bool := #[tb14,tb14,tb14,tb14,tb14,tb14,tb14,tb14,tb14,tb14,tb14]
def ba14_21 : Array Bool := #[fb14,fb14,fb14,fb14,fb14,fb14,fb14,fb14,fb14]
def ba14_22 : Array Bool := #[tb14,fb14,fb14,fb14,fb14,fb14,fb14,fb14,fb14]
def ba14_23 : Array Bool := #[tb14,tb14,fb14,fb14,fb14,fb14,fb14,fb14,fb14]
def ba14_24 : Array Bool := #[tb14,tb14,fb14,tb14,fb14,fb14,fb14,fb14,fb14]
def ba14_25 : Array Bool := #[tb14,tb14,tb14,tb14,fb14,fb14,fb14,fb14,fb14]
def ba14_26 : Array Bool := #[tb14,tb14,tb14,tb14,tb14,fb14,fb14,fb14,fb14]
def ba14_27 : Array Bool := #[tb14,tb14,tb14,tb14,tb14,tb14,fb14,fb14,fb14]
def ba14_28 : Array Bool := #[tb14,tb14,tb14,tb14,tb14,tb14,tb14,fb14,fb14]
def ba14_29 : Array Bool := #[tb14,tb14,tb14,tb14,tb14,tb14,tb14,tb14,fb14]
def ba14_30 : Array Bool := #[tb14,tb14,tb14,tb14,tb14,tb14,tb14,tb14,tb14]

attribute [local go_sem high] eqA43
/-! ### slices_Delete_impl_Route_impl_Route: function 33 -/
section
open Go.Lib
variable {P : Program} {α : Type}
theorem R_past_run (d : Kd α) {W : World} (base : Nat) (t ty e : TypeId) (ht : P.underlying t = some (.slice e)) (z : Value) (i0 : TypeInfo) (hi : P.info? e = some i0) (hz0 : i0.zero = some z) (hzs : z.cells.size = d.sz) (hs0 : 0 < d.sz) (z0 : α)
  (hzM : ∀ W, d.M W base (fun _ => False) z0 z.cells.toList) {g n c q : Nat} {xs : List α} {ok : Nat → Prop} (HO : d.R e W base ok (.slice (some ⟨g, 0, none⟩) n c) xs) (hq : n + (q + 1) ≤ c) (c2 : Nat) :
  ∃ w1, (Builtin.clear_ #[t] ty #[.slice (some ⟨g, n * d.sz, none⟩) (q + 1) c2]).run P W = .ok (.tuple #[]) w1 ∧ d.R e w1 base ok (.slice (some ⟨g, 0, none⟩) n c) xs ∧ W.grownBy w1 (some g) := by
 obtain ⟨hn, hnc, _⟩ := Kd.R_reads' HO
 have hcm0 : Reps (d.M W base (fun _ => False)) d.sz (List.replicate (q + 1) z0) (Builtin.zeroCells z.cells (q + 1)).toList := Kd.reps_zeros hzs hs0 (hzM W) (q + 1)
 obtain ⟨hok, inner, hown, hr⟩ := HO
 have hin : inner.length = n * d.sz := by rw [hr.1, hn]
 rcases hown.2 with ⟨hv, _⟩ | ⟨g', cap', cur, hv, hb, hh, h9, hcm, hcs, htake⟩
 ·cases hv
 injection hv with ha _ hc
 injection ha with ha
 injection ha with hg
 subst hg; subst hc
 rw [← hn] at htake
 obtain ⟨news, hnews⟩ : ∃ news, news = (Builtin.zeroCells z.cells (q + 1)).toList := ⟨_, rfl⟩
 have hnl : news.length = (q + 1) * d.sz := by rw [hnews, Array.length_toList, size_zeroCells, hzs]
 rw [← hnews] at hcm0
 have hcc : (n + (q + 1)) * d.sz ≤ c * d.sz := Nat.mul_le_mul_right _ hq
 have hadd : (n + (q + 1)) * d.sz = n * d.sz + (q + 1) * d.sz := Nat.add_mul _ _ _
 have hfit : n * d.sz + news.length ≤ cur.size := by omega
 have hone : ∀ u ∈ news, u.oneCell' = true := by
  intro u hu
  obtain ⟨p, hp, rfl⟩ := List.mem_iff_getElem.1 hu
  have hql : p / d.sz < (List.replicate (q + 1) z0).length := by
   rw [List.length_replicate, Nat.div_lt_iff_lt_mul hs0, ← hnl]
   exact hp
  refine d.K_one (d.K_of_M (hcm0.2 (p / d.sz) _ (List.getElem?_eq_getElem hql))) _ ?_
  rw [List.mem_iff_getElem?]
  refine ⟨p % d.sz, ?_⟩
  rw [List.getElem?_take, if_pos (Nat.mod_lt _ hs0), List.getElem?_drop, Nat.mul_comm, Nat.div_add_mod, List.getElem?_eq_getElem hp]
 have hst := run_storeCells_cells (P := P) g (n * d.sz) news 0 W (fun j hj => by rw [cell_of_row W g _ cur e (0, 0) hh]; simp; omega) (fun j _ => blk_frozen hh _) hone
 simp only [Nat.add_zero] at hst
 obtain ⟨cur', h3, h4, h5⟩ := setCells_row news (n * d.sz) W cur hh hfit
 obtain ⟨s1, s2, s3, s4⟩ := setCells_same g news (n * d.sz) W
 have hfar : ∀ k', k' ≠ g → (W.setCells g (n * d.sz) news).heap[k']? = W.heap[k']? := fun k' hk' => setCells_far news _ k' hk'
 have hgo : some g = (Value.slice (some ⟨g, 0, none⟩) n c).ownBlock := by simp [Value.ownBlock]
 have hz : (zeroValue e).run P W = .ok z W := by
  simp [zeroValue, run_typeInfo W hi, hz0]
 refine ⟨W.setCells g (n * d.sz) news, ?_, ⟨fun k' hk' => hok k' hk', inner, ⟨by rw [hin, hn], .inr ⟨g, c, cur', by rw [hn], hb, h3, h9, hcm, by rw [h4, hcs], ?_⟩⟩, ?_⟩, ⟨s1, s2, s3, by rw [s4]; exact Nat.le_refl _, fun k' _ hk' => hfar k' (fun he => hk' (by rw [he]))⟩⟩
 ·rw [hnews] at hst ⊢
  simp [Builtin.clear_, run_underlying ht, hz, hst]
 ·rw [← hn, h5, List.append_assoc]
  have h6 : (cur.toList.take (n * d.sz)).length = n * d.sz := by rw [htake, hin]
  rw [List.take_left' h6, htake]
 ·exact hr.imp_ (fun p q hp => d.M_move (fun k' hk' => hfar k' (fun he => hk'.2 (by rw [← hgo, he]))) hp)
end
section
open Go.Lib
variable {P : Program} {ops : Array Oper} {o : Oper} {a : Act} {Q : Exit → Act → World → Prop} {Kc : Act → World → Prop} {α : Type}
theorem R_delete_step (d : Kd α) {w0 W : World} (base : Nat) (hw : Region.wanted o (yielded ops a.tmps) = true) (s x : Operand) (t e : TypeId) (ho : o.op = .call { callee := .builtin .append, args := #[s, x], argTypes := #[t, t] })
  (ht : P.underlying t = some (.slice e)) (hinfo : (P.info? e).map (·.size) = some d.sz) {g n c k m c2 : Nat} {A : Option Addr} {xs : List α} {ok : Nat → Prop}
  (hs : a.eval s = .slice (some ⟨g, 0, none⟩) k c) (hx : a.eval x = .slice A m c2) (hA : A = if c = k + 1 then some ⟨g, 0, none⟩ else (some (⟨g, 0, none⟩ : Addr)).map (·.add ((k + 1) * d.sz))) (hm : m = n + 1 - (k + 1))
  (HO : d.R e W base ok (.slice (some ⟨g, 0, none⟩) (n + 1) c) xs) (hk : k < n + 1) (HB : Below base w0 W) (hbase : base ≤ W.heap.size)
  (h : ∀ w1, d.R e w1 base ok (.slice (some ⟨g, 0, none⟩) n c) (xs.eraseIdx k) → Below base w0 w1 → W.grownBy w1 (some g) → Kc (a.put o.dst (.slice (some ⟨g, 0, none⟩) n c)) w1) :
  if Region.wanted o (yielded ops a.tmps) = true then Oper.wp P o a W Kc Q else Kc (a.put o.dst undef) W := by
 rw [if_pos hw]
 obtain ⟨i0, hi, hsz⟩ := Option.map_eq_some_iff.1 hinfo
 subst hm
 obtain ⟨w1, hr, h1, h2⟩ := Kd.R_delete_run d base t o.type e i0 ht hi hsz HO hk hA c2
 unfold Oper.wp execOp
 simp only [ho, resolve, invoke, builtin, Sem.run_bind, Sem.run_pure, Result.andThen_ok, List.map_toArray, List.map_cons, List.map_nil, hs, hx, hr]
 exact h w1 h1 (HB.grown h2 hbase (fun k hk => by injection hk with hk; subst hk; exact Kd.R_base HO _ (by simp [Value.ownBlock]))) h2
end
section
open Go.Lib
variable {P : Program} {ops : Array Oper} {rest : List Oper} {o : Oper} {a : Act} {Q : Exit → Act → World → Prop} {α : Type}
theorem R_past (d : Kd α) {w0 W : World} (base : Nat) (hgd : o.guard = none) (s : Operand) (t e : TypeId) (ho : o.op = .call { callee := .builtin .clear, args := #[s], argTypes := #[t] }) (hd : o.dst = none)
  (ht : P.underlying t = some (.slice e)) (z : Value) (bytes : Nat) (hinfo : (P.info? e).map (fun i => (i.zero, i.size, i.bytes)) = some (some z, d.sz, bytes)) (hzs : z.cells.size = d.sz) (hs0 : 0 < d.sz) (z0 : α) (hzM : ∀ W, d.M W base (fun _ => False) z0 z.cells.toList)
  {g n c q m c2 : Nat} {A : Option Addr} {xs : List α} {ok : Nat → Prop} (hs : a.eval s = .slice A m c2) (hA : A = some ⟨g, n * d.sz, none⟩) (hm : m = q + 1)
  (HO : d.R e W base ok (.slice (some ⟨g, 0, none⟩) n c) xs) (hq : n + (q + 1) ≤ c) (HB : Below base w0 W) (hbase : base ≤ W.heap.size) (hg : base ≤ g)
  (h : ∀ w1, d.R e w1 base ok (.slice (some ⟨g, 0, none⟩) n c) xs → Below base w0 w1 → W.grownBy w1 (some g) → wpList P ops Q rest a w1) : wpList P ops Q (o :: rest) a W := by
 obtain ⟨i0, hi, hzz⟩ := Option.map_eq_some_iff.1 hinfo
 simp only [Prod.mk.injEq] at hzz
 subst hm
 subst hA
 obtain ⟨w1, hr, h1, h2⟩ := R_past_run (P := P) d base t o.type e ht z i0 hi hzz.1 hzs hs0 z0 hzM HO hq c2
 refine wpList_plain hgd fun K hK => ?_
 unfold Oper.wp execOp
 simp only [ho, resolve, invoke, builtin, Sem.run_bind, Sem.run_pure, Result.andThen_ok, List.map_toArray, List.map_cons, List.map_nil, hs, hr]
 show K (a.put o.dst (.tuple #[])) w1
 rw [show a.put o.dst (.tuple #[]) = a by rw [hd]; rfl]
 exact hK _ _ (h w1 h1 (HB.grown h2 hbase (fun k hk => by injection hk with hk; subst hk; exact hg)) h2)
end
def slices_Delete_impl_Route_impl_Route.f (l0 : List S43) (a1 : Int) (a2 : Int) : Option (List S43) := if 0 ≤ a1 then (if a1 < (l0.length : Int) then (if a2 = a1 + 1 then some (l0.eraseIdx (a1 : Int).toNat) else none) else none) else none
def slices_Delete_impl_Route_impl_Route.b0 : Array Bool := ba14_0
def slices_Delete_impl_Route_impl_Route.b1 : Array Bool := ba14_1
def slices_Delete_impl_Route_impl_Route.b2 : Array Bool := ba14_2
def slices_Delete_impl_Route_impl_Route.b3 : Array Bool := ba14_3
def slices_Delete_impl_Route_impl_Route.b4 : Array Bool := ba14_4
def slices_Delete_impl_Route_impl_Route.b5 : Array Bool := ba14_5
def slices_Delete_impl_Route_impl_Route.b6 : Array Bool := ba14_6
def slices_Delete_impl_Route_impl_Route.b7 : Array Bool := ba14_7
def slices_Delete_impl_Route_impl_Route.b8 : Array Bool := ba14_8
def slices_Delete_impl_Route_impl_Route.T5 : Bool × List (List Nat × List Nat) := (true, [([], []), ([], []), ([0, 1], [0, 1]), ([], []), ([], []), ([3, 4], [3, 4]), ([2, 5], [2, 5]), ([6, 6, 0, 1, 2, 3, 4, 5, 6], [0, 3, 6])])
def slices_Delete_impl_Route_impl_Route.B5 : List Nat := [0, 0, 3, 0, 0, 24, 63, 127]
theorem slices_Delete_impl_Route_impl_Route.tab5 : rtab .any (opsOf Try.f33 5) = slices_Delete_impl_Route_impl_Route.T5 := by kernel_rfl
theorem slices_Delete_impl_Route_impl_Route.bits5 : waitsOk slices_Delete_impl_Route_impl_Route.T5.2 slices_Delete_impl_Route_impl_Route.B5 = true := by kernel_rfl
set_option maxHeartbeats 4000000 in
set_option maxRecDepth 100000 in
theorem slices_Delete_impl_Route_impl_Route.calls (P0_ : Nat → Prop) (u9000_ : Value) (l0 : List S43) (a1 : Int) (a2 : Int) (r : List S43) (w0 w : World) (hB : Below w0.heap.size w0 w) (ho0 : Kd.R k43 43 w w0.heap.size P0_ u9000_ l0) (h : slices_Delete_impl_Route_impl_Route.f l0 a1 a2 = some r) :
  Calls Try.prog 33 #[u9000_, .int .i64 a1, .int .i64 a2] w fun e w' => ∃ v0_ : Value, e = .returned (v0_) ∧ Kd.R k43 43 w' w0.heap.size (fun k_ => (P0_ k_ ∨ w.heap.size ≤ k_)) v0_ r ∧ Below w0.heap.size w0 w' ∧ Kept w w' (fun k_ => P0_ k_) := by
 unfold slices_Delete_impl_Route_impl_Route.f at h
 by_cases c1 : 0 ≤ a1
 rotate_left
 ·rw [if_neg c1] at h; cases h
 rw [if_pos c1] at h
 by_cases c2 : a1 < (l0.length : Int)
 rotate_left
 ·rw [if_neg c2] at h; cases h
 rw [if_pos c2] at h
 by_cases c3 : a2 = a1 + 1
 rotate_left
 ·rw [if_neg c3] at h; cases h
 rw [if_pos c3] at h
 obtain rfl := Option.some.inj h
 clear h
 obtain ⟨i, rfl⟩ := Int.eq_ofNat_of_zero_le c1
 have e2 : a2 = ((i + 1 : Nat) : Int) := by rw [c3]; rfl
 subst e2
 clear c1 c3
 have hi : i < l0.length := by omega
 obtain ⟨m, hL⟩ : ∃ m, l0.length = m + 1 := ⟨l0.length - 1, by omega⟩
 have HB := Aside0.mk hB
 have HW0 := Aside0.mk hB.size
 obtain ⟨g, cap, eg, gb, gl, cl, HG⟩ := Kd.R_form ho0 (by omega)
 subst eg
 have hnc := (Kd.R_reads' ho0).2.1
 have hok := ho0.1 g (by simp [Value.ownBlock])
 rw [hL] at ho0 hnc hi c2 ⊢
 have HO0 := Aside0.mk ho0
 have HK := Aside0.mk (Kept.refl w (fun k_ => P0_ k_))
 clear hB ho0
 have q2 : ¬ ((i : Nat) : Int) = ((i + 1 : Nat) : Int) := by omega
 have q3 : (((i : Nat) : Int) == ((i + 1 : Nat) : Int)) = false := beq_eq_false_iff_ne.mpr q2
 have f1 : (i ≤ cap) = True := eq_true (by omega)
 have f2 : (i + 1 ≤ m + 1) = True := eq_true (by omega)
 have f3 : (0 ≤ (i : Int) + 1 ∧ (i : Int) + 1 ≤ ((m + 1 : Nat) : Int)) = True := eq_true (by omega)
 have f4 : (0 ≤ (i : Int) + 1 ∧ i ≤ m) = True := eq_true (by omega)
 go_enter Try.func33, Try.ntmps33
 go_wp2
 refine start_ (n := 8) (S := fun _ => True) (ds := []) slices_Delete_impl_Route_impl_Route.b0 (by kernel_rfl) rfl rfl trivial (fun hHeld => ?_); refine with_tabW slices_Delete_impl_Route_impl_Route.tab5 slices_Delete_impl_Route_impl_Route.bits5 (fun HT_ HW_ => ?_)
 replace HO0 := Aside0.mk (Kd.R_drew HO0.out)
 replace HB := Aside0.mk (below_drew1 HB.out)
 replace HK := Aside0.mk (Kept.drew HK.out)
 refine pz_ 0 20 slices_Delete_impl_Route_impl_Route.b1 HT_ ?_
 refine pz_ 1 21 slices_Delete_impl_Route_impl_Route.b2 HT_ ?_
 refine pz_ 2 22 slices_Delete_impl_Route_impl_Route.b3 HT_ ?_
 refine pz_ 3 23 slices_Delete_impl_Route_impl_Route.b4 HT_ ?_
 refine pz_ 4 24 slices_Delete_impl_Route_impl_Route.b5 HT_ ?_
 refine pz_ 5 25 slices_Delete_impl_Route_impl_Route.b6 HT_ ?_
 refine one_ (i := 6) (N := some 26) slices_Delete_impl_Route_impl_Route.b7 rfl rfl (one_of HT_.out (by kernel_rfl)) (by decide) (fun K hK => ?_)
 refine R_delete_step k43 (w0 := w0) w0.heap.size (by rfl) (.tmp 22) (.tmp 25) 28 43 rfl Try.underlying28 (by kernel_rfl) (g := g) (n := m) (c := cap) (k := i) (by rfl) (by rfl) ?hA ?hm HO0.out (by omega) HB.out (Nat.le_trans HW0.out (by exact Nat.le_refl _)) ?_
 case hA =>
  by_cases ce : cap = i + 1
  ·rw [if_pos ce, if_pos ce]
  rw [if_neg ce, if_neg ce]
  simp [Addr.add]
  rfl
 case hm => omega
 intro w1 ho hb hg
 have HO1 := Aside0.mk ho
 replace HB := Aside0.mk hb
 replace HK := Aside0.mk (Kept.of_grown (S := (fun k_ => P0_ k_)) hg HK.out (fun k_ e_ => by injection e_ with e_; subst e_; exact .inl hok))
 clear ho hb hg HO0 HG
 generalize (if cap = i + 1 then (some ⟨g, 0, none⟩ : Option Addr) else some ⟨g, (i + 1) * 3, none⟩) = A5
 refine hK.out _ _ trivial (fun hHeld => ?_)
 clear hK K
 refine nz_ 26 ?_
 refine pz_ 7 0 slices_Delete_impl_Route_impl_Route.b8 HT_ ?_
 refine done_ (done_of HT_.out (by kernel_rfl)) ?_
 have f6 : (0 ≤ (m : Int) ∧ (m : Int) ≤ (m : Int) + 1 ∧ m + 1 ≤ cap) = True := eq_true (by omega)
 go_wp2_with (first | ((with_reducible refine gate_builtin (b := .clear) (xs := #[.tmp 31]) rfl ?_); refine R_past k43 (w0 := w0) w0.heap.size rfl (.tmp 31) 28 43 rfl rfl Try.underlying28 (.agg #[(.int .i64 0), (.int .i64 0), (.int .i64 0)]) 24 info43 rfl (by decide) z43 (fun _ => (k43_mkM _ _ _ z43)) (g := g) (n := m) (c := cap) (q := 0) rfl ?hA ?hm HO1.out ?hq HB.out HB.out.size gb ?_; (case hA => first | rfl | (simp; done)); (case hm => first | rfl | omega); (case hq => omega); intro w2 ho hb hg; have HO2 := Aside0.mk ho; replace HB := Aside0.mk hb; replace HK := Aside0.mk (Kept.of_grown (S := (fun k_ => P0_ k_)) hg HK.out (fun k_ e_ => by injection e_ with e_; subst e_; exact .inl hok)); clear ho hb hg HO1))
 go_ret
 exact ⟨_, rfl, Kd.R_mono HO2.out (fun _ hk => .inl hk), HB.out, HK.out⟩

/-! ### impl_Prefix_has: function 70 -/
def impl_Prefix_has.f (a0_0 : Int) (a0_1 : Int) (a1 : Int) : Option (Bool) := (impl_Prefix_size.f a0_0 a0_1).bind fun t253 => ((impl_within.f a1 a0_0 (wrap64 ((wrap64 (a0_0 + t253)) - 1))).bind fun t254 => (some t254))
def impl_Prefix_has.T1 : Bool × List (List Nat × List Nat) := (true, [([], []), ([], []), ([1], [1]), ([], []), ([3], [3]), ([], []), ([5], [5]), ([4, 6], [4, 6]), ([7], [7]), ([0, 2, 8, 6], [0, 2, 8]), ([9, 9, 0, 1, 2, 3, 4, 5, 6, 7, 8, 9], [9])])
def impl_Prefix_has.B1 : List Nat := [0, 0, 2, 0, 8, 0, 32, 120, 248, 511, 1023]
theorem impl_Prefix_has.tab1 : rtab .any (opsOf Try.f70 1) = impl_Prefix_has.T1 := by kernel_rfl
theorem impl_Prefix_has.bits1 : waitsOk impl_Prefix_has.T1.2 impl_Prefix_has.B1 = true := by kernel_rfl
set_option maxHeartbeats 8000000 in
set_option maxRecDepth 100000 in
theorem impl_Prefix_has.calls (a0_0 : Int) (a0_1 : Int) (a1 : Int) (r : Bool) (w : World) (h : impl_Prefix_has.f a0_0 a0_1 a1 = some r) :
  Calls Try.prog 70 #[.agg #[.int .i64 a0_0, .int .i64 a0_1], .int .i64 a1] w fun e w' => e = .returned (.bool r) ∧ Below w.heap.size w w' := by
 have hu34 := Try.underlying34
 have HB := Aside0.mk (Below.refl w.heap.size w)
 have H : ((impl_Prefix_size.f a0_0 a0_1).bind fun t253 => ((impl_within.f a1 a0_0 (wrap64 ((wrap64 (a0_0 + t253)) - 1))).bind fun t254 => (some t254))) = some r := h
 clear h
 replace H := Option.bind_eq_some_iff.mp H
 obtain ⟨t253, A30, H⟩ := H
 have A3 := Aside0.mk A30
 clear A30
 replace H := Option.bind_eq_some_iff.mp H
 obtain ⟨t254, A40, H⟩ := H
 have A4 := Aside0.mk A40
 clear A40
 obtain rfl := Option.some.inj H
 go_enter Try.func70, Try.ntmps70
 try go_wp2_with (first | ((with_reducible refine gate_dst (N := 2) rfl ?_); refine box_event ?hg (N := 2) ?hd (cs := #[.int .i64 a0_0, .int .i64 a0_1]) (t := 34) ?hr ?_; (case hd => rfl); (case hg => rfl); (case hr => first | (go_simp; done) | (go_simp; rfl)); intro gb252 hg w5 hbox hb; have BK252 := Aside0.mk hbox; have GW252 := ge_ HB hg; have GE252 := ge_ HB hg; replace HB := Aside0.mk (bt_ HB hb); clear hb hbox hg))
 replace BK252 := Aside0.mk (blk_drew BK252.out)
 replace HB := Aside0.mk (below_drew1 HB.out)
 refine start_ (n := 11) (S := fun w' => w'.cell? ⟨gb252, 0, none⟩ = some (.int .i64 a0_0) ∧ w'.cell? ⟨gb252, 1, none⟩ = some (.int .i64 a0_1)) (ds := []) ba14_9 (by kernel_rfl) rfl rfl ⟨(blk_cell BK252.out 0).trans rfl, (blk_cell BK252.out 1).trans rfl⟩ (fun hHeld => ?_); refine with_tabW impl_Prefix_has.tab1 impl_Prefix_has.bits1 (fun HT_ HW_ => ?_)
 generalize w5.drew = w6 at BK252 HB hHeld ⊢
 refine pz_ 0 5 ba14_10 HT_ ?_
 refine pz_ 1 6 ba14_11 HT_ ?_
 refine pz_ 3 8 ba14_12 HT_ ?_
 refine pt_ 2 7 ba14_13 HT_ HW_ hHeld ?_
 refine pt_ 4 9 ba14_14 HT_ HW_ hHeld ?_
 refine pt_ 5 10 ba14_15 HT_ HW_ hHeld ?_
 refine one_ (i := 6) (N := some 11) ba14_16 rfl rfl (one_of HT_.out (by kernel_rfl)) (by decide) (fun K hK => ?_)
 refine gz_ Try.func47 #[.agg #[.int .i64 a0_0, .int .i64 a0_1]] ?_
 with_reducible refine (impl_Prefix_size.calls a0_0 a0_1 t253 _ A3.out).mono ?_
 rintro e w7 ⟨rfl, hb⟩
 refine ⟨_, rfl, ?_⟩
 replace BK252 := Aside0.mk (bb_ BK252 hb)
 replace HB := Aside0.mk (bt_ HB hb)
 (try clear hb)
 (try clear hb2)
 (try clear hk)
 (try clear hi)
 refine hK.out _ _ ⟨(blk_cell BK252.out 0).trans rfl, (blk_cell BK252.out 1).trans rfl⟩ (fun hHeld => ?_)
 clear hK K
 refine nz_ 11 ?_
 refine pz_ 7 12 ba14_17 HT_ ?_
 refine pz_ 8 13 ba14_18 HT_ ?_
 refine one_ (i := 9) (N := some 14) ba14_19 rfl rfl (one_of HT_.out (by kernel_rfl)) (by decide) (fun K hK => ?_)
 refine gz_ Try.func57 #[.int .i64 a1, .int .i64 a0_0, .int .i64 (wrap64 ((wrap64 (a0_0 + t253)) - 1))] ?_
 with_reducible refine (impl_within.calls a1 a0_0 (wrap64 ((wrap64 (a0_0 + t253)) - 1)) t254 _ A4.out).mono ?_
 rintro e w' ⟨rfl, ⟨nd, rfl⟩⟩
 refine ⟨_, rfl, ?_⟩
 refine hK.out _ _ ⟨(blk_cell BK252.out 0).trans rfl, (blk_cell BK252.out 1).trans rfl⟩ (fun hHeld => ?_)
 clear hK K
 refine nz_ 14 ?_
 refine pz_ 10 4 ba14_20 HT_ ?_
 refine done_ (done_of HT_.out (by kernel_rfl)) ?_
 try go_wp2
 go_ret
 exact ⟨by first | rfl | (simp [errW_none, errW_some] <;> rfl) | (simp [*, errW_none, errW_some] <;> rfl), by repeat (first | (with_reducible first | exact HB.out | apply below_alloc | apply pw_below_drewN | apply below_drew1 | refine below_set ?_ GE252.out) | exact HB.out)⟩

/-! ### impl_Prefix_covers: function 64 -/
def impl_Prefix_covers.f (a0_0 : Int) (a0_1 : Int) (a1_0 : Int) (a1_1 : Int) : Option (Bool) := if a0_1 ≤ a1_1 then ((impl_Prefix_has.f a0_0 a0_1 a1_0).bind fun t257 => (some t257)) else (some false)
set_option maxHeartbeats 8000000 in
set_option maxRecDepth 100000 in
theorem impl_Prefix_covers.calls (a0_0 : Int) (a0_1 : Int) (a1_0 : Int) (a1_1 : Int) (r : Bool) (w : World) (h : impl_Prefix_covers.f a0_0 a0_1 a1_0 a1_1 = some r) :
  Calls Try.prog 64 #[.agg #[.int .i64 a0_0, .int .i64 a0_1], .agg #[.int .i64 a1_0, .int .i64 a1_1]] w fun e w' => e = .returned (.bool r) ∧ Below w.heap.size w w' := by
 have hu34 := Try.underlying34
 have HB := Aside0.mk (Below.refl w.heap.size w)
 have H : (if a0_1 ≤ a1_1 then ((impl_Prefix_has.f a0_0 a0_1 a1_0).bind fun t257 => (some t257)) else (some false)) = some r := h
 clear h
 by_cases c3 : a0_1 ≤ a1_1
 rotate_left
 ·rw [if_neg c3] at H
  have c3b0 : decide (a0_1 ≤ a1_1) = false := decide_eq_false c3
  clear c3
  obtain rfl := Option.some.inj H
  go_enter Try.func64, Try.ntmps64
  go_wp2_with (first | ((with_reducible refine gate_dst (N := 2) rfl ?_); refine box_event ?hg (N := 2) ?hd (cs := #[.int .i64 a0_0, .int .i64 a0_1]) (t := 34) ?hr ?_; (case hd => rfl); (case hg => rfl); (case hr => first | (go_simp; done) | (go_simp; rfl)); intro gb255 hg w11 hbox hb; have BK255 := Aside0.mk hbox; have GW255 := ge_ HB hg; have GE255 := ge_ HB hg; replace HB := Aside0.mk (bt_ HB hb); clear hb hbox hg) | ((with_reducible refine gate_dst (N := 3) rfl ?_); refine box_event ?hg (N := 3) ?hd (cs := #[.int .i64 a1_0, .int .i64 a1_1]) (t := 34) ?hr ?_; (case hd => rfl); (case hg => rfl); (case hr => first | (go_simp; done) | (go_simp; rfl)); intro gb256 hg w12 hbox hb; have BK256 := Aside0.mk hbox; have GW256 := ge_ HB hg; have GE256 := ge_ HB hg; have NB255_256 := nl_ BK255 hg; have NB256_255 := ng_ BK255 hg; replace HB := Aside0.mk (bt_ HB hb); replace BK255 := Aside0.mk (bb_ BK255 hb); clear hb hbox hg; have hnb13 := NB255_256.out; have hnc13 := NB256_255.out; have hcz14_0 := cz_ BK255 0 (.int .i64 a0_0); have hcz14_1 := cz_ BK255 1 (.int .i64 a0_1); have hfz14_0 := blk_frozen BK255.out 0; have hfz14_1 := blk_frozen BK255.out 1; have hcz15_0 := cz_ BK256 0 (.int .i64 a1_0); have hcz15_1 := cz_ BK256 1 (.int .i64 a1_1); have hfz15_0 := blk_frozen BK256.out 0; have hfz15_1 := blk_frozen BK256.out 1))
  go_ret
  exact ⟨by first | rfl | (simp [errW_none, errW_some] <;> rfl) | (simp [*, errW_none, errW_some] <;> rfl), by repeat (first | (with_reducible first | exact HB.out | apply below_alloc | apply pw_below_drewN | apply below_drew1 | refine below_set ?_ GE255.out | refine below_set ?_ GE256.out) | exact HB.out)⟩
 rw [if_pos c3] at H
 have c3b0 : decide (a0_1 ≤ a1_1) = true := decide_eq_true c3
 clear c3
 replace H := Option.bind_eq_some_iff.mp H
 obtain ⟨t257, A40, H⟩ := H
 have A4 := Aside0.mk A40
 clear A40
 obtain rfl := Option.some.inj H
 go_enter Try.func64, Try.ntmps64
 go_wp2_with (first | ((with_reducible refine gate_dst (N := 2) rfl ?_); refine box_event ?hg (N := 2) ?hd (cs := #[.int .i64 a0_0, .int .i64 a0_1]) (t := 34) ?hr ?_; (case hd => rfl); (case hg => rfl); (case hr => first | (go_simp; done) | (go_simp; rfl)); intro gb255 hg w5 hbox hb; have BK255 := Aside0.mk hbox; have GW255 := ge_ HB hg; have GE255 := ge_ HB hg; replace HB := Aside0.mk (bt_ HB hb); clear hb hbox hg) | ((with_reducible refine gate_dst (N := 3) rfl ?_); refine box_event ?hg (N := 3) ?hd (cs := #[.int .i64 a1_0, .int .i64 a1_1]) (t := 34) ?hr ?_; (case hd => rfl); (case hg => rfl); (case hr => first | (go_simp; done) | (go_simp; rfl)); intro gb256 hg w6 hbox hb; have BK256 := Aside0.mk hbox; have GW256 := ge_ HB hg; have GE256 := ge_ HB hg; have NB255_256 := nl_ BK255 hg; have NB256_255 := ng_ BK255 hg; replace HB := Aside0.mk (bt_ HB hb); replace BK255 := Aside0.mk (bb_ BK255 hb); clear hb hbox hg; have hnb7 := NB255_256.out; have hnc7 := NB256_255.out; have hcz8_0 := cz_ BK255 0 (.int .i64 a0_0); have hcz8_1 := cz_ BK255 1 (.int .i64 a0_1); have hfz8_0 := blk_frozen BK255.out 0; have hfz8_1 := blk_frozen BK255.out 1; have hcz9_0 := cz_ BK256 0 (.int .i64 a1_0); have hcz9_1 := cz_ BK256 1 (.int .i64 a1_1); have hfz9_0 := blk_frozen BK256.out 0; have hfz9_1 := blk_frozen BK256.out 1) | (go_at_call 70; (with_reducible refine (impl_Prefix_has.calls a0_0 a0_1 a1_0 t257 _ A4.out).mono ?_); rintro e w10 ⟨rfl, hb⟩; replace BK255 := Aside0.mk (bb_ BK255 hb); replace BK256 := Aside0.mk (bb_ BK256 hb); replace HB := Aside0.mk (bt_ HB hb); (try clear hb); (try clear hb2); (try clear hk); (try clear hi)))
 go_ret
 exact ⟨by first | rfl | (simp [errW_none, errW_some] <;> rfl) | (simp [*, errW_none, errW_some] <;> rfl), by repeat (first | (with_reducible first | exact HB.out | apply below_alloc | apply pw_below_drewN | apply below_drew1 | refine below_set ?_ GE255.out | refine below_set ?_ GE256.out) | exact HB.out)⟩

/-! ### impl_isUsed: function 61 -/
mutual
def impl_isUsed.l0 : Nat → Int → Int → List (S43) → Int → Int → Int → Int → Int → Option (Bool)
 | 0, _, _, _, _, _, _, _, _ => none
 | k + 1, x5, x6, x9, x10, x11, x259000, x259001, x259002 => if x11 < x10 then (if 0 ≤ x11 then (if x11 < (x9.length : Int) then (if ((!(((rd_T43 x9 x11).f0.f0) == x259000) || (!(((rd_T43 x9 x11).f0.f1) == x259001))) || (!(((rd_T43 x9 x11).f1) == x259002))) = true then ((impl_Prefix_covers.f x259000 x259001 ((rd_T43 x9 x11).f0.f0) ((rd_T43 x9 x11).f0.f1)).bind fun t262 => (if t262 = true then (impl_isUsed.j1 k x5 x6 x9 x10 x11 (decide (((rd_T43 x9 x11).f0.f0) > x6)) x259000 x259001 x259002 ((rd_T43 x9 x11).f0.f0) ((rd_T43 x9 x11).f0.f1) ((rd_T43 x9 x11).f1)) else (impl_isUsed.j1 k x5 x6 x9 x10 x11 false x259000 x259001 x259002 ((rd_T43 x9 x11).f0.f0) ((rd_T43 x9 x11).f0.f1) ((rd_T43 x9 x11).f1)))) else (impl_isUsed.j1 k x5 x6 x9 x10 x11 false x259000 x259001 x259002 ((rd_T43 x9 x11).f0.f0) ((rd_T43 x9 x11).f0.f1) ((rd_T43 x9 x11).f1))) else (none)) else (none)) else ((impl_Prefix_size.f x259000 x259001).bind fun t259 => (some (decide (x5 < t259))))
def impl_isUsed.j1 : Nat → Int → Int → List (S43) → Int → Int → Bool → Int → Int → Int → Int → Int → Int → Option (Bool)
 | 0, _, _, _, _, _, _, _, _, _, _, _, _ => none
 | k + 1, x5, x6, x9, x10, x11, x31, x259000, x259001, x259002, x262000, x262001, x262002 => if x31 = true then ((impl_Prefix_size.f x262000 x262001).bind fun t263 => ((impl_Prefix_size.f x262000 x262001).bind fun t264 => (impl_isUsed.l0 k (wrap64 (x5 + t263)) (wrap64 ((wrap64 (x262000 + t264)) - 1)) x9 x10 (wrap64 (x11 + 1)) x259000 x259001 x259002))) else (impl_isUsed.l0 k x5 x6 x9 x10 (wrap64 (x11 + 1)) x259000 x259001 x259002)
end
def impl_isUsed.f (k : Nat) (l0 : List (S43)) (a1_0 : Int) (a1_1 : Int) (a1_2 : Int) : Option (Bool) := impl_isUsed.l0 k 0 (-1) l0 (l0.length : Int) 0 a1_0 a1_1 a1_2
theorem impl_isUsed.mono_l : ∀ k, (∀ y0 y1 y2 y3 y4 y5 y6 y7, LeO (impl_isUsed.l0 k y0 y1 y2 y3 y4 y5 y6 y7) (impl_isUsed.l0 (k + 1) y0 y1 y2 y3 y4 y5 y6 y7)) ∧ (∀ y0 y1 y2 y3 y4 y5 y6 y7 y8 y9 y10 y11, LeO (impl_isUsed.j1 k y0 y1 y2 y3 y4 y5 y6 y7 y8 y9 y10 y11) (impl_isUsed.j1 (k + 1) y0 y1 y2 y3 y4 y5 y6 y7 y8 y9 y10 y11))
 | 0 => ⟨fun _ _ _ _ _ _ _ _ r h => by simp [impl_isUsed.l0] at h, fun _ _ _ _ _ _ _ _ _ _ _ _ r h => by simp [impl_isUsed.j1] at h⟩
 | k + 1 => by
  obtain ⟨ih0, ih1⟩ := impl_isUsed.mono_l k
  refine ⟨?_, ?_⟩
  ·intro y0 y1 y2 y3 y4 y5 y6 y7
   unfold impl_isUsed.l0
   repeat' first
   | (with_reducible exact ih0 _ _ _ _ _ _ _ _)
   | (with_reducible exact ih1 _ _ _ _ _ _ _ _ _ _ _ _)
   | (with_reducible exact LeO.refl _)
   | (with_reducible exact LeO.none _)
   | (with_reducible refine LeO.ite ?_ ?_)
   | (with_reducible refine LeO.bind ?_ (fun _ => ?_))
   | exact ih0 _ _ _ _ _ _ _ _
   | exact ih1 _ _ _ _ _ _ _ _ _ _ _ _
   | exact LeO.none _
   | refine LeO.ite ?_ ?_
   | refine LeO.bind ?_ (fun _ => ?_)
  ·intro y0 y1 y2 y3 y4 y5 y6 y7 y8 y9 y10 y11
   unfold impl_isUsed.j1
   repeat' first
   | (with_reducible exact ih0 _ _ _ _ _ _ _ _)
   | (with_reducible exact ih1 _ _ _ _ _ _ _ _ _ _ _ _)
   | (with_reducible exact LeO.refl _)
   | (with_reducible exact LeO.none _)
   | (with_reducible refine LeO.ite ?_ ?_)
   | (with_reducible refine LeO.bind ?_ (fun _ => ?_))
   | exact ih0 _ _ _ _ _ _ _ _
   | exact ih1 _ _ _ _ _ _ _ _ _ _ _ _
   | exact LeO.none _
   | refine LeO.ite ?_ ?_
   | refine LeO.bind ?_ (fun _ => ?_)
theorem impl_isUsed.mono : ∀ a0 a1 a2 a3 k, LeO (impl_isUsed.f k a0 a1 a2 a3) (impl_isUsed.f (k + 1) a0 a1 a2 a3) := by
 intro a0 a1 a2 a3 k
 obtain ⟨ih0, ih1⟩ := impl_isUsed.mono_l k
 unfold impl_isUsed.f
 repeat' first
   | (with_reducible exact ih0 _ _ _ _ _ _ _ _)
   | (with_reducible exact ih1 _ _ _ _ _ _ _ _ _ _ _ _)
   | (with_reducible exact LeO.refl _)
   | (with_reducible exact LeO.none _)
   | (with_reducible refine LeO.ite ?_ ?_)
   | (with_reducible refine LeO.bind ?_ (fun _ => ?_))
   | exact ih0 _ _ _ _ _ _ _ _
   | exact ih1 _ _ _ _ _ _ _ _ _ _ _ _
   | exact LeO.none _
   | refine LeO.ite ?_ ?_
   | refine LeO.bind ?_ (fun _ => ?_)
def impl_isUsed.T7 : Bool × List (List Nat × List Nat) := (true, [([], []), ([0], [0]), ([1], [1]), ([], []), ([3], [3]), ([4], [4]), ([2, 5], [2, 5]), ([6], [6]), ([7, 5, 0, 1, 2, 3, 4, 5, 6, 7], [7])])
def impl_isUsed.B7 : List Nat := [0, 1, 3, 0, 8, 24, 63, 127, 255]
theorem impl_isUsed.tab7 : rtab .any (opsOf Try.f61 7) = impl_isUsed.T7 := by kernel_rfl
theorem impl_isUsed.bits7 : waitsOk impl_isUsed.T7.2 impl_isUsed.B7 = true := by kernel_rfl
set_option maxHeartbeats 8000000 in
set_option maxRecDepth 100000 in
theorem impl_isUsed.calls (k : Nat) (A0 : Option Addr) (c0 : Nat) (l0 : List (S43)) (a1_0 : Int) (a1_1 : Int) (a1_2 : Int) (r : Bool) (w : World) (hr0 : Kd.C k43 w A0 l0.length l0) (hc0 : l0.length ≤ c0) (h : impl_isUsed.f k l0 a1_0 a1_1 a1_2 = some r) :
  Calls Try.prog 61 #[.slice A0 l0.length c0, .agg #[.int .i64 a1_0, .int .i64 a1_1, .int .i64 a1_2]] w fun e w' => e = .returned (.bool r) ∧ Below w.heap.size w w' := by
 have hu43 := Try.underlying43
 have hu34 := Try.underlying34
 have HR0 := Aside0.mk hr0
 have HC0 := Aside0.mk hc0
 clear hr0 hc0
 have HB := Aside0.mk (Below.refl w.heap.size w)
 have H : (impl_isUsed.l0 k 0 (-1) l0 (l0.length : Int) 0 a1_0 a1_1 a1_2) = some r := h
 clear h
 have H' := Aside0.mk H
 clear H
 go_enter Try.func61, Try.ntmps61
 go_wp2_with (first | ((with_reducible refine gate_dst (N := 3) rfl ?_); refine box_event ?hg (N := 3) ?hd (cs := #[.int .i64 a1_0, .int .i64 a1_1, .int .i64 a1_2]) (t := 43) ?hr ?_; (case hd => rfl); (case hg => rfl); (case hr => first | (go_simp; done) | (go_simp; rfl)); intro gb258 hg w3 hbox hb; have BK258 := Aside0.mk hbox; have GW258 := ge_ HB hg; have GE258 := ge_ HB hg; replace HB := Aside0.mk (bt_ HB hb); clear hb hbox hg))
 go_loopg [5, 6, 11] k (fun kq v5 v6 v11 w' => ∃ (x5_1 : Int) (x6_1 : Int) (x11_1 : Int), v5 = .int .i64 x5_1 ∧ v6 = .int .i64 x6_1 ∧ v11 = .int .i64 x11_1 ∧ Aside0 (impl_isUsed.l0 kq x5_1 x6_1 l0 (l0.length : Int) x11_1 a1_0 a1_1 a1_2 = some r) ∧ Aside0 (kq ≤ k) ∧ Aside0 (w'.heap[gb258]? = some (.cells #[.int .i64 a1_0, .int .i64 a1_1, .int .i64 a1_2] 43 (0, 0))) ∧ Aside0 (Below w.heap.size w w'))
 case atStart => exact ⟨(0), ((-1)), (0), (by first | rfl | (simp; done) | (simp [*]; done)), (by first | rfl | (simp; done) | (simp [*]; done)), (by first | rfl | (simp; done) | (simp [*]; done)), H', ⟨Nat.le_refl _⟩, ⟨by (with_reducible repeat (first | refine blk_drewN ?_ _ | refine blk_drew ?_ | refine blk_alloc ?_ _)); exact BK258.out⟩, ⟨by repeat (first | (with_reducible first | exact HB.out | apply below_alloc | apply pw_below_drewN | apply below_drew1 | refine below_set ?_ GE258.out) | exact HB.out)⟩⟩
 case round =>
  clear H'
  try clear p2
  obtain ⟨x5_1, x6_1, x11_1, rfl, rfl, rfl, HA, HK1, BK258, HB⟩ := hrel
  cases gk with
  | zero => exact absurd HA.out (by simp [impl_isUsed.l0])
  | succ k1 =>
   have H := HA.out
   clear HA
   simp only [impl_isUsed.l0] at H
   by_cases c4 : x11_1 < (l0.length : Int)
   rotate_left
   ·rw [if_neg c4] at H
    have c4b0 : decide (x11_1 < (l0.length : Int)) = false := decide_eq_false c4
    clear c4
    replace H := Option.bind_eq_some_iff.mp H
    obtain ⟨t259, A340, H⟩ := H
    have A34 := Aside0.mk A340
    clear A340
    obtain rfl := Option.some.inj H
    have hcz35_0 := cz_ BK258 0 (.int .i64 a1_0)
    have hcz35_1 := cz_ BK258 1 (.int .i64 a1_1)
    have hcz35_2 := cz_ BK258 2 (.int .i64 a1_2)
    have hfz35_0 := blk_frozen BK258.out 0
    have hfz35_1 := blk_frozen BK258.out 1
    have hfz35_2 := blk_frozen BK258.out 2
    go_wp2_with (first | ((with_reducible refine gate_callee (f := 47) rfl ?_); refine gl_ (some 49) Try.func47 #[.agg #[.int .i64 a1_0, .int .i64 a1_1]] ?_; (with_reducible refine (impl_Prefix_size.calls a1_0 a1_1 t259 _ A34.out).mono ?_); rintro e w36 ⟨rfl, hb⟩; refine ⟨_, rfl, ?_⟩; replace BK258 := Aside0.mk (bb_ BK258 hb); replace HB := Aside0.mk (bt_ HB hb); (try clear hb); (try clear hb2); (try clear hk); (try clear hi)))
    go_ret
    exact ⟨by first | rfl | (simp [errW_none, errW_some] <;> rfl) | (simp [*, errW_none, errW_some] <;> rfl), by repeat (first | (with_reducible first | exact HB.out | apply below_alloc | apply pw_below_drewN | apply below_drew1 | refine below_set ?_ GE258.out) | exact HB.out)⟩
   rw [if_pos c4] at H
   have c4b0 : decide (x11_1 < (l0.length : Int)) = true := decide_eq_true c4
   clear c4
   by_cases c5 : 0 ≤ x11_1
   rotate_left
   ·rw [if_neg c5] at H
    exact absurd H (by simp)
   rw [if_pos c5] at H
   have c5b0 : decide (0 ≤ x11_1) = true := decide_eq_true c5
   clear c5
   by_cases c6 : x11_1 < (l0.length : Int)
   rotate_left
   ·rw [if_neg c6] at H
    exact absurd H (by simp)
   rw [if_pos c6] at H
   have c6b0 : decide (x11_1 < (l0.length : Int)) = true := decide_eq_true c6
   clear c6
   have HC7 := Aside0.mk H
   clear H
   have p260 : 0 ≤ (x11_1 : Int) := of_decide_eq_true (by first | (with_reducible assumption) | assumption)
   have q260 : x11_1 < (l0.length : Int) := of_decide_eq_true (by first | (with_reducible assumption) | assumption)
   obtain ⟨ad260, e260, hx260_0, hx260_1, hx260_2⟩ := at_T43 HR0.out x11_1 p260 q260
   cases e260
   replace hx260_0 := (HB.out.cell (World.block_lt_of_cell? w _ hx260_0)).trans hx260_0
   replace hx260_1 := (HB.out.cell (World.block_lt_of_cell? w _ hx260_1)).trans hx260_1
   replace hx260_2 := (HB.out.cell (World.block_lt_of_cell? w _ hx260_2)).trans hx260_2
   replace p260 := eq_true p260
   replace q260 := eq_true q260
   go_upto_region 5 with (first | ((with_reducible refine gate_dst (N := 8) rfl ?_); refine box_event ?hg (N := 8) ?hd (cs := #[.int .i64 0, .int .i64 0, .int .i64 0]) (t := 43) ?hr ?_; (case hd => rfl); (case hg => rfl); (case hr => first | (go_simp; done) | (go_simp; rfl)); intro gb261 hg w8 hbox hb; have BK261 := Aside0.mk hbox; have GW261 := ge_ HB hg; have GE261 := ge_ HB hg; have NB258_261 := nl_ BK258 hg; have NB261_258 := ng_ BK258 hg; replace HB := Aside0.mk (bt_ HB hb); replace BK258 := Aside0.mk (bb_ BK258 hb); clear hb hbox hg; have hnb9 := NB261_258.out; have hnc9 := NB258_261.out; have hcz10_0 := cz_ BK261 0 (.int .i64 0); have hcz10_1 := cz_ BK261 1 (.int .i64 0); have hcz10_2 := cz_ BK261 2 (.int .i64 0); have hfz10_0 := blk_frozen BK261.out 0; have hfz10_1 := blk_frozen BK261.out 1; have hfz10_2 := blk_frozen BK261.out 2))
   (try simp only [Act.put, List.setIfInBounds_toArray, List.set_cons_zero, List.set_cons_succ])
   go_cut [31] (fun v31 wc => ∃ (kq : Nat) (x31_6 : Bool), v31 = .bool x31_6 ∧ Aside0 (impl_isUsed.j1 kq x5_1 x6_1 l0 (l0.length : Int) x11_1 x31_6 a1_0 a1_1 a1_2 ((rd_T43 l0 x11_1).f0.f0) ((rd_T43 l0 x11_1).f0.f1) ((rd_T43 l0 x11_1).f1) = some r) ∧ Aside0 (kq ≤ k1) ∧ Aside0 (wc.heap[gb258]? = some (.cells #[.int .i64 a1_0, .int .i64 a1_1, .int .i64 a1_2] 43 (0, 0))) ∧ Aside0 (wc.heap[gb261]? = some (.cells #[.int .i64 ((rd_T43 l0 x11_1).f0.f0), .int .i64 ((rd_T43 l0 x11_1).f0.f1), .int .i64 ((rd_T43 l0 x11_1).f1)] 43 (0, 0))) ∧ Aside0 (Below w.heap.size w wc))
   case first =>
    have H := HC7.out
    clear HC7
    by_cases c11 : ((!(((rd_T43 l0 x11_1).f0.f0) == a1_0) || (!(((rd_T43 l0 x11_1).f0.f1) == a1_1))) || (!(((rd_T43 l0 x11_1).f1) == a1_2))) = true
    rotate_left
    ·rw [if_neg c11] at H
     have c11b0 : ((!(((rd_T43 l0 x11_1).f0.f0) == a1_0) || (!(((rd_T43 l0 x11_1).f0.f1) == a1_1))) || (!(((rd_T43 l0 x11_1).f1) == a1_2))) = false := by simpa using c11
     clear c11
     (first | rw [c11b0] | (simp only [i64_w, i32_w]; rw [c11b0]) | skip)
     have H' := Aside0.mk H
     clear H
     have hnb23 := NB261_258.out
     have hnc23 := NB258_261.out
     have hcz24_0 := cz_ BK261 0 (.int .i64 0)
     have hcz24_1 := cz_ BK261 1 (.int .i64 0)
     have hcz24_2 := cz_ BK261 2 (.int .i64 0)
     have hfz24_0 := blk_frozen BK261.out 0
     have hfz24_1 := blk_frozen BK261.out 1
     have hfz24_2 := blk_frozen BK261.out 2
     have hcz25_0 := cz_ BK258 0 (.int .i64 a1_0)
     have hcz25_1 := cz_ BK258 1 (.int .i64 a1_1)
     have hcz25_2 := cz_ BK258 2 (.int .i64 a1_2)
     have hfz25_0 := blk_frozen BK258.out 0
     have hfz25_1 := blk_frozen BK258.out 1
     have hfz25_2 := blk_frozen BK258.out 2
     go_wp2
     go_meet
     case rel => exact ⟨_, (false), (by first | rfl | (simp; done) | (simp [*]; done)), H', ⟨by have := HK1.out; first | omega | exact Nat.le_refl _⟩, ⟨by (with_reducible repeat (first | refine blk_drewN ?_ _ | refine blk_drew ?_ | refine blk_alloc ?_ _)); refine blk_far ?_ NB258_261.out _; (with_reducible repeat (first | refine blk_drewN ?_ _ | refine blk_drew ?_ | refine blk_alloc ?_ _)); refine blk_far ?_ NB258_261.out _; (with_reducible repeat (first | refine blk_drewN ?_ _ | refine blk_drew ?_ | refine blk_alloc ?_ _)); refine blk_far ?_ NB258_261.out _; (with_reducible repeat (first | refine blk_drewN ?_ _ | refine blk_drew ?_ | refine blk_alloc ?_ _)); exact BK258.out⟩, ⟨by (with_reducible repeat (first | refine blk_drewN ?_ _ | refine blk_drew ?_ | refine blk_alloc ?_ _)); refine blk_put (cs := #[.int .i64 ((rd_T43 l0 x11_1).f0.f0), .int .i64 ((rd_T43 l0 x11_1).f0.f1), .int .i64 0]) ?_ 2 _ rfl; (with_reducible repeat (first | refine blk_drewN ?_ _ | refine blk_drew ?_ | refine blk_alloc ?_ _)); refine blk_put (cs := #[.int .i64 ((rd_T43 l0 x11_1).f0.f0), .int .i64 0, .int .i64 0]) ?_ 1 _ rfl; (with_reducible repeat (first | refine blk_drewN ?_ _ | refine blk_drew ?_ | refine blk_alloc ?_ _)); refine blk_put (cs := #[.int .i64 0, .int .i64 0, .int .i64 0]) ?_ 0 _ rfl; (with_reducible repeat (first | refine blk_drewN ?_ _ | refine blk_drew ?_ | refine blk_alloc ?_ _)); exact BK261.out⟩, ⟨by repeat (first | (with_reducible first | exact HB.out | apply below_alloc | apply pw_below_drewN | apply below_drew1 | refine below_set ?_ GE258.out | refine below_set ?_ GE261.out) | exact HB.out)⟩⟩
    rw [if_pos c11] at H
    have c11b0 : ((!(((rd_T43 l0 x11_1).f0.f0) == a1_0) || (!(((rd_T43 l0 x11_1).f0.f1) == a1_1))) || (!(((rd_T43 l0 x11_1).f1) == a1_2))) = true := c11
    clear c11
    (first | rw [c11b0] | (simp only [i64_w, i32_w]; rw [c11b0]) | skip)
    replace H := Option.bind_eq_some_iff.mp H
    obtain ⟨t262, A120, H⟩ := H
    have A12 := Aside0.mk A120
    clear A120
    by_cases c13 : t262 = true
    ·subst c13
     rw [if_pos rfl] at H
     have H' := Aside0.mk H
     clear H
     have hnb14 := NB261_258.out
     have hnc14 := NB258_261.out
     have hcz15_0 := cz_ BK261 0 (.int .i64 0)
     have hcz15_1 := cz_ BK261 1 (.int .i64 0)
     have hcz15_2 := cz_ BK261 2 (.int .i64 0)
     have hfz15_0 := blk_frozen BK261.out 0
     have hfz15_1 := blk_frozen BK261.out 1
     have hfz15_2 := blk_frozen BK261.out 2
     have hcz16_0 := cz_ BK258 0 (.int .i64 a1_0)
     have hcz16_1 := cz_ BK258 1 (.int .i64 a1_1)
     have hcz16_2 := cz_ BK258 2 (.int .i64 a1_2)
     have hfz16_0 := blk_frozen BK258.out 0
     have hfz16_1 := blk_frozen BK258.out 1
     have hfz16_2 := blk_frozen BK258.out 2
     go_wp2_with (first | (go_at_call 64; (with_reducible refine (impl_Prefix_covers.calls a1_0 a1_1 ((rd_T43 l0 x11_1).f0.f0) ((rd_T43 l0 x11_1).f0.f1) true _ A12.out).mono ?_); rintro e w17 ⟨rfl, hb⟩; replace BK258 := bf_ BK258 NB258_261 hb; replace BK261 := Aside0.mk (blk_below (g := gb261) (o := .cells #[.int .i64 ((rd_T43 l0 x11_1).f0.f0), .int .i64 ((rd_T43 l0 x11_1).f0.f1), .int .i64 ((rd_T43 l0 x11_1).f1)] 43 (0, 0)) (by (with_reducible repeat (first | refine blk_drewN ?_ _ | refine blk_drew ?_ | refine blk_alloc ?_ _)); refine blk_put (cs := #[.int .i64 ((rd_T43 l0 x11_1).f0.f0), .int .i64 ((rd_T43 l0 x11_1).f0.f1), .int .i64 0]) ?_ 2 _ rfl; (with_reducible repeat (first | refine blk_drewN ?_ _ | refine blk_drew ?_ | refine blk_alloc ?_ _)); refine blk_put (cs := #[.int .i64 ((rd_T43 l0 x11_1).f0.f0), .int .i64 0, .int .i64 0]) ?_ 1 _ rfl; (with_reducible repeat (first | refine blk_drewN ?_ _ | refine blk_drew ?_ | refine blk_alloc ?_ _)); refine blk_put (cs := #[.int .i64 0, .int .i64 0, .int .i64 0]) ?_ 0 _ rfl; (with_reducible repeat (first | refine blk_drewN ?_ _ | refine blk_drew ?_ | refine blk_alloc ?_ _)); exact BK261.out) hb); replace HB := Aside0.mk (bt_ HB hb); (try clear hb); (try clear hb2); (try clear hk); (try clear hi); have hcz18_0 := cz_ BK261 0 (.int .i64 ((rd_T43 l0 x11_1).f0.f0)); have hcz18_1 := cz_ BK261 1 (.int .i64 ((rd_T43 l0 x11_1).f0.f1)); have hcz18_2 := cz_ BK261 2 (.int .i64 ((rd_T43 l0 x11_1).f1)); have hfz18_0 := blk_frozen BK261.out 0; have hfz18_1 := blk_frozen BK261.out 1; have hfz18_2 := blk_frozen BK261.out 2))
     go_meet
     case rel => exact ⟨_, (decide (((rd_T43 l0 x11_1).f0.f0) > x6_1)), (by first | rfl | (simp; done) | (simp [*]; done)), H', ⟨by have := HK1.out; first | omega | exact Nat.le_refl _⟩, ⟨by (with_reducible repeat (first | refine blk_drewN ?_ _ | refine blk_drew ?_ | refine blk_alloc ?_ _)); exact BK258.out⟩, ⟨by (with_reducible repeat (first | refine blk_drewN ?_ _ | refine blk_drew ?_ | refine blk_alloc ?_ _)); exact BK261.out⟩, ⟨by repeat (first | (with_reducible first | exact HB.out | apply below_alloc | apply pw_below_drewN | apply below_drew1 | refine below_set ?_ GE258.out | refine below_set ?_ GE261.out) | exact HB.out)⟩⟩
    replace c13 := Bool.eq_false_iff.mpr c13
    subst c13
    rw [if_neg (show ¬ (false = true) by decide)] at H
    have H' := Aside0.mk H
    clear H
    have hnb19 := NB261_258.out
    have hnc19 := NB258_261.out
    have hcz20_0 := cz_ BK261 0 (.int .i64 0)
    have hcz20_1 := cz_ BK261 1 (.int .i64 0)
    have hcz20_2 := cz_ BK261 2 (.int .i64 0)
    have hfz20_0 := blk_frozen BK261.out 0
    have hfz20_1 := blk_frozen BK261.out 1
    have hfz20_2 := blk_frozen BK261.out 2
    have hcz21_0 := cz_ BK258 0 (.int .i64 a1_0)
    have hcz21_1 := cz_ BK258 1 (.int .i64 a1_1)
    have hcz21_2 := cz_ BK258 2 (.int .i64 a1_2)
    have hfz21_0 := blk_frozen BK258.out 0
    have hfz21_1 := blk_frozen BK258.out 1
    have hfz21_2 := blk_frozen BK258.out 2
    go_wp2_with (first | (go_at_call 64; (with_reducible refine (impl_Prefix_covers.calls a1_0 a1_1 ((rd_T43 l0 x11_1).f0.f0) ((rd_T43 l0 x11_1).f0.f1) false _ A12.out).mono ?_); rintro e w22 ⟨rfl, hb⟩; replace BK258 := bf_ BK258 NB258_261 hb; replace BK261 := Aside0.mk (blk_below (g := gb261) (o := .cells #[.int .i64 ((rd_T43 l0 x11_1).f0.f0), .int .i64 ((rd_T43 l0 x11_1).f0.f1), .int .i64 ((rd_T43 l0 x11_1).f1)] 43 (0, 0)) (by (with_reducible repeat (first | refine blk_drewN ?_ _ | refine blk_drew ?_ | refine blk_alloc ?_ _)); refine blk_put (cs := #[.int .i64 ((rd_T43 l0 x11_1).f0.f0), .int .i64 ((rd_T43 l0 x11_1).f0.f1), .int .i64 0]) ?_ 2 _ rfl; (with_reducible repeat (first | refine blk_drewN ?_ _ | refine blk_drew ?_ | refine blk_alloc ?_ _)); refine blk_put (cs := #[.int .i64 ((rd_T43 l0 x11_1).f0.f0), .int .i64 0, .int .i64 0]) ?_ 1 _ rfl; (with_reducible repeat (first | refine blk_drewN ?_ _ | refine blk_drew ?_ | refine blk_alloc ?_ _)); refine blk_put (cs := #[.int .i64 0, .int .i64 0, .int .i64 0]) ?_ 0 _ rfl; (with_reducible repeat (first | refine blk_drewN ?_ _ | refine blk_drew ?_ | refine blk_alloc ?_ _)); exact BK261.out) hb); replace HB := Aside0.mk (bt_ HB hb); (try clear hb); (try clear hb2); (try clear hk); (try clear hi)))
    go_meet
    case rel => exact ⟨_, (false), (by first | rfl | (simp; done) | (simp [*]; done)), H', ⟨by have := HK1.out; first | omega | exact Nat.le_refl _⟩, ⟨by (with_reducible repeat (first | refine blk_drewN ?_ _ | refine blk_drew ?_ | refine blk_alloc ?_ _)); exact BK258.out⟩, ⟨by (with_reducible repeat (first | refine blk_drewN ?_ _ | refine blk_drew ?_ | refine blk_alloc ?_ _)); exact BK261.out⟩, ⟨by repeat (first | (with_reducible first | exact HB.out | apply below_alloc | apply pw_below_drewN | apply below_drew1 | refine below_set ?_ GE258.out | refine below_set ?_ GE261.out) | exact HB.out)⟩⟩
   case rest =>
    clear HC7
    try clear c1
    try clear c2
    try clear p2
    try clear q2
    try clear hx2
    try clear c4
    try clear c4b0
    try clear c5
    try clear c5b0
    try clear c6
    try clear c6b0
    try clear c9
    try clear c11
    try clear c11b0
    try clear c13
    try clear c14
    try clear c19
    try clear c23
    try clear hcz10_0
    try clear hcz10_1
    try clear hcz10_2
    try clear hcz15_0
    try clear hcz15_1
    try clear hcz15_2
    try clear hcz16_0
    try clear hcz16_1
    try clear hcz16_2
    try clear hcz18_0
    try clear hcz18_1
    try clear hcz18_2
    try clear hcz20_0
    try clear hcz20_1
    try clear hcz20_2
    try clear hcz21_0
    try clear hcz21_1
    try clear hcz21_2
    try clear hcz24_0
    try clear hcz24_1
    try clear hcz24_2
    try clear hcz25_0
    try clear hcz25_1
    try clear hcz25_2
    try clear hfz10_0
    try clear hfz10_1
    try clear hfz10_2
    try clear hfz15_0
    try clear hfz15_1
    try clear hfz15_2
    try clear hfz16_0
    try clear hfz16_1
    try clear hfz16_2
    try clear hfz18_0
    try clear hfz18_1
    try clear hfz18_2
    try clear hfz20_0
    try clear hfz20_1
    try clear hfz20_2
    try clear hfz21_0
    try clear hfz21_1
    try clear hfz21_2
    try clear hfz24_0
    try clear hfz24_1
    try clear hfz24_2
    try clear hfz25_0
    try clear hfz25_1
    try clear hfz25_2
    try clear hx260_0
    try clear hx260_1
    try clear hx260_2
    try clear p2
    try clear p260
    try clear q260
    obtain ⟨kq, x31_6, rfl, HA, HJ6, BK258, BK261, HB⟩ := hcut
    cases kq with
    | zero => exact absurd HA.out (by simp [impl_isUsed.j1])
    | succ kj6 =>
     have H := HA.out
     clear HA
     simp only [impl_isUsed.j1] at H
     by_cases c26 : x31_6 = true
     rotate_left
     ·replace c26 := Bool.eq_false_iff.mpr c26
      subst c26
      rw [if_neg (show ¬ (false = true) by decide)] at H
      have H' := Aside0.mk H
      clear H
      go_wp2
      go_roundg kj6
      case measure => have := HK1.out; have := HJ6.out; omega
      case rel => exact ⟨(x5_1), (x6_1), (wrap64 (x11_1 + 1)), (by first | rfl | (simp; done) | (simp [*]; done)), (by first | rfl | (simp; done) | (simp [*]; done)), (by first | rfl | (simp; done) | (simp [*]; done)), H', ⟨by have := HK1.out; have := HJ6.out; omega⟩, ⟨by (with_reducible repeat (first | refine blk_drewN ?_ _ | refine blk_drew ?_ | refine blk_alloc ?_ _)); exact BK258.out⟩, ⟨by repeat (first | (with_reducible first | exact HB.out | apply below_alloc | apply pw_below_drewN | apply below_drew1 | refine below_set ?_ GE258.out | refine below_set ?_ GE261.out) | exact HB.out)⟩⟩
     subst c26
     rw [if_pos rfl] at H
     replace H := Option.bind_eq_some_iff.mp H
     obtain ⟨t263, A270, H⟩ := H
     have A27 := Aside0.mk A270
     clear A270
     replace H := Option.bind_eq_some_iff.mp H
     obtain ⟨t264, A280, H⟩ := H
     have A28 := Aside0.mk A280
     clear A280
     have H' := Aside0.mk H
     clear H
     have hnb29 := NB261_258.out
     have hnc29 := NB258_261.out
     have hcz30_0 := cz_ BK261 0 (.int .i64 ((rd_T43 l0 x11_1).f0.f0))
     have hcz30_1 := cz_ BK261 1 (.int .i64 ((rd_T43 l0 x11_1).f0.f1))
     have hcz30_2 := cz_ BK261 2 (.int .i64 ((rd_T43 l0 x11_1).f1))
     have hfz30_0 := blk_frozen BK261.out 0
     have hfz30_1 := blk_frozen BK261.out 1
     have hfz30_2 := blk_frozen BK261.out 2
     try go_wp2_with (first | ((with_reducible refine gate_callee (f := 47) rfl ?_); refine gl_ (some 35) Try.func47 #[.agg #[.int .i64 ((rd_T43 l0 x11_1).f0.f0), .int .i64 ((rd_T43 l0 x11_1).f0.f1)]] ?_; (with_reducible refine (impl_Prefix_size.calls ((rd_T43 l0 x11_1).f0.f0) ((rd_T43 l0 x11_1).f0.f1) t263 _ A27.out).mono ?_); rintro e w31 ⟨rfl, hb⟩; refine ⟨_, rfl, ?_⟩; replace BK258 := Aside0.mk (bb_ BK258 hb); replace BK261 := Aside0.mk (bb_ BK261 hb); replace HB := Aside0.mk (bt_ HB hb); (try clear hb); (try clear hb2); (try clear hk); (try clear hi)))
     replace BK258 := Aside0.mk (blk_drew BK258.out)
     replace BK261 := Aside0.mk (blk_drew BK261.out)
     replace HB := Aside0.mk (below_drew1 HB.out)
     refine start_ (n := 9) (S := fun w' => w'.cell? ⟨gb261, 0, none⟩ = some (.int .i64 ((rd_T43 l0 x11_1).f0.f0)) ∧ w'.cell? ⟨gb261, 1, none⟩ = some (.int .i64 ((rd_T43 l0 x11_1).f0.f1)) ∧ w'.cell? ⟨gb261, 2, none⟩ = some (.int .i64 ((rd_T43 l0 x11_1).f1))) (ds := []) ba14_21 (by kernel_rfl) rfl rfl ⟨(blk_cell BK261.out 0).trans rfl, (blk_cell BK261.out 1).trans rfl, (blk_cell BK261.out 2).trans rfl⟩ (fun hHeld => ?_); refine with_tabW impl_isUsed.tab7 impl_isUsed.bits7 (fun HT_ HW_ => ?_)
     generalize w31.drew = w32 at BK258 BK261 HB hHeld ⊢
     refine pz_ 0 37 ba14_22 HT_ ?_
     refine pz_ 1 38 ba14_23 HT_ ?_
     refine pz_ 3 40 ba14_24 HT_ ?_
     refine pt_ 2 39 ba14_25 HT_ HW_ hHeld ?_
     refine pt_ 4 41 ba14_26 HT_ HW_ hHeld ?_
     refine one_ (i := 5) (N := some 42) ba14_27 rfl rfl (one_of HT_.out (by kernel_rfl)) (by decide) (fun K hK => ?_)
     refine gz_ Try.func47 #[.agg #[.int .i64 ((rd_T43 l0 x11_1).f0.f0), .int .i64 ((rd_T43 l0 x11_1).f0.f1)]] ?_
     with_reducible refine (impl_Prefix_size.calls ((rd_T43 l0 x11_1).f0.f0) ((rd_T43 l0 x11_1).f0.f1) t264 _ A28.out).mono ?_
     rintro e w33 ⟨rfl, hb⟩
     refine ⟨_, rfl, ?_⟩
     replace BK258 := Aside0.mk (bb_ BK258 hb)
     replace BK261 := Aside0.mk (bb_ BK261 hb)
     replace HB := Aside0.mk (bt_ HB hb)
     (try clear hb)
     (try clear hb2)
     (try clear hk)
     (try clear hi)
     refine hK.out _ _ ⟨(blk_cell BK261.out 0).trans rfl, (blk_cell BK261.out 1).trans rfl, (blk_cell BK261.out 2).trans rfl⟩ (fun hHeld => ?_)
     clear hK K
     refine nz_ 42 ?_
     refine pz_ 6 43 ba14_28 HT_ ?_
     refine pz_ 7 44 ba14_29 HT_ ?_
     refine pz_ 8 6 ba14_30 HT_ ?_
     refine done_ (done_of HT_.out (by kernel_rfl)) ?_
     try go_wp2
     go_roundg kj6
     case measure => have := HK1.out; have := HJ6.out; omega
     case rel => exact ⟨(wrap64 (x5_1 + t263)), (wrap64 ((wrap64 (((rd_T43 l0 x11_1).f0.f0) + t264)) - 1)), (wrap64 (x11_1 + 1)), (by first | rfl | (simp; done) | (simp [*]; done)), (by first | rfl | (simp; done) | (simp [*]; done)), (by first | rfl | (simp; done) | (simp [*]; done)), H', ⟨by have := HK1.out; have := HJ6.out; omega⟩, ⟨by (with_reducible repeat (first | refine blk_drewN ?_ _ | refine blk_drew ?_ | refine blk_alloc ?_ _)); exact BK258.out⟩, ⟨by repeat (first | (with_reducible first | exact HB.out | apply below_alloc | apply pw_below_drewN | apply below_drew1 | refine below_set ?_ GE258.out | refine below_set ?_ GE261.out) | exact HB.out)⟩⟩

/-! ### impl_isRedundant_1: function 63 -/
def impl_isRedundant_1.f (a0_0 : Int) (a0_1 : Int) (a0_2 : Int) (l1 : List (S43)) : Option (Bool) := if 0 < (l1.length : Int) then ((impl_Prefix_covers.f a0_0 a0_1 ((rd_T43 l1 0).f0.f0) ((rd_T43 l1 0).f0.f1)).bind fun t267 => (if t267 = true then (some ((a0_0 == ((rd_T43 l1 0).f0.f0) && (a0_1 == ((rd_T43 l1 0).f0.f1))) && (a0_2 == ((rd_T43 l1 0).f1)))) else (some true))) else (none)
set_option maxHeartbeats 8000000 in
set_option maxRecDepth 100000 in
theorem impl_isRedundant_1.calls (a0_0 : Int) (a0_1 : Int) (a0_2 : Int) (A1 : Option Addr) (l1 : List (S43)) (r : Bool) (w : World) (hr1 : Kd.C k43 w A1 l1.length l1) (h : impl_isRedundant_1.f a0_0 a0_1 a0_2 l1 = some r) :
  Calls Try.prog 63 #[.agg #[.int .i64 a0_0, .int .i64 a0_1, .int .i64 a0_2], .pointer A1] w fun e w' => e = .returned (.bool r) ∧ Below w.heap.size w w' := by
 have hu43 := Try.underlying43
 have hu34 := Try.underlying34
 have HR1 := Aside0.mk hr1
 clear hr1
 have HB := Aside0.mk (Below.refl w.heap.size w)
 have H : (if 0 < (l1.length : Int) then ((impl_Prefix_covers.f a0_0 a0_1 ((rd_T43 l1 0).f0.f0) ((rd_T43 l1 0).f0.f1)).bind fun t267 => (if t267 = true then (some ((a0_0 == ((rd_T43 l1 0).f0.f0) && (a0_1 == ((rd_T43 l1 0).f0.f1))) && (a0_2 == ((rd_T43 l1 0).f1)))) else (some true))) else (none)) = some r := h
 clear h
 by_cases c3 : 0 < (l1.length : Int)
 rotate_left
 ·rw [if_neg c3] at H
  exact absurd H (by simp)
 rw [if_pos c3] at H
 have c3b0 : decide (0 < (l1.length : Int)) = true := decide_eq_true c3
 have c3b1 : decide (0 < l1.length) = true := decide_eq_true (by omega)
 clear c3
 replace H := Option.bind_eq_some_iff.mp H
 obtain ⟨t267, A40, H⟩ := H
 have A4 := Aside0.mk A40
 clear A40
 by_cases c5 : t267 = true
 ·subst c5
  rw [if_pos rfl] at H
  obtain rfl := Option.some.inj H
  go_enter Try.func63, Try.ntmps63
  go_wp2_with (first | ((with_reducible refine gate_dst (N := 2) rfl ?_); refine box_event ?hg (N := 2) ?hd (cs := #[.int .i64 a0_0, .int .i64 a0_1, .int .i64 a0_2]) (t := 43) ?hr ?_; (case hd => rfl); (case hg => rfl); (case hr => first | (go_simp; done) | (go_simp; rfl)); intro gb265 hg w6 hbox hb; have BK265 := Aside0.mk hbox; have GW265 := ge_ HB hg; have GE265 := ge_ HB hg; replace HB := Aside0.mk (bt_ HB hb); clear hb hbox hg; have hcz7_0 := cz_ BK265 0 (.int .i64 a0_0); have hcz7_1 := cz_ BK265 1 (.int .i64 a0_1); have hcz7_2 := cz_ BK265 2 (.int .i64 a0_2); have hfz7_0 := blk_frozen BK265.out 0; have hfz7_1 := blk_frozen BK265.out 1; have hfz7_2 := blk_frozen BK265.out 2; have p266 : 0 ≤ (0 : Int) := (by omega); have q266 : 0 < (l1.length : Int) := of_decide_eq_true (by first | (with_reducible assumption) | assumption); obtain ⟨ad266, e266, hx266_0, hx266_1, hx266_2⟩ := at_T43 HR1.out 0 p266 q266; cases e266; have qi266 : (0 < l1.length) = True := eq_true (by omega); (try rw [show ((0 : Int)).toNat = 0 from rfl] at hx266_0); (try rw [show 0 * 3 = 0 from rfl] at hx266_0); (try rw [Addr.add_zero'] at hx266_0); (try rw [show ((0 : Int)).toNat = 0 from rfl] at hx266_1); (try rw [show 0 * 3 = 0 from rfl] at hx266_1); (try rw [Addr.add_zero'] at hx266_1); (try rw [show ((0 : Int)).toNat = 0 from rfl] at hx266_2); (try rw [show 0 * 3 = 0 from rfl] at hx266_2); (try rw [Addr.add_zero'] at hx266_2); replace hx266_0 := (HB.out.cell (World.block_lt_of_cell? w _ hx266_0)).trans hx266_0; replace hx266_1 := (HB.out.cell (World.block_lt_of_cell? w _ hx266_1)).trans hx266_1; replace hx266_2 := (HB.out.cell (World.block_lt_of_cell? w _ hx266_2)).trans hx266_2; replace p266 := eq_true p266; replace q266 := eq_true q266) | ((with_reducible refine gate_callee (f := 64) rfl ?_); refine gl_ (some 8) Try.func64 #[.agg #[.int .i64 a0_0, .int .i64 a0_1], .agg #[.int .i64 ((rd_T43 l1 0).f0.f0), .int .i64 ((rd_T43 l1 0).f0.f1)]] ?_; (with_reducible refine (impl_Prefix_covers.calls a0_0 a0_1 ((rd_T43 l1 0).f0.f0) ((rd_T43 l1 0).f0.f1) true _ A4.out).mono ?_); rintro e w8 ⟨rfl, hb⟩; refine ⟨_, rfl, ?_⟩; replace BK265 := Aside0.mk (bb_ BK265 hb); replace HB := Aside0.mk (bt_ HB hb); (try clear hb); (try clear hb2); (try clear hk); (try clear hi); have hcz9_0 := cz_ BK265 0 (.int .i64 a0_0); have hcz9_1 := cz_ BK265 1 (.int .i64 a0_1); have hcz9_2 := cz_ BK265 2 (.int .i64 a0_2); have hfz9_0 := blk_frozen BK265.out 0; have hfz9_1 := blk_frozen BK265.out 1; have hfz9_2 := blk_frozen BK265.out 2; have p268 : 0 ≤ (0 : Int) := (by omega); have q268 : 0 < (l1.length : Int) := of_decide_eq_true (by first | (with_reducible assumption) | assumption); obtain ⟨ad268, e268, hx268_0, hx268_1, hx268_2⟩ := at_T43 HR1.out 0 p268 q268; obtain rfl : ad266 = ad268 := (by injection e268); have qi268 : (0 < l1.length) = True := eq_true (by omega); (try rw [show ((0 : Int)).toNat = 0 from rfl] at hx268_0); (try rw [show 0 * 3 = 0 from rfl] at hx268_0); (try rw [Addr.add_zero'] at hx268_0); (try rw [show ((0 : Int)).toNat = 0 from rfl] at hx268_1); (try rw [show 0 * 3 = 0 from rfl] at hx268_1); (try rw [Addr.add_zero'] at hx268_1); (try rw [show ((0 : Int)).toNat = 0 from rfl] at hx268_2); (try rw [show 0 * 3 = 0 from rfl] at hx268_2); (try rw [Addr.add_zero'] at hx268_2); replace hx268_0 := (HB.out.cell (World.block_lt_of_cell? w _ hx268_0)).trans hx268_0; replace hx268_1 := (HB.out.cell (World.block_lt_of_cell? w _ hx268_1)).trans hx268_1; replace hx268_2 := (HB.out.cell (World.block_lt_of_cell? w _ hx268_2)).trans hx268_2; replace p268 := eq_true p268; replace q268 := eq_true q268))
  go_ret
  exact ⟨by first | rfl | (simp [errW_none, errW_some] <;> rfl) | (simp [*, errW_none, errW_some] <;> rfl), by repeat (first | (with_reducible first | exact HB.out | apply below_alloc | apply pw_below_drewN | apply below_drew1 | refine below_set ?_ GE265.out) | exact HB.out)⟩
 replace c5 := Bool.eq_false_iff.mpr c5
 subst c5
 rw [if_neg (show ¬ (false = true) by decide)] at H
 obtain rfl := Option.some.inj H
 go_enter Try.func63, Try.ntmps63
 go_wp2_with (first | ((with_reducible refine gate_dst (N := 2) rfl ?_); refine box_event ?hg (N := 2) ?hd (cs := #[.int .i64 a0_0, .int .i64 a0_1, .int .i64 a0_2]) (t := 43) ?hr ?_; (case hd => rfl); (case hg => rfl); (case hr => first | (go_simp; done) | (go_simp; rfl)); intro gb265 hg w10 hbox hb; have BK265 := Aside0.mk hbox; have GW265 := ge_ HB hg; have GE265 := ge_ HB hg; replace HB := Aside0.mk (bt_ HB hb); clear hb hbox hg; have hcz11_0 := cz_ BK265 0 (.int .i64 a0_0); have hcz11_1 := cz_ BK265 1 (.int .i64 a0_1); have hcz11_2 := cz_ BK265 2 (.int .i64 a0_2); have hfz11_0 := blk_frozen BK265.out 0; have hfz11_1 := blk_frozen BK265.out 1; have hfz11_2 := blk_frozen BK265.out 2; have p266 : 0 ≤ (0 : Int) := (by omega); have q266 : 0 < (l1.length : Int) := of_decide_eq_true (by first | (with_reducible assumption) | assumption); obtain ⟨ad266, e266, hx266_0, hx266_1, hx266_2⟩ := at_T43 HR1.out 0 p266 q266; cases e266; have qi266 : (0 < l1.length) = True := eq_true (by omega); (try rw [show ((0 : Int)).toNat = 0 from rfl] at hx266_0); (try rw [show 0 * 3 = 0 from rfl] at hx266_0); (try rw [Addr.add_zero'] at hx266_0); (try rw [show ((0 : Int)).toNat = 0 from rfl] at hx266_1); (try rw [show 0 * 3 = 0 from rfl] at hx266_1); (try rw [Addr.add_zero'] at hx266_1); (try rw [show ((0 : Int)).toNat = 0 from rfl] at hx266_2); (try rw [show 0 * 3 = 0 from rfl] at hx266_2); (try rw [Addr.add_zero'] at hx266_2); replace hx266_0 := (HB.out.cell (World.block_lt_of_cell? w _ hx266_0)).trans hx266_0; replace hx266_1 := (HB.out.cell (World.block_lt_of_cell? w _ hx266_1)).trans hx266_1; replace hx266_2 := (HB.out.cell (World.block_lt_of_cell? w _ hx266_2)).trans hx266_2; replace p266 := eq_true p266; replace q266 := eq_true q266) | ((with_reducible refine gate_callee (f := 64) rfl ?_); refine gl_ (some 8) Try.func64 #[.agg #[.int .i64 a0_0, .int .i64 a0_1], .agg #[.int .i64 ((rd_T43 l1 0).f0.f0), .int .i64 ((rd_T43 l1 0).f0.f1)]] ?_; (with_reducible refine (impl_Prefix_covers.calls a0_0 a0_1 ((rd_T43 l1 0).f0.f0) ((rd_T43 l1 0).f0.f1) false _ A4.out).mono ?_); rintro e w12 ⟨rfl, hb⟩; refine ⟨_, rfl, ?_⟩; replace BK265 := Aside0.mk (bb_ BK265 hb); replace HB := Aside0.mk (bt_ HB hb); (try clear hb); (try clear hb2); (try clear hk); (try clear hi)))
 go_ret
 exact ⟨by first | rfl | (simp [errW_none, errW_some] <;> rfl) | (simp [*, errW_none, errW_some] <;> rfl), by repeat (first | (with_reducible first | exact HB.out | apply below_alloc | apply pw_below_drewN | apply below_drew1 | refine below_set ?_ GE265.out) | exact HB.out)⟩

end Go.Proofs.Ytflfbaofgfandaa.QFnExactSqueeze
