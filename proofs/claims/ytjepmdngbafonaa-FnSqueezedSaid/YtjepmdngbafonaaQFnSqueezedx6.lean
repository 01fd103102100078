/- Contracts of functions that the law reaches: what each call returns and what it leaves in memory. Made by this session over the print of the kit. -/
import Derived.Test.YtjepmdngbafonaaQFnSqueezedx0
import Derived.Test.YtjepmdngbafonaaQFnSqueezedx4
import Derived.Test.YtjepmdngbafonaaQFnSqueezedx5
namespace Go.Proofs.Ytjepmdngbafonaa.QFnSqueezed
open Go.RowKit Go.Proofs.YtjepmdngbafonaaZ.PrintWords Go.Proofs.YtjepmdngbafonaaZ.PrintLast Go.Proofs.YtjepmdngbafonaaZ.PrintMore
attribute [local go_sem] max2_int min2_int max_two min_two max_three min_three max_four min_four   -- for this text's walks alone
set_option linter.unusedVariables false
set_option linter.unusedSimpArgs false
def ba6_0 := bs_ 8 0
def ba6_1 := bs_ 8 1
def ba6_2 := bs_ 8 3
def ba6_3 := bs_ 8 7
def ba6_4 := bs_ 8 15
def ba6_5 := bs_ 8 31
def ba6_6 := bs_ 8 63
def ba6_7 := bs_ 8 127
def ba6_8 := bs_ 8 255

/-! ### slices_Delete_impl_Route_impl_Route: function 53 -/
section
open Go.Lib
variable {P : Program} {α : Type}
theorem R_past_run (d : Kd α) {W : World} (base : Nat) (t ty e : TypeId) (ht : P.underlying t = some (.slice e)) (z : Value) (i0 : TypeInfo) (hi : P.info? e = some i0) (hz0 : i0.zero = some z) (hzs : z.cells.size = d.sz) (hs0 : 0 < d.sz) (z0 : α)
  (hzM : ∀ W, d.M W base (fun _ => False) z0 z.cells.toList) {g n c q : Nat} {xs : List α} {ok : Nat → Prop} (HO : d.R e W base ok (.slice (some ⟨g, 0, none⟩) n c) xs) (hq : n + (q + 1) ≤ c) (c2 : Nat) :
  ∃ w1, (Builtin.clear_ #[t] ty #[.slice (some ⟨g, n * d.sz, none⟩) (q + 1) c2]).run P W = .ok (.tuple #[]) w1 ∧ d.R e w1 base ok (.slice (some ⟨g, 0, none⟩) n c) xs ∧ W.grownBy w1 (some g) := by
 obtain ⟨hn, hnc, _⟩ := Kd.R_reads' HO
 have hcm0 : Reps (d.M W base (fun _ => False)) d.sz (List.replicate (q + 1) z0) (Builtin.zeroCells z.cells (q + 1)).toList := Kd.reps_zeros hzs hs0 (hzM W) (q + 1)
 obtain ⟨hok, inner, hown, hr⟩ := HO
 have hin : inner.length = n * d.sz := by rw [hr.1, hn]
 rcases hown.2 with ⟨hv, _⟩ | ⟨g', cap', cur, hv, hb, hh, h9, hcm, hcs, htake⟩
 ·cases hv
 injection hv with ha _ hc
 injection ha with ha
 injection ha with hg
 subst hg; subst hc
 rw [← hn] at htake
 obtain ⟨news, hnews⟩ : ∃ news, news = (Builtin.zeroCells z.cells (q + 1)).toList := ⟨_, rfl⟩
 have hnl : news.length = (q + 1) * d.sz := by rw [hnews, Array.length_toList, size_zeroCells, hzs]
 rw [← hnews] at hcm0
 have hcc : (n + (q + 1)) * d.sz ≤ c * d.sz := Nat.mul_le_mul_right _ hq
 have hadd : (n + (q + 1)) * d.sz = n * d.sz + (q + 1) * d.sz := Nat.add_mul _ _ _
 have hfit : n * d.sz + news.length ≤ cur.size := by omega
 have hone : ∀ u ∈ news, u.oneCell' = true := by
  intro u hu
  obtain ⟨p, hp, rfl⟩ := List.mem_iff_getElem.1 hu
  have hql : p / d.sz < (List.replicate (q + 1) z0).length := by
   rw [List.length_replicate, Nat.div_lt_iff_lt_mul hs0, ← hnl]
   exact hp
  refine d.K_one (d.K_of_M (hcm0.2 (p / d.sz) _ (List.getElem?_eq_getElem hql))) _ ?_
  rw [List.mem_iff_getElem?]
  refine ⟨p % d.sz, ?_⟩
  rw [List.getElem?_take, if_pos (Nat.mod_lt _ hs0), List.getElem?_drop, Nat.mul_comm, Nat.div_add_mod, List.getElem?_eq_getElem hp]
 have hst := run_storeCells_cells (P := P) g (n * d.sz) news 0 W (fun j hj => by rw [cell_of_row W g _ cur e (0, 0) hh]; simp; omega) (fun j _ => blk_frozen hh _) hone
 simp only [Nat.add_zero] at hst
 obtain ⟨cur', h3, h4, h5⟩ := setCells_row news (n * d.sz) W cur hh hfit
 obtain ⟨s1, s2, s3, s4⟩ := setCells_same g news (n * d.sz) W
 have hfar : ∀ k', k' ≠ g → (W.setCells g (n * d.sz) news).heap[k']? = W.heap[k']? := fun k' hk' => setCells_far news _ k' hk'
 have hgo : some g = (Value.slice (some ⟨g, 0, none⟩) n c).ownBlock := by simp [Value.ownBlock]
 have hz : (zeroValue e).run P W = .ok z W := by
  simp [zeroValue, run_typeInfo W hi, hz0]
 refine ⟨W.setCells g (n * d.sz) news, ?_, ⟨fun k' hk' => hok k' hk', inner, ⟨by rw [hin, hn], .inr ⟨g, c, cur', by rw [hn], hb, h3, h9, hcm, by rw [h4, hcs], ?_⟩⟩, ?_⟩, ⟨s1, s2, s3, by rw [s4]; exact Nat.le_refl _, fun k' _ hk' => hfar k' (fun he => hk' (by rw [he]))⟩⟩
 ·rw [hnews] at hst ⊢
  simp [Builtin.clear_, run_underlying ht, hz, hst]
 ·rw [← hn, h5, List.append_assoc]
  have h6 : (cur.toList.take (n * d.sz)).length = n * d.sz := by rw [htake, hin]
  rw [List.take_left' h6, htake]
 ·exact hr.imp_ (fun p q hp => d.M_move (fun k' hk' => hfar k' (fun he => hk'.2 (by rw [← hgo, he]))) hp)
end
section
open Go.Lib
variable {P : Program} {ops : Array Oper} {o : Oper} {a : Act} {Q : Exit → Act → World → Prop} {Kc : Act → World → Prop} {α : Type}
theorem R_delete_step (d : Kd α) {w0 W : World} (base : Nat) (hw : Region.wanted o (yielded ops a.tmps) = true) (s x : Operand) (t e : TypeId) (ho : o.op = .call { callee := .builtin .append, args := #[s, x], argTypes := #[t, t] })
  (ht : P.underlying t = some (.slice e)) (hinfo : (P.info? e).map (·.size) = some d.sz) {g n c k m c2 : Nat} {A : Option Addr} {xs : List α} {ok : Nat → Prop}
  (hs : a.eval s = .slice (some ⟨g, 0, none⟩) k c) (hx : a.eval x = .slice A m c2) (hA : A = if c = k + 1 then some ⟨g, 0, none⟩ else (some (⟨g, 0, none⟩ : Addr)).map (·.add ((k + 1) * d.sz))) (hm : m = n + 1 - (k + 1))
  (HO : d.R e W base ok (.slice (some ⟨g, 0, none⟩) (n + 1) c) xs) (hk : k < n + 1) (HB : Below base w0 W) (hbase : base ≤ W.heap.size)
  (h : ∀ w1, d.R e w1 base ok (.slice (some ⟨g, 0, none⟩) n c) (xs.eraseIdx k) → Below base w0 w1 → W.grownBy w1 (some g) → Kc (a.put o.dst (.slice (some ⟨g, 0, none⟩) n c)) w1) :
  if Region.wanted o (yielded ops a.tmps) = true then Oper.wp P o a W Kc Q else Kc (a.put o.dst undef) W := by
 rw [if_pos hw]
 obtain ⟨i0, hi, hsz⟩ := Option.map_eq_some_iff.1 hinfo
 subst hm
 obtain ⟨w1, hr, h1, h2⟩ := Kd.R_delete_run d base t o.type e i0 ht hi hsz HO hk hA c2
 unfold Oper.wp execOp
 simp only [ho, resolve, invoke, builtin, Sem.run_bind, Sem.run_pure, Result.andThen_ok, List.map_toArray, List.map_cons, List.map_nil, hs, hx, hr]
 exact h w1 h1 (HB.grown h2 hbase (fun k hk => by injection hk with hk; subst hk; exact Kd.R_base HO _ (by simp [Value.ownBlock]))) h2
end
section
open Go.Lib
variable {P : Program} {ops : Array Oper} {rest : List Oper} {o : Oper} {a : Act} {Q : Exit → Act → World → Prop} {α : Type}
theorem R_past (d : Kd α) {w0 W : World} (base : Nat) (hgd : o.guard = none) (s : Operand) (t e : TypeId) (ho : o.op = .call { callee := .builtin .clear, args := #[s], argTypes := #[t] }) (hd : o.dst = none)
  (ht : P.underlying t = some (.slice e)) (z : Value) (bytes : Nat) (hinfo : (P.info? e).map (fun i => (i.zero, i.size, i.bytes)) = some (some z, d.sz, bytes)) (hzs : z.cells.size = d.sz) (hs0 : 0 < d.sz) (z0 : α) (hzM : ∀ W, d.M W base (fun _ => False) z0 z.cells.toList)
  {g n c q m c2 : Nat} {A : Option Addr} {xs : List α} {ok : Nat → Prop} (hs : a.eval s = .slice A m c2) (hA : A = some ⟨g, n * d.sz, none⟩) (hm : m = q + 1)
  (HO : d.R e W base ok (.slice (some ⟨g, 0, none⟩) n c) xs) (hq : n + (q + 1) ≤ c) (HB : Below base w0 W) (hbase : base ≤ W.heap.size) (hg : base ≤ g)
  (h : ∀ w1, d.R e w1 base ok (.slice (some ⟨g, 0, none⟩) n c) xs → Below base w0 w1 → W.grownBy w1 (some g) → wpList P ops Q rest a w1) : wpList P ops Q (o :: rest) a W := by
 obtain ⟨i0, hi, hzz⟩ := Option.map_eq_some_iff.1 hinfo
 simp only [Prod.mk.injEq] at hzz
 subst hm
 subst hA
 obtain ⟨w1, hr, h1, h2⟩ := R_past_run (P := P) d base t o.type e ht z i0 hi hzz.1 hzs hs0 z0 hzM HO hq c2
 refine wpList_plain hgd fun K hK => ?_
 unfold Oper.wp execOp
 simp only [ho, resolve, invoke, builtin, Sem.run_bind, Sem.run_pure, Result.andThen_ok, List.map_toArray, List.map_cons, List.map_nil, hs, hr]
 show K (a.put o.dst (.tuple #[])) w1
 rw [show a.put o.dst (.tuple #[]) = a by rw [hd]; rfl]
 exact hK _ _ (h w1 h1 (HB.grown h2 hbase (fun k hk => by injection hk with hk; subst hk; exact hg)) h2)
end
def slices_Delete_impl_Route_impl_Route.f (l0 : List S30) (a1 : Int) (a2 : Int) : Option (List S30) := if 0 ≤ a1 then (if a1 < (l0.length : Int) then (if a2 = a1 + 1 then some (l0.eraseIdx (a1 : Int).toNat) else none) else none) else none
def slices_Delete_impl_Route_impl_Route.b0 : Array Bool := ba6_0
def slices_Delete_impl_Route_impl_Route.b1 : Array Bool := ba6_1
def slices_Delete_impl_Route_impl_Route.b2 : Array Bool := ba6_2
def slices_Delete_impl_Route_impl_Route.b3 : Array Bool := ba6_3
def slices_Delete_impl_Route_impl_Route.b4 : Array Bool := ba6_4
def slices_Delete_impl_Route_impl_Route.b5 : Array Bool := ba6_5
def slices_Delete_impl_Route_impl_Route.b6 : Array Bool := ba6_6
def slices_Delete_impl_Route_impl_Route.b7 : Array Bool := ba6_7
def slices_Delete_impl_Route_impl_Route.b8 : Array Bool := ba6_8
def slices_Delete_impl_Route_impl_Route.T5 : Bool × List (List Nat × List Nat) := (true, [([], []), ([], []), ([0, 1], [0, 1]), ([], []), ([], []), ([3, 4], [3, 4]), ([2, 5], [2, 5]), ([6, 6, 0, 1, 2, 3, 4, 5, 6], [0, 3, 6])])
def slices_Delete_impl_Route_impl_Route.B5 : List Nat := [0, 0, 3, 0, 0, 24, 63, 127]
theorem slices_Delete_impl_Route_impl_Route.tab5 : rtab .any (opsOf Try.f53 5) = slices_Delete_impl_Route_impl_Route.T5 := by kernel_rfl
theorem slices_Delete_impl_Route_impl_Route.bits5 : waitsOk slices_Delete_impl_Route_impl_Route.T5.2 slices_Delete_impl_Route_impl_Route.B5 = true := by kernel_rfl
set_option maxHeartbeats 4000000 in
set_option maxRecDepth 100000 in
theorem slices_Delete_impl_Route_impl_Route.calls (P0_ : Nat → Prop) (u9000_ : Value) (l0 : List S30) (a1 : Int) (a2 : Int) (r : List S30) (w0 w : World) (hB : Below w0.heap.size w0 w) (ho0 : Kd.R k30 30 w w0.heap.size P0_ u9000_ l0) (h : slices_Delete_impl_Route_impl_Route.f l0 a1 a2 = some r) :
  Calls Try.prog 53 #[u9000_, .int .i64 a1, .int .i64 a2] w fun e w' => ∃ v0_ : Value, e = .returned (v0_) ∧ Kd.R k30 30 w' w0.heap.size (fun k_ => (P0_ k_ ∨ w.heap.size ≤ k_)) v0_ r ∧ Below w0.heap.size w0 w' ∧ Kept w w' (fun k_ => P0_ k_) := by
 unfold slices_Delete_impl_Route_impl_Route.f at h
 by_cases c1 : 0 ≤ a1
 rotate_left
 ·rw [if_neg c1] at h; cases h
 rw [if_pos c1] at h
 by_cases c2 : a1 < (l0.length : Int)
 rotate_left
 ·rw [if_neg c2] at h; cases h
 rw [if_pos c2] at h
 by_cases c3 : a2 = a1 + 1
 rotate_left
 ·rw [if_neg c3] at h; cases h
 rw [if_pos c3] at h
 obtain rfl := Option.some.inj h
 clear h
 obtain ⟨i, rfl⟩ := Int.eq_ofNat_of_zero_le c1
 have e2 : a2 = ((i + 1 : Nat) : Int) := by rw [c3]; rfl
 subst e2
 clear c1 c3
 have hi : i < l0.length := by omega
 obtain ⟨m, hL⟩ : ∃ m, l0.length = m + 1 := ⟨l0.length - 1, by omega⟩
 have HB := Aside0.mk hB
 have HW0 := Aside0.mk hB.size
 obtain ⟨g, cap, eg, gb, gl, cl, HG⟩ := Kd.R_form ho0 (by omega)
 subst eg
 have hnc := (Kd.R_reads' ho0).2.1
 have hok := ho0.1 g (by simp [Value.ownBlock])
 rw [hL] at ho0 hnc hi c2 ⊢
 have HO0 := Aside0.mk ho0
 have HK := Aside0.mk (Kept.refl w (fun k_ => P0_ k_))
 clear hB ho0
 have q2 : ¬ ((i : Nat) : Int) = ((i + 1 : Nat) : Int) := by omega
 have q3 : (((i : Nat) : Int) == ((i + 1 : Nat) : Int)) = false := beq_eq_false_iff_ne.mpr q2
 have f1 : (i ≤ cap) = True := eq_true (by omega)
 have f2 : (i + 1 ≤ m + 1) = True := eq_true (by omega)
 have f3 : (0 ≤ (i : Int) + 1 ∧ (i : Int) + 1 ≤ ((m + 1 : Nat) : Int)) = True := eq_true (by omega)
 have f4 : (0 ≤ (i : Int) + 1 ∧ i ≤ m) = True := eq_true (by omega)
 go_enter Try.func53, Try.ntmps53
 go_wp2
 refine start_ (n := 8) (S := fun _ => True) (ds := []) slices_Delete_impl_Route_impl_Route.b0 (by kernel_rfl) rfl rfl trivial (fun hHeld => ?_); refine with_tabW slices_Delete_impl_Route_impl_Route.tab5 slices_Delete_impl_Route_impl_Route.bits5 (fun HT_ HW_ => ?_)
 replace HO0 := Aside0.mk (Kd.R_drew HO0.out)
 replace HB := Aside0.mk (below_drew1 HB.out)
 replace HK := Aside0.mk (Kept.drew HK.out)
 refine pz_ 0 20 slices_Delete_impl_Route_impl_Route.b1 HT_ ?_
 refine pz_ 1 21 slices_Delete_impl_Route_impl_Route.b2 HT_ ?_
 refine pz_ 2 22 slices_Delete_impl_Route_impl_Route.b3 HT_ ?_
 refine pz_ 3 23 slices_Delete_impl_Route_impl_Route.b4 HT_ ?_
 refine pz_ 4 24 slices_Delete_impl_Route_impl_Route.b5 HT_ ?_
 refine pz_ 5 25 slices_Delete_impl_Route_impl_Route.b6 HT_ ?_
 refine on_ 6 (some 26) slices_Delete_impl_Route_impl_Route.b7 HT_ (fun K hK => ?_)
 refine R_delete_step k30 (w0 := w0) w0.heap.size (by rfl) (.tmp 22) (.tmp 25) 24 30 rfl Try.underlying24 (by kernel_rfl) (g := g) (n := m) (c := cap) (k := i) (by rfl) (by rfl) ?hA ?hm HO0.out (by omega) HB.out (Nat.le_trans HW0.out (by exact Nat.le_refl _)) ?_
 case hA =>
  by_cases ce : cap = i + 1
  ·rw [if_pos ce, if_pos ce]
  rw [if_neg ce, if_neg ce]
  simp [Addr.add]
  rfl
 case hm => omega
 intro w1 ho hb hg
 have HO1 := Aside0.mk ho
 replace HB := Aside0.mk hb
 replace HK := Aside0.mk (Kept.of_grown (S := (fun k_ => P0_ k_)) hg HK.out (fun k_ e_ => by injection e_ with e_; subst e_; exact .inl hok))
 clear ho hb hg HO0 HG
 generalize (if cap = i + 1 then (some ⟨g, 0, none⟩ : Option Addr) else some ⟨g, (i + 1) * 3, none⟩) = A5
 refine hK.out _ _ trivial (fun hHeld => ?_)
 clear hK K
 refine nz_ 26 ?_
 refine pz_ 7 0 slices_Delete_impl_Route_impl_Route.b8 HT_ ?_
 refine done_ (done_of HT_.out (by kernel_rfl)) ?_
 have f6 : (0 ≤ (m : Int) ∧ (m : Int) ≤ (m : Int) + 1 ∧ m + 1 ≤ cap) = True := eq_true (by omega)
 go_wp2_with ((with_reducible refine gate_builtin (b := .clear) (xs := #[.tmp 31]) rfl ?_); refine R_past k30 (w0 := w0) w0.heap.size rfl (.tmp 31) 24 30 rfl rfl Try.underlying24 (.agg #[(.int .i64 0), (.int .i64 0), (.int .i64 0)]) 24 info30 rfl (by decide) z30 (fun _ => (k30_mkM _ _ _ z30)) (g := g) (n := m) (c := cap) (q := 0) rfl ?hA ?hm HO1.out ?hq HB.out HB.out.size gb ?_; (case hA => first | rfl | (simp; done)); (case hm => first | rfl | omega); (case hq => omega); intro w2 ho hb hg; have HO2 := Aside0.mk ho; replace HB := Aside0.mk hb; replace HK := Aside0.mk (Kept.of_grown (S := (fun k_ => P0_ k_)) hg HK.out (fun k_ e_ => by injection e_ with e_; subst e_; exact .inl hok)); clear ho hb hg HO1)
 go_ret
 exact ⟨_, rfl, Kd.R_mono HO2.out (fun _ hk => .inl hk), HB.out, HK.out⟩

/-! ### impl_DropRoute: function 12 -/
def impl_DropRoute.f (k : Nat) (l0_0 : List (S30)) (a1_0 : Int) (a1_1 : Int) : Option ((List (S30)) × Bool) := (impl_ownTable.f l0_0).bind fun t137 => ((impl_TableOk.f k l0_0).bind fun t141 => (if t141 = true then ((impl_findRoute.f k t137 a1_0 a1_1).bind fun bt142 => (if bt142.2 = true then ((slices_Delete_impl_Route_impl_Route.f t137 bt142.1 (wrap64 (bt142.1 + 1))).bind fun t144 => (some (t144, true))) else (some (t137, false)))) else (some (t137, false))))
set_option maxHeartbeats 8000000 in
set_option maxRecDepth 100000 in
theorem impl_DropRoute.calls (k : Nat) (A0_0 : Option Addr) (c0_0 : Nat) (l0_0 : List (S30)) (a1_0 : Int) (a1_1 : Int) (r1 : List (S30)) (r2 : Bool) (w : World) (hr0_0 : Kd.C k30 w A0_0 l0_0.length l0_0) (hc0_0 : l0_0.length ≤ c0_0) (h : impl_DropRoute.f k l0_0 a1_0 a1_1 = some (r1, r2)) :
  Calls Try.prog 12 #[.agg #[.slice A0_0 l0_0.length c0_0], .agg #[.int .i64 a1_0, .int .i64 a1_1]] w fun e w' => ∃ v0_ : Value, e = .returned (.tuple #[.agg #[v0_], .bool r2]) ∧ Kd.R k30 30 w' w.heap.size (fun _ => True) v0_ r1 ∧ Below w.heap.size w w' := by
 have hu26 := Try.underlying26
 have hu28 := Try.underlying28
 have HR0_0 := Aside0.mk hr0_0
 have HC0_0 := Aside0.mk hc0_0
 clear hr0_0 hc0_0
 have HB := Aside0.mk (Below.refl w.heap.size w)
 have H : ((impl_ownTable.f l0_0).bind fun t137 => ((impl_TableOk.f k l0_0).bind fun t141 => (if t141 = true then ((impl_findRoute.f k t137 a1_0 a1_1).bind fun bt142 => (if bt142.2 = true then ((slices_Delete_impl_Route_impl_Route.f t137 bt142.1 (wrap64 (bt142.1 + 1))).bind fun t144 => (some (t144, true))) else (some (t137, false)))) else (some (t137, false))))) = some (r1, r2) := h
 clear h
 obtain ⟨t137, A3, H⟩ := ob_ H
 obtain ⟨t141, A4, H⟩ := ob_ H
 by_cases c5 : t141 = true
 rotate_left
 ·replace c5 := Bool.eq_false_iff.mpr c5
  subst c5
  rw [if_neg (show ¬ (false = true) by decide)] at H
  simp only [Option.some.injEq, Prod.mk.injEq] at H
  obtain ⟨rfl, rfl⟩ := H
  go_enter Try.func12, Try.ntmps12
  go_wp2_with (first | ((with_reducible refine gate_dst (N := 2) rfl ?_); refine be_ 2 #[.slice A0_0 l0_0.length c0_0] 26 ?_; intro gb134 hg w54 BK134 hb; have GW134 := ge_ HB hg; have GE134 := ge_ HB hg; replace HB := at_ HB hb; clear hb hg) | ((with_reducible refine gate_dst (N := 3) rfl ?_); refine be_ 3 #[.int .i64 a1_0, .int .i64 a1_1] 28 ?_; intro gb135 hg w55 BK135 hb; have GW135 := ge_ HB hg; have GE135 := ge_ HB hg; have NB134_135 := nl_ BK134 hg; have NB135_134 := ng_ BK134 hg; replace HB := at_ HB hb; replace BK134 := ab_ BK134 hb; clear hb hg) | ((with_reducible refine gate_dst (N := 4) rfl ?_); refine be_ 4 #[.slice none 0 0] 26 ?_; intro gb136 hg w56 BK136 hb; have GW136 := ge_ HB hg; have GE136 := ge_ HB hg; have NB134_136 := nl_ BK134 hg; have NB136_134 := ng_ BK134 hg; have NB135_136 := nl_ BK135 hg; have NB136_135 := ng_ BK135 hg; replace HB := at_ HB hb; replace BK134 := ab_ BK134 hb; replace BK135 := ab_ BK135 hb; clear hb hg; have hnb57 := NB134_135.out; have hnc57 := NB135_134.out; have hnb58 := NB134_136.out; have hnc58 := NB136_134.out; have hcz59_0 := cz_ BK134 0 (.slice A0_0 l0_0.length c0_0); have hfz59_0 := fz_ BK134 0) | ((with_reducible refine gate_callee (f := 50) rfl ?_); refine gl_ (some 10) Try.func50 #[.agg #[.slice A0_0 l0_0.length c0_0]] ?_; (with_reducible refine (impl_ownTable.calls _ _ l0_0 t137 _ ?side1 ?side2 A3.out).mono ?_); (case side1 => exact cb_ HR0_0 HB); (case side2 => exact HC0_0.out); rintro e w60 ⟨v138, rfl, ho0, hb⟩; refine ⟨_, rfl, ?_⟩; have HO139 := Aside0.mk (Kd.R_lower ho0 (bz_ HB)); replace BK134 := ab_ BK134 hb; replace BK135 := ab_ BK135 hb; replace BK136 := ab_ BK136 hb; replace HB := at_ HB hb; clear hb ho0) | ((with_reducible refine gate_dst (N := 6) rfl ?_); refine be_ 6 #[.slice none 0 0] 26 ?_; intro gb140 hg w61 BK140 hb; have GW140 := ge_ HB hg; have GE140 := ge_ HB hg; have NB134_140 := nl_ BK134 hg; have NB140_134 := ng_ BK134 hg; have NB135_140 := nl_ BK135 hg; have NB140_135 := ng_ BK135 hg; have NB136_140 := nl_ BK136 hg; have NB140_136 := ng_ BK136 hg; replace HO139 := rb_ HO139 hb; replace HB := at_ HB hb; replace BK134 := ab_ BK134 hb; replace BK135 := ab_ BK135 hb; replace BK136 := ab_ BK136 hb; clear hb hg; obtain ⟨Ao62, co62, eo62⟩ := Kd.R_slice HO139.out; subst eo62; have hnb63 := NB140_134.out; have hnc63 := NB134_140.out; have hnb64 := NB140_135.out; have hnc64 := NB135_140.out; have hnb65 := NB140_136.out; have hnc65 := NB136_140.out; have hcz66_0 := cz_ BK140 0 (.slice none 0 0); have hfz66_0 := fz_ BK140 0; have hcz67_0 := cz_ BK134 0 (.slice A0_0 l0_0.length c0_0); have hfz67_0 := fz_ BK134 0) | ((with_reducible refine gate_callee (f := 48) rfl ?_); refine gl_ (some 12) Try.func48 #[.agg #[.slice A0_0 l0_0.length c0_0]] ?_; (with_reducible refine (impl_TableOk.calls k _ _ l0_0 false _ ?side1 ?side2 A4.out).mono ?_); (case side1 => exact Kd.C_below HR0_0.out (bw_)); (case side2 => exact HC0_0.out); rintro e w68 ⟨rfl, hb⟩; refine ⟨_, rfl, ?_⟩; replace HO139 := rs_ HO139 BK140 hb; replace BK134 := bf_ BK134 NB134_140 hb; replace BK135 := bf_ BK135 NB135_140 hb; replace BK136 := bf_ BK136 NB136_140 hb; replace BK140 := Aside0.mk (blk_below (g := gb140) (o := .cells #[.slice Ao62 t137.length co62] 26 (0, 0)) (by refine bd_ ?_; refine blk_put (cs := #[.slice none 0 0]) ?_ 0 _ rfl; refine bd_ ?_; exact BK140.out) hb); replace HB := at_ HB hb; clear hb; have hcz69_0 := cz_ BK140 0 (.slice Ao62 t137.length co62); have hfz69_0 := fz_ BK140 0; have hnb70 := NB136_135.out; have hnc70 := NB135_136.out; have hcz71_0 := cz_ BK136 0 (.slice none 0 0); have hfz71_0 := fz_ BK136 0))
  refine bodyPost_ret (results_ct rfl _ _ gb136 26 #[.slice Ao62 t137.length co62] (0, 0) _ rfl (by refine bd_ ?_; refine blk_put (cs := #[.slice none 0 0]) ?_ 0 _ rfl; refine bd_ ?_; exact BK136.out) Try.underlying26 rfl (by kernel_rfl)) rfl ?_
  exact ⟨_, by first | rfl | (simp [errW_none, errW_some] <;> rfl) | (simp [*, errW_none, errW_some] <;> rfl), by (with_reducible repeat (first | apply Kd.R_alloc | apply Kd.R_drewN | apply Kd.R_drew)); exact Kd.R_mono (Kd.R_far (Kd.R_types HO139.out BK136.out (by decide)) (fun _ hk => hk.2) _) (fun _ hk => trivial), bw_⟩
 subst c5
 rw [if_pos rfl] at H
 obtain ⟨⟨t142, t143⟩, A6, H⟩ := ob_ H
 by_cases c7 : t143 = true
 rotate_left
 ·replace c7 := Bool.eq_false_iff.mpr c7
  subst c7
  rw [if_neg (show ¬ (false = true) by decide)] at H
  simp only [Option.some.injEq, Prod.mk.injEq] at H
  obtain ⟨rfl, rfl⟩ := H
  go_enter Try.func12, Try.ntmps12
  go_wp2_with (first | ((with_reducible refine gate_dst (N := 2) rfl ?_); refine be_ 2 #[.slice A0_0 l0_0.length c0_0] 26 ?_; intro gb134 hg w33 BK134 hb; have GW134 := ge_ HB hg; have GE134 := ge_ HB hg; replace HB := at_ HB hb; clear hb hg) | ((with_reducible refine gate_dst (N := 3) rfl ?_); refine be_ 3 #[.int .i64 a1_0, .int .i64 a1_1] 28 ?_; intro gb135 hg w34 BK135 hb; have GW135 := ge_ HB hg; have GE135 := ge_ HB hg; have NB134_135 := nl_ BK134 hg; have NB135_134 := ng_ BK134 hg; replace HB := at_ HB hb; replace BK134 := ab_ BK134 hb; clear hb hg) | ((with_reducible refine gate_dst (N := 4) rfl ?_); refine be_ 4 #[.slice none 0 0] 26 ?_; intro gb136 hg w35 BK136 hb; have GW136 := ge_ HB hg; have GE136 := ge_ HB hg; have NB134_136 := nl_ BK134 hg; have NB136_134 := ng_ BK134 hg; have NB135_136 := nl_ BK135 hg; have NB136_135 := ng_ BK135 hg; replace HB := at_ HB hb; replace BK134 := ab_ BK134 hb; replace BK135 := ab_ BK135 hb; clear hb hg; have hnb36 := NB134_135.out; have hnc36 := NB135_134.out; have hnb37 := NB134_136.out; have hnc37 := NB136_134.out; have hcz38_0 := cz_ BK134 0 (.slice A0_0 l0_0.length c0_0); have hfz38_0 := fz_ BK134 0) | ((with_reducible refine gate_callee (f := 50) rfl ?_); refine gl_ (some 10) Try.func50 #[.agg #[.slice A0_0 l0_0.length c0_0]] ?_; (with_reducible refine (impl_ownTable.calls _ _ l0_0 t137 _ ?side1 ?side2 A3.out).mono ?_); (case side1 => exact cb_ HR0_0 HB); (case side2 => exact HC0_0.out); rintro e w39 ⟨v138, rfl, ho0, hb⟩; refine ⟨_, rfl, ?_⟩; have HO139 := Aside0.mk (Kd.R_lower ho0 (bz_ HB)); replace BK134 := ab_ BK134 hb; replace BK135 := ab_ BK135 hb; replace BK136 := ab_ BK136 hb; replace HB := at_ HB hb; clear hb ho0) | ((with_reducible refine gate_dst (N := 6) rfl ?_); refine be_ 6 #[.slice none 0 0] 26 ?_; intro gb140 hg w40 BK140 hb; have GW140 := ge_ HB hg; have GE140 := ge_ HB hg; have NB134_140 := nl_ BK134 hg; have NB140_134 := ng_ BK134 hg; have NB135_140 := nl_ BK135 hg; have NB140_135 := ng_ BK135 hg; have NB136_140 := nl_ BK136 hg; have NB140_136 := ng_ BK136 hg; replace HO139 := rb_ HO139 hb; replace HB := at_ HB hb; replace BK134 := ab_ BK134 hb; replace BK135 := ab_ BK135 hb; replace BK136 := ab_ BK136 hb; clear hb hg; obtain ⟨Ao41, co41, eo41⟩ := Kd.R_slice HO139.out; subst eo41; have hnb42 := NB140_134.out; have hnc42 := NB134_140.out; have hnb43 := NB140_135.out; have hnc43 := NB135_140.out; have hnb44 := NB140_136.out; have hnc44 := NB136_140.out; have hcz45_0 := cz_ BK140 0 (.slice none 0 0); have hfz45_0 := fz_ BK140 0; have hcz46_0 := cz_ BK134 0 (.slice A0_0 l0_0.length c0_0); have hfz46_0 := fz_ BK134 0) | ((with_reducible refine gate_callee (f := 48) rfl ?_); refine gl_ (some 12) Try.func48 #[.agg #[.slice A0_0 l0_0.length c0_0]] ?_; (with_reducible refine (impl_TableOk.calls k _ _ l0_0 true _ ?side1 ?side2 A4.out).mono ?_); (case side1 => exact Kd.C_below HR0_0.out (bw_)); (case side2 => exact HC0_0.out); rintro e w47 ⟨rfl, hb⟩; refine ⟨_, rfl, ?_⟩; replace HO139 := rs_ HO139 BK140 hb; replace BK134 := bf_ BK134 NB134_140 hb; replace BK135 := bf_ BK135 NB135_140 hb; replace BK136 := bf_ BK136 NB136_140 hb; replace BK140 := Aside0.mk (blk_below (g := gb140) (o := .cells #[.slice Ao41 t137.length co41] 26 (0, 0)) (by refine bd_ ?_; refine blk_put (cs := #[.slice none 0 0]) ?_ 0 _ rfl; refine bd_ ?_; exact BK140.out) hb); replace HB := at_ HB hb; clear hb; have hcz48_0 := cz_ BK140 0 (.slice Ao41 t137.length co41); have hfz48_0 := fz_ BK140 0; have hnb49 := NB135_136.out; have hnc49 := NB136_135.out; have hcz50_0 := cz_ BK135 0 (.int .i64 a1_0); have hcz50_1 := cz_ BK135 1 (.int .i64 a1_1); have hfz50_0 := fz_ BK135 0; have hfz50_1 := fz_ BK135 1) | ((with_reducible refine gate_callee (f := 51) rfl ?_); refine gl_ (some 19) Try.func51 #[.slice Ao41 t137.length co41, .agg #[.int .i64 a1_0, .int .i64 a1_1]] ?_; (with_reducible refine (impl_findRoute.calls k _ _ t137 a1_0 a1_1 t142 false _ ?side1 ?side2 A6.out).mono ?_); (case side1 => exact rc_ HO139); (case side2 => exact (Kd.R_reads' HO139.out).2.1); rintro e w51 ⟨rfl, hb⟩; refine ⟨_, rfl, ?_⟩; replace HO139 := rb_ HO139 hb; replace BK134 := ab_ BK134 hb; replace BK135 := ab_ BK135 hb; replace BK136 := ab_ BK136 hb; replace BK140 := ab_ BK140 hb; replace HB := at_ HB hb; clear hb; have hcz52_0 := cz_ BK140 0 (.slice Ao41 t137.length co41); have hfz52_0 := fz_ BK140 0; have hcz53_0 := cz_ BK136 0 (.slice none 0 0); have hfz53_0 := fz_ BK136 0))
  refine bodyPost_ret (results_ct rfl _ _ gb136 26 #[.slice Ao41 t137.length co41] (0, 0) _ rfl (by refine bd_ ?_; refine blk_put (cs := #[.slice none 0 0]) ?_ 0 _ rfl; refine bd_ ?_; exact BK136.out) Try.underlying26 rfl (by kernel_rfl)) rfl ?_
  exact ⟨_, by first | rfl | (simp [errW_none, errW_some] <;> rfl) | (simp [*, errW_none, errW_some] <;> rfl), by (with_reducible repeat (first | apply Kd.R_alloc | apply Kd.R_drewN | apply Kd.R_drew)); exact Kd.R_mono (Kd.R_far (Kd.R_types HO139.out BK136.out (by decide)) (fun _ hk => hk.2) _) (fun _ hk => trivial), bw_⟩
 subst c7
 rw [if_pos rfl] at H
 obtain ⟨t144, A8, H⟩ := ob_ H
 simp only [Option.some.injEq, Prod.mk.injEq] at H
 obtain ⟨rfl, rfl⟩ := H
 go_enter Try.func12, Try.ntmps12
 go_wp2_with (first | ((with_reducible refine gate_dst (N := 2) rfl ?_); refine be_ 2 #[.slice A0_0 l0_0.length c0_0] 26 ?_; intro gb134 hg w9 BK134 hb; have GW134 := ge_ HB hg; have GE134 := ge_ HB hg; replace HB := at_ HB hb; clear hb hg) | ((with_reducible refine gate_dst (N := 3) rfl ?_); refine be_ 3 #[.int .i64 a1_0, .int .i64 a1_1] 28 ?_; intro gb135 hg w10 BK135 hb; have GW135 := ge_ HB hg; have GE135 := ge_ HB hg; have NB134_135 := nl_ BK134 hg; have NB135_134 := ng_ BK134 hg; replace HB := at_ HB hb; replace BK134 := ab_ BK134 hb; clear hb hg) | ((with_reducible refine gate_dst (N := 4) rfl ?_); refine be_ 4 #[.slice none 0 0] 26 ?_; intro gb136 hg w11 BK136 hb; have GW136 := ge_ HB hg; have GE136 := ge_ HB hg; have NB134_136 := nl_ BK134 hg; have NB136_134 := ng_ BK134 hg; have NB135_136 := nl_ BK135 hg; have NB136_135 := ng_ BK135 hg; replace HB := at_ HB hb; replace BK134 := ab_ BK134 hb; replace BK135 := ab_ BK135 hb; clear hb hg; have hnb12 := NB134_135.out; have hnc12 := NB135_134.out; have hnb13 := NB134_136.out; have hnc13 := NB136_134.out; have hcz14_0 := cz_ BK134 0 (.slice A0_0 l0_0.length c0_0); have hfz14_0 := fz_ BK134 0) | ((with_reducible refine gate_callee (f := 50) rfl ?_); refine gl_ (some 10) Try.func50 #[.agg #[.slice A0_0 l0_0.length c0_0]] ?_; (with_reducible refine (impl_ownTable.calls _ _ l0_0 t137 _ ?side1 ?side2 A3.out).mono ?_); (case side1 => exact cb_ HR0_0 HB); (case side2 => exact HC0_0.out); rintro e w15 ⟨v138, rfl, ho0, hb⟩; refine ⟨_, rfl, ?_⟩; have HO139 := Aside0.mk (Kd.R_lower ho0 (bz_ HB)); replace BK134 := ab_ BK134 hb; replace BK135 := ab_ BK135 hb; replace BK136 := ab_ BK136 hb; replace HB := at_ HB hb; clear hb ho0) | ((with_reducible refine gate_dst (N := 6) rfl ?_); refine be_ 6 #[.slice none 0 0] 26 ?_; intro gb140 hg w16 BK140 hb; have GW140 := ge_ HB hg; have GE140 := ge_ HB hg; have NB134_140 := nl_ BK134 hg; have NB140_134 := ng_ BK134 hg; have NB135_140 := nl_ BK135 hg; have NB140_135 := ng_ BK135 hg; have NB136_140 := nl_ BK136 hg; have NB140_136 := ng_ BK136 hg; replace HO139 := rb_ HO139 hb; replace HB := at_ HB hb; replace BK134 := ab_ BK134 hb; replace BK135 := ab_ BK135 hb; replace BK136 := ab_ BK136 hb; clear hb hg; obtain ⟨Ao17, co17, eo17⟩ := Kd.R_slice HO139.out; subst eo17; have hnb18 := NB140_134.out; have hnc18 := NB134_140.out; have hnb19 := NB140_135.out; have hnc19 := NB135_140.out; have hnb20 := NB140_136.out; have hnc20 := NB136_140.out; have hcz21_0 := cz_ BK140 0 (.slice none 0 0); have hfz21_0 := fz_ BK140 0; have hcz22_0 := cz_ BK134 0 (.slice A0_0 l0_0.length c0_0); have hfz22_0 := fz_ BK134 0) | ((with_reducible refine gate_callee (f := 48) rfl ?_); refine gl_ (some 12) Try.func48 #[.agg #[.slice A0_0 l0_0.length c0_0]] ?_; (with_reducible refine (impl_TableOk.calls k _ _ l0_0 true _ ?side1 ?side2 A4.out).mono ?_); (case side1 => exact Kd.C_below HR0_0.out (bw_)); (case side2 => exact HC0_0.out); rintro e w23 ⟨rfl, hb⟩; refine ⟨_, rfl, ?_⟩; replace HO139 := rs_ HO139 BK140 hb; replace BK134 := bf_ BK134 NB134_140 hb; replace BK135 := bf_ BK135 NB135_140 hb; replace BK136 := bf_ BK136 NB136_140 hb; replace BK140 := Aside0.mk (blk_below (g := gb140) (o := .cells #[.slice Ao17 t137.length co17] 26 (0, 0)) (by refine bd_ ?_; refine blk_put (cs := #[.slice none 0 0]) ?_ 0 _ rfl; refine bd_ ?_; exact BK140.out) hb); replace HB := at_ HB hb; clear hb; have hcz24_0 := cz_ BK140 0 (.slice Ao17 t137.length co17); have hfz24_0 := fz_ BK140 0; have hnb25 := NB135_136.out; have hnc25 := NB136_135.out; have hcz26_0 := cz_ BK135 0 (.int .i64 a1_0); have hcz26_1 := cz_ BK135 1 (.int .i64 a1_1); have hfz26_0 := fz_ BK135 0; have hfz26_1 := fz_ BK135 1) | ((with_reducible refine gate_callee (f := 51) rfl ?_); refine gl_ (some 19) Try.func51 #[.slice Ao17 t137.length co17, .agg #[.int .i64 a1_0, .int .i64 a1_1]] ?_; (with_reducible refine (impl_findRoute.calls k _ _ t137 a1_0 a1_1 t142 true _ ?side1 ?side2 A6.out).mono ?_); (case side1 => exact rc_ HO139); (case side2 => exact (Kd.R_reads' HO139.out).2.1); rintro e w27 ⟨rfl, hb⟩; refine ⟨_, rfl, ?_⟩; replace HO139 := rb_ HO139 hb; replace BK134 := ab_ BK134 hb; replace BK135 := ab_ BK135 hb; replace BK136 := ab_ BK136 hb; replace BK140 := ab_ BK140 hb; replace HB := at_ HB hb; clear hb; have hcz28_0 := cz_ BK140 0 (.slice Ao17 t137.length co17); have hfz28_0 := fz_ BK140 0) | ((with_reducible refine gate_callee (f := 53) rfl ?_); refine gl_ (some 30) Try.func53 #[.slice Ao17 t137.length co17, .int .i64 t142, .int .i64 (wrap64 (t142 + 1))] ?_; (with_reducible refine (slices_Delete_impl_Route_impl_Route.calls (fun k_ => some k_ = (.slice Ao17 t137.length co17 : Value).ownBlock) (.slice Ao17 t137.length co17) t137 t142 (wrap64 (t142 + 1)) t144 w _ ?side1 ?side2 A8.out).mono ?_); (case side1 => exact by_ HB); (case side2 => exact Kd.R_tight rfl HO139.out); rintro e w29 ⟨v145, rfl, ho0, hb, hkp⟩; refine ⟨_, rfl, ?_⟩; have HO146 := Aside0.mk (Kd.R_mono (ok' := fun k_ => True) ho0 (fun k_ hk_ => trivial)); replace BK134 := bk_ BK134 hkp (fun hs_ => (Kd.R_ne HO139.out BK134.out (by decide)) hs_); replace BK135 := bk_ BK135 hkp (fun hs_ => (Kd.R_ne HO139.out BK135.out (by decide)) hs_); replace BK136 := bk_ BK136 hkp (fun hs_ => (Kd.R_ne HO139.out BK136.out (by decide)) hs_); replace BK140 := bk_ BK140 hkp (fun hs_ => (Kd.R_ne HO139.out BK140.out (by decide)) hs_); replace HB := Aside0.mk (hb); clear HO139 hb hkp ho0; obtain ⟨Ao30, co30, eo30⟩ := Kd.R_slice HO146.out; subst eo30; have hcz31_0 := cz_ BK140 0 (.slice Ao17 t137.length co17); have hfz31_0 := fz_ BK140 0; have hcz32_0 := cz_ BK136 0 (.slice none 0 0); have hfz32_0 := fz_ BK136 0))
 refine bodyPost_ret (results_ct rfl _ _ gb136 26 #[.slice Ao30 t144.length co30] (0, 0) _ rfl (by refine bd_ ?_; refine blk_put (cs := #[.slice none 0 0]) ?_ 0 _ rfl; refine bd_ ?_; refine blk_far ?_ NB136_140.out _; refine bd_ ?_; exact BK136.out) Try.underlying26 rfl (by kernel_rfl)) rfl ?_
 exact ⟨_, by first | rfl | (simp [errW_none, errW_some] <;> rfl) | (simp [*, errW_none, errW_some] <;> rfl), by (with_reducible repeat (first | apply Kd.R_alloc | apply Kd.R_drewN | apply Kd.R_drew)); exact Kd.R_mono (Kd.R_far (Kd.R_far (Kd.R_types (Kd.R_types HO146.out BK140.out (by decide)) BK136.out (by decide)) (fun _ hk => hk.1.2) _) (fun _ hk => hk.2) _) (fun _ hk => trivial), bw_⟩

/-- A state of type 112 at block g of W; what its slices lead to came in by w0. -/
def IsS112 (w0 W : World) (g : Nat) (f0 : List Int) (f1 : Int) (f2 : Int) : Prop := ∃ A0 c0, W.heap[g]? = some (.cells #[.slice A0 f0.length c0, .int .i64 f1, .int .i64 f2] 112 (0, 0)) ∧ w0.heap.size ≤ g ∧ Kd.C (Kd.int .u8) w0 A0 f0.length f0
theorem IsS112.grown {w0 W : World} {g : Nat} {f0 : List Int} {f1 : Int} {f2 : Int} {W1 : World} {row : Option Nat} (h : IsS112 w0 W g f0 f1 f2) (hw : W.grownBy W1 row) (hne : some g ≠ row) : IsS112 w0 W1 g f0 f1 f2 := by
 obtain ⟨A0, c0, hb, hg, hr0⟩ := h
 exact ⟨A0, c0, blk_grown hb hw hne, hg, hr0⟩
theorem IsS112.below {w0 W : World} {g : Nat} {f0 : List Int} {f1 : Int} {f2 : Int} {W1 : World} (h : IsS112 w0 W g f0 f1 f2) (hw : Below W.heap.size W W1) : IsS112 w0 W1 g f0 f1 f2 := h.grown (grown_of_below hw none) (by simp)
theorem IsS112.alloc {w0 W : World} {g : Nat} {f0 : List Int} {f1 : Int} {f2 : Int} (h : IsS112 w0 W g f0 f1 f2) (o : Obj) : IsS112 w0 (W.alloc o) g f0 f1 f2 := h.below (below_alloc (Below.refl _ _) o)
theorem IsS112.drewN {w0 W : World} {g : Nat} {f0 : List Int} {f1 : Int} {f2 : Int} (h : IsS112 w0 W g f0 f1 f2) (m : Nat) : IsS112 w0 (W.drewN m) g f0 f1 f2 := h
theorem IsS112.drew {w0 W : World} {g : Nat} {f0 : List Int} {f1 : Int} {f2 : Int} (h : IsS112 w0 W g f0 f1 f2) : IsS112 w0 W.drew g f0 f1 f2 := h
theorem IsS112.apart {w0 W : World} {g : Nat} {f0 : List Int} {f1 : Int} {f2 : Int} {α : Type} {d : Kd α} {e : Nat} {base : Nat} {ok : Nat → Prop} {v : Value} {xs : List α} (h : IsS112 w0 W g f0 f1 f2) (ho : d.R e W base ok v xs) (ht : ∀ q, q ∈ e :: d.E → q ≠ 112) : d.R e W base (fun k => ok k ∧ k ≠ g) v xs := by
 obtain ⟨A0, c0, hb, hg, hr0⟩ := h
 exact Kd.R_types ho hb ht
theorem IsS112.own_ne {w0 W : World} {g : Nat} {f0 : List Int} {f1 : Int} {f2 : Int} {α : Type} {d : Kd α} {e : Nat} {base : Nat} {ok : Nat → Prop} {v : Value} {xs : List α} (h : IsS112 w0 W g f0 f1 f2) (ho : d.R e W base ok v xs) (ht : e ≠ 112) : some g ≠ v.ownBlock := by
 obtain ⟨A0, c0, hb, hg, hr0⟩ := h
 exact Kd.R_ne ho hb ht
theorem IsS112.lt {w0 W : World} {g : Nat} {f0 : List Int} {f1 : Int} {f2 : Int} (h : IsS112 w0 W g f0 f1 f2) : g < W.heap.size := by
 obtain ⟨A0, c0, hb, hg, hr0⟩ := h
 exact blk_lt hb
theorem IsS112.ge {w0 W : World} {g : Nat} {f0 : List Int} {f1 : Int} {f2 : Int} (h : IsS112 w0 W g f0 f1 f2) : w0.heap.size ≤ g := by
 obtain ⟨A0, c0, hb, hg, hr0⟩ := h
 exact hg
theorem IsS112.ne_blk {w0 W : World} {g : Nat} {f0 : List Int} {f1 : Int} {f2 : Int} {a : Nat} {cs : Array Value} {t : TypeId} {fr : Nat × Nat} (h : IsS112 w0 W g f0 f1 f2) (hb2 : W.heap[a]? = some (.cells cs t fr)) (ht : t ≠ 112) : g ≠ a := by
 obtain ⟨A0, c0, hb, hg, hr0⟩ := h
 rintro rfl
 rw [hb] at hb2
 injection hb2 with hb2
 injection hb2 with _ ht2
 exact ht ht2.symm
theorem IsS112.far {w0 W : World} {g : Nat} {f0 : List Int} {f1 : Int} {f2 : Int} {p : Addr} (h : IsS112 w0 W g f0 f1 f2) (hne : g ≠ p.block) (u : Value) : IsS112 w0 (W.setCell p u) g f0 f1 f2 := by
 obtain ⟨A0, c0, hb, hg, hr0⟩ := h
 exact ⟨A0, c0, blk_far hb hne u, hg, hr0⟩
theorem cellS112_0 {W : World} {g : Nat} {A0 : Option Addr} {c0 : Nat} {f0 : List Int} {f1 : Int} {f2 : Int} (h : W.heap[g]? = some (.cells #[.slice A0 f0.length c0, .int .i64 f1, .int .i64 f2] 112 (0, 0))) : W.cell? ⟨g, 0, none⟩ = some (.slice A0 f0.length c0) := (blk_cell h 0).trans rfl
theorem cellS112_1 {W : World} {g : Nat} {A0 : Option Addr} {c0 : Nat} {f0 : List Int} {f1 : Int} {f2 : Int} (h : W.heap[g]? = some (.cells #[.slice A0 f0.length c0, .int .i64 f1, .int .i64 f2] 112 (0, 0))) : W.cell? ⟨g, 1, none⟩ = some (.int .i64 f1) := (blk_cell h 1).trans rfl
theorem IsS112.set_1 {w0 W : World} {g : Nat} {f0 : List Int} {f1 : Int} {f2 : Int} (h : IsS112 w0 W g f0 f1 f2) (x : Int) : IsS112 w0 (W.setCell ⟨g, 1, none⟩ (.int .i64 x)) g f0 x f2 := by
 obtain ⟨A0, c0, hb, hg, hr0⟩ := h
 exact ⟨A0, c0, by simpa using blk_set hb 1 (.int .i64 x), hg, hr0⟩
theorem cellS112_2 {W : World} {g : Nat} {A0 : Option Addr} {c0 : Nat} {f0 : List Int} {f1 : Int} {f2 : Int} (h : W.heap[g]? = some (.cells #[.slice A0 f0.length c0, .int .i64 f1, .int .i64 f2] 112 (0, 0))) : W.cell? ⟨g, 2, none⟩ = some (.int .i64 f2) := (blk_cell h 2).trans rfl
theorem IsS112.set_2 {w0 W : World} {g : Nat} {f0 : List Int} {f1 : Int} {f2 : Int} (h : IsS112 w0 W g f0 f1 f2) (x : Int) : IsS112 w0 (W.setCell ⟨g, 2, none⟩ (.int .i64 x)) g f0 f1 x := by
 obtain ⟨A0, c0, hb, hg, hr0⟩ := h
 exact ⟨A0, c0, by simpa using blk_set hb 2 (.int .i64 x), hg, hr0⟩
theorem is112_ {w0 W : World} {g : Nat} {f0 : List Int} {f1 : Int} {f2 : Int} (h : IsS112 w0 W g f0 f1 f2 := by repeat (first | (with_reducible first | exact Aside0.out (by assumption) | apply IsS112.alloc | apply IsS112.drewN | apply IsS112.drew | apply IsS112.set_1 | apply IsS112.set_2) | refine IsS112.far ?_ (Aside0.out (by assumption)) _ | exact Aside0.out (by assumption))) : IsS112 w0 W g f0 f1 f2 := h
theorem bw112_ {w0 W : World} (h : Below w0.heap.size w0 W := by repeat (first | (with_reducible first | exact Aside0.out (by assumption) | apply below_alloc | apply pw_below_drewN | apply below_drew1 | refine below_set ?_ (Aside0.out (by assumption)) | refine below_set ?_ (IsS112.ge (Aside0.out (by assumption)))) | exact Aside0.out (by assumption))) : Below w0.heap.size w0 W := h
theorem ak112_ {w0 W W1 Wo : World} {g : Nat} {f0 : List Int} {f1 : Int} {f2 : Int} {α : Type} {d : Kd α} {e base : Nat} {ok : Nat → Prop} {v : Value} {xs : List α} (HO : Aside0 (d.R e Wo base ok v xs)) (hI : IsS112 w0 W g f0 f1 f2) (hk : KeepBut W W1 g none) (ho : d.R e Wo base ok v xs → d.R e W base ok v xs := by intro h_; (with_reducible repeat (first | apply Kd.R_alloc | apply Kd.R_drewN | apply Kd.R_drew)); exact h_) (ht : ∀ q, q ∈ e :: d.E → q ≠ 112 := by decide) : Aside0 (d.R e W1 base ok v xs) := Aside0.mk (Kd.R_mono (Kd.R_keep (IsS112.apart hI (ho HO.out) ht) hk (fun _ h => h.2)) (fun _ h => h.1))
theorem bs112_ {w0 W W2 : World} (hb : Below W.heap.size W W2) (h : Below w0.heap.size w0 W := by repeat (first | (with_reducible first | exact Aside0.out (by assumption) | apply below_alloc | apply pw_below_drewN | apply below_drew1 | refine below_set ?_ (Aside0.out (by assumption)) | refine below_set ?_ (IsS112.ge (Aside0.out (by assumption)))) | exact Aside0.out (by assumption))) : Aside0 (Below w0.heap.size w0 W2) := Aside0.mk (below_step h hb)
/-! ### spec_l01Byte: function 87 -/
def spec_l01Byte.f (s0_0 : List Int) (s0_1 : Int) (s0_2 : Int) : Option (Int × Int × Int) := if s0_1 < (s0_0.length : Int) then (if 0 ≤ s0_1 then (some (Go.bits .and .i64 (wrap64 ((Go.bits .and .i64 (Go.bits .xor .i64 ((wrap64 ((wrap64 (s0_2 * 6364136223846793005)) + 1442695040888963407)) / 8589934592) ((wrap64 ((wrap64 (s0_2 * 6364136223846793005)) + 1442695040888963407)) / 35184372088832)) 255) + (wrap64 (rd s0_0 s0_1)))) 255, wrap64 (s0_1 + 1), wrap64 ((wrap64 (s0_2 * 6364136223846793005)) + 1442695040888963407))) else (none)) else (some (Go.bits .and .i64 (Go.bits .xor .i64 ((wrap64 ((wrap64 (s0_2 * 6364136223846793005)) + 1442695040888963407)) / 8589934592) ((wrap64 ((wrap64 (s0_2 * 6364136223846793005)) + 1442695040888963407)) / 35184372088832)) 255, s0_1, wrap64 ((wrap64 (s0_2 * 6364136223846793005)) + 1442695040888963407)))
set_option maxHeartbeats 8000000 in
set_option maxRecDepth 100000 in
theorem spec_l01Byte.calls (g : Nat) (s0_0 : List Int) (s0_1 : Int) (s0_2 : Int) (r1 : Int) (r2 : Int) (r3 : Int) (w0 w : World) (hI : IsS112 w0 w g s0_0 s0_1 s0_2) (hB : Below w0.heap.size w0 w) (h : spec_l01Byte.f s0_0 s0_1 s0_2 = some (r1, r2, r3)) :
  Calls Try.prog 87 #[.pointer (some ⟨g, 0, none⟩)] w fun e w' => e = .returned (.int .i64 r1) ∧ IsS112 w0 w' g s0_0 r2 r3 ∧ Below w0.heap.size w0 w' ∧ KeepBut w w' g none := by
 have HI0 := Aside0.mk hI
 have HK := Aside0.mk (KeepBut.refl w g none)
 have HL := Aside0.mk hB.size
 clear hI
 have HW0 := Aside0.mk hB.size
 have HB := Aside0.mk hB
 clear hB
 have H : (if s0_1 < (s0_0.length : Int) then (if 0 ≤ s0_1 then (some (Go.bits .and .i64 (wrap64 ((Go.bits .and .i64 (Go.bits .xor .i64 ((wrap64 ((wrap64 (s0_2 * 6364136223846793005)) + 1442695040888963407)) / 8589934592) ((wrap64 ((wrap64 (s0_2 * 6364136223846793005)) + 1442695040888963407)) / 35184372088832)) 255) + (wrap64 (rd s0_0 s0_1)))) 255, wrap64 (s0_1 + 1), wrap64 ((wrap64 (s0_2 * 6364136223846793005)) + 1442695040888963407))) else (none)) else (some (Go.bits .and .i64 (Go.bits .xor .i64 ((wrap64 ((wrap64 (s0_2 * 6364136223846793005)) + 1442695040888963407)) / 8589934592) ((wrap64 ((wrap64 (s0_2 * 6364136223846793005)) + 1442695040888963407)) / 35184372088832)) 255, s0_1, wrap64 ((wrap64 (s0_2 * 6364136223846793005)) + 1442695040888963407)))) = some (r1, r2, r3) := h
 clear h
 by_cases c2 : s0_1 < (s0_0.length : Int)
 rotate_left
 ·rw [if_neg c2] at H
  have c2b0 : decide (s0_1 < (s0_0.length : Int)) = false := decide_eq_false c2
  clear c2
  simp only [Option.some.injEq, Prod.mk.injEq] at H
  obtain ⟨rfl, rfl, rfl⟩ := H
  obtain ⟨ASz5_0, cSz5_0, HGz5, hgz5, HSz5_0⟩ := HI0.out
  have hcz5_0 := cellS112_0 HGz5
  have hcz5_1 := cellS112_1 HGz5
  have hcz5_2 := cellS112_2 HGz5
  have hfz5_1 := blk_frozen HGz5 1
  have hfz5_2 := blk_frozen HGz5 2
  clear HGz5 hgz5
  go_enter Try.func87, Try.ntmps87
  go_wp2
  repeat (go_quiet (fail); try go_wp2)
  go_ret
  exact ⟨by first | rfl | (simp [errW_none, errW_some] <;> rfl) | (simp [*, errW_none, errW_some] <;> rfl), is112_, bw112_, kx_ HK⟩
 rw [if_pos c2] at H
 have c2b0 : decide (s0_1 < (s0_0.length : Int)) = true := decide_eq_true c2
 clear c2
 obtain ⟨c3b0, H⟩ := iq_ H
 simp only [Option.some.injEq, Prod.mk.injEq] at H
 obtain ⟨rfl, rfl, rfl⟩ := H
 obtain ⟨ASz4_0, cSz4_0, HGz4, hgz4, HSz4_0⟩ := HI0.out
 have hcz4_0 := cellS112_0 HGz4
 have hcz4_1 := cellS112_1 HGz4
 have hcz4_2 := cellS112_2 HGz4
 have hfz4_1 := blk_frozen HGz4 1
 have hfz4_2 := blk_frozen HGz4 2
 clear HGz4 hgz4
 have p147 : 0 ≤ (s0_1 : Int) := oa_
 have q147 : s0_1 < (s0_0.length : Int) := oa_
 obtain ⟨ad147, e147, hx147_0⟩ := Kd.at_int HSz4_0 s0_1 p147 q147
 cases e147
 have hn147_0 : ad147.block ≠ g := Nat.ne_of_lt (Nat.lt_of_lt_of_le (by have := World.block_lt_of_cell? _ _ hx147_0; first | rwa [add_block] at this | exact this) (IsS112.ge HI0.out))
 replace hx147_0 := pw_cell_below HB.out hx147_0
 replace hx147_0 := (cell_far (p := ⟨g, 2, none⟩) (by first | (rw [add_block]; exact hn147_0) | (show (Addr.add _ _).block ≠ _; rw [add_block]; exact hn147_0) | exact hn147_0) (.int .i64 (wrap64 ((wrap64 (s0_2 * 6364136223846793005)) + 1442695040888963407)))).trans hx147_0
 (try have hy147_0 := fun (n_ : Nat) => (show (((w.drewN n_).setCell ⟨g, 2, none⟩ (.int .i64 (wrap64 ((wrap64 (s0_2 * 6364136223846793005)) + 1442695040888963407))))).cell? _ = some _ from hx147_0))
 clear hn147_0
 obtain ⟨p147, q147⟩ := et_ p147 q147
 go_enter Try.func87, Try.ntmps87
 go_wp2
 repeat (go_quiet (fail); try go_wp2)
 go_ret
 exact ⟨by first | rfl | (simp [errW_none, errW_some] <;> rfl) | (simp [*, errW_none, errW_some] <;> rfl), is112_, bw112_, kx_ HK⟩

/-! ### spec_l01Below: function 44 -/
def spec_l01Below.f (s0_0 : List Int) (s0_1 : Int) (s0_2 : Int) (a1 : Int) : Option (Int × Int × Int) := if a1 ≤ 0 then (some (0, s0_1, s0_2)) else (if a1 ≤ 256 then ((spec_l01Byte.f s0_0 s0_1 s0_2).bind fun bt148 => (if a1 = 0 then (none) else (some (Int.tmod bt148.1 a1, bt148.2.1, bt148.2.2)))) else ((spec_l01Byte.f s0_0 s0_1 s0_2).bind fun bt151 => ((spec_l01Byte.f s0_0 bt151.2.1 bt151.2.2).bind fun bt154 => ((spec_l01Byte.f s0_0 bt154.2.1 bt154.2.2).bind fun bt157 => (if a1 = 0 then (none) else (some (Int.tmod (wrap64 ((wrap64 ((wrap64 (bt151.1 * 65536)) + (wrap64 (bt154.1 * 256)))) + bt157.1)) a1, bt157.2.1, bt157.2.2)))))))
set_option maxHeartbeats 8000000 in
set_option maxRecDepth 100000 in
theorem spec_l01Below.calls (g : Nat) (s0_0 : List Int) (s0_1 : Int) (s0_2 : Int) (a1 : Int) (r1 : Int) (r2 : Int) (r3 : Int) (w0 w : World) (hI : IsS112 w0 w g s0_0 s0_1 s0_2) (hB : Below w0.heap.size w0 w) (h : spec_l01Below.f s0_0 s0_1 s0_2 a1 = some (r1, r2, r3)) :
  Calls Try.prog 44 #[.pointer (some ⟨g, 0, none⟩), .int .i64 a1] w fun e w' => e = .returned (.int .i64 r1) ∧ IsS112 w0 w' g s0_0 r2 r3 ∧ Below w0.heap.size w0 w' ∧ KeepBut w w' g none := by
 have HI0 := Aside0.mk hI
 have HK := Aside0.mk (KeepBut.refl w g none)
 have HL := Aside0.mk hB.size
 clear hI
 have HW0 := Aside0.mk hB.size
 have HB := Aside0.mk hB
 clear hB
 have H : (if a1 ≤ 0 then (some (0, s0_1, s0_2)) else (if a1 ≤ 256 then ((spec_l01Byte.f s0_0 s0_1 s0_2).bind fun bt148 => (if a1 = 0 then (none) else (some (Int.tmod bt148.1 a1, bt148.2.1, bt148.2.2)))) else ((spec_l01Byte.f s0_0 s0_1 s0_2).bind fun bt151 => ((spec_l01Byte.f s0_0 bt151.2.1 bt151.2.2).bind fun bt154 => ((spec_l01Byte.f s0_0 bt154.2.1 bt154.2.2).bind fun bt157 => (if a1 = 0 then (none) else (some (Int.tmod (wrap64 ((wrap64 ((wrap64 (bt151.1 * 65536)) + (wrap64 (bt154.1 * 256)))) + bt157.1)) a1, bt157.2.1, bt157.2.2)))))))) = some (r1, r2, r3) := h
 clear h
 by_cases c3 : a1 ≤ 0
 ·rw [if_pos c3] at H
  have c3b0 : decide (a1 ≤ 0) = true := decide_eq_true c3
  clear c3
  simp only [Option.some.injEq, Prod.mk.injEq] at H
  obtain ⟨rfl, rfl, rfl⟩ := H
  go_enter Try.func44, Try.ntmps44
  go_wp2
  go_ret
  exact ⟨by first | rfl | (simp [errW_none, errW_some] <;> rfl) | (simp [*, errW_none, errW_some] <;> rfl), is112_, bw112_, kx_ HK⟩
 rw [if_neg c3] at H
 have c3b0 : decide (a1 ≤ 0) = false := decide_eq_false c3
 clear c3
 by_cases c4 : a1 ≤ 256
 ·rw [if_pos c4] at H
  have c4b0 : decide (a1 ≤ 256) = true := decide_eq_true c4
  clear c4
  obtain ⟨⟨t148, t149, t150⟩, A5, H⟩ := ob_ H
  by_cases c6 : a1 = 0
  ·rw [if_pos c6] at H
   exact absurd H (by simp)
  rw [if_neg c6] at H
  have c6b0 : (a1 == 0) = false := beq_eq_false_iff_ne.mpr c6
  have c6b1 : (a1 != 0) = true := bne_iff_ne.mpr c6
  simp only [Option.some.injEq, Prod.mk.injEq] at H
  obtain ⟨rfl, rfl, rfl⟩ := H
  go_enter Try.func44, Try.ntmps44
  go_wp2_with ((with_reducible refine gate_callee (f := 87) rfl ?_); refine gl_ (some 13) Try.func87 #[.pointer (some ⟨g, 0, none⟩)] ?_; (with_reducible refine (spec_l01Byte.calls g s0_0 s0_1 s0_2 t148 t149 t150 w0 _ ?side1 ?side2 A5.out).mono ?_); (case side1 => exact is112_); (case side2 => exact bw112_); rintro e w7 ⟨rfl, hi, hb, hk⟩; refine ⟨_, rfl, ?_⟩; replace HK := kt_ HK hk; replace HB := Aside0.mk (hb); replace HI0 := Aside0.mk (hi); clear hb hk hi)
  go_ret
  exact ⟨by first | rfl | (simp [errW_none, errW_some] <;> rfl) | (simp [*, errW_none, errW_some] <;> rfl), is112_, bw112_, kx_ HK⟩
 rw [if_neg c4] at H
 have c4b0 : decide (a1 ≤ 256) = false := decide_eq_false c4
 clear c4
 obtain ⟨⟨t151, t152, t153⟩, A8, H⟩ := ob_ H
 obtain ⟨⟨t154, t155, t156⟩, A9, H⟩ := ob_ H
 obtain ⟨⟨t157, t158, t159⟩, A10, H⟩ := ob_ H
 by_cases c11 : a1 = 0
 ·rw [if_pos c11] at H
  exact absurd H (by simp)
 rw [if_neg c11] at H
 have c11b0 : (a1 == 0) = false := beq_eq_false_iff_ne.mpr c11
 have c11b1 : (a1 != 0) = true := bne_iff_ne.mpr c11
 simp only [Option.some.injEq, Prod.mk.injEq] at H
 obtain ⟨rfl, rfl, rfl⟩ := H
 go_enter Try.func44, Try.ntmps44
 go_wp2_with (first | ((with_reducible refine gate_callee (f := 87) rfl ?_); refine gl_ (some 17) Try.func87 #[.pointer (some ⟨g, 0, none⟩)] ?_; (with_reducible refine (spec_l01Byte.calls g s0_0 s0_1 s0_2 t151 t152 t153 w0 _ ?side1 ?side2 A8.out).mono ?_); (case side1 => exact is112_); (case side2 => exact bw112_); rintro e w12 ⟨rfl, hi, hb, hk⟩; refine ⟨_, rfl, ?_⟩; replace HK := kt_ HK hk; replace HB := Aside0.mk (hb); replace HI0 := Aside0.mk (hi); clear hb hk hi) | ((with_reducible refine gate_callee (f := 87) rfl ?_); refine gl_ (some 19) Try.func87 #[.pointer (some ⟨g, 0, none⟩)] ?_; (with_reducible refine (spec_l01Byte.calls g s0_0 t152 t153 t154 t155 t156 w0 _ ?side1 ?side2 A9.out).mono ?_); (case side1 => exact is112_); (case side2 => exact bw112_); rintro e w13 ⟨rfl, hi, hb, hk⟩; refine ⟨_, rfl, ?_⟩; replace HK := kt_ HK hk; replace HB := Aside0.mk (hb); replace HI0 := Aside0.mk (hi); clear hb hk hi) | ((with_reducible refine gate_callee (f := 87) rfl ?_); refine gl_ (some 21) Try.func87 #[.pointer (some ⟨g, 0, none⟩)] ?_; (with_reducible refine (spec_l01Byte.calls g s0_0 t155 t156 t157 t158 t159 w0 _ ?side1 ?side2 A10.out).mono ?_); (case side1 => exact is112_); (case side2 => exact bw112_); rintro e w14 ⟨rfl, hi, hb, hk⟩; refine ⟨_, rfl, ?_⟩; replace HK := kt_ HK hk; replace HB := Aside0.mk (hb); replace HI0 := Aside0.mk (hi); clear hb hk hi))
 go_ret
 exact ⟨by first | rfl | (simp [errW_none, errW_some] <;> rfl) | (simp [*, errW_none, errW_some] <;> rfl), is112_, bw112_, kx_ HK⟩

/-! ### spec_l01New: function 59 -/
def spec_l01New.l0 : Nat → List Int → Int → Int → Option (List Int × Int × Int)
 | 0, _, _, _ => none
 | k + 1, x0, x3, x4 => if x4 < (x0.length : Int) then (if x4 < 4000 then (if 0 ≤ x4 then (spec_l01New.l0 k x0 (Go.bits .and .i64 (wrap64 ((wrap64 ((wrap64 (x3 * 149)) + (wrap64 (rd x0 x4)))) + 11)) 1073741823) (wrap64 (x4 + 1))) else (none)) else (some (x0, 0, x3))) else (some (x0, 0, x3))
def spec_l01New.f (k : Nat) (l0 : List Int) : Option (List Int × Int × Int) := spec_l01New.l0 k l0 (wrap64 (681681 + (l0.length : Int))) 0
set_option maxHeartbeats 8000000 in
set_option maxRecDepth 100000 in
theorem spec_l01New.calls (k : Nat) (A0 : Option Addr) (c0 : Nat) (l0 : List Int) (r1 : List Int) (r2 : Int) (r3 : Int) (w0 w : World) (hB : Below w0.heap.size w0 w) (hr0 : Kd.C (Kd.int .u8) w0 A0 l0.length l0) (hc0 : l0.length ≤ c0) (h : spec_l01New.f k l0 = some (r1, r2, r3)) :
  Calls Try.prog 59 #[.slice A0 l0.length c0] w fun e w' => ∃ g_ : Nat, e = .returned (.pointer (some ⟨g_, 0, none⟩)) ∧ IsS112 w0 w' g_ r1 r2 r3 ∧ Below w0.heap.size w0 w' ∧ Below w.heap.size w w' := by
 have hu112 := Try.underlying112
 have HR0 := Aside0.mk hr0
 have HC0 := Aside0.mk hc0
 clear hr0 hc0
 have HBW := Aside0.mk (Below.refl w.heap.size w)
 have HW0 := Aside0.mk hB.size
 have HB := Aside0.mk hB
 clear hB
 have H : (spec_l01New.l0 k l0 (wrap64 (681681 + (l0.length : Int))) 0) = some (r1, r2, r3) := h
 clear h
 have H' := Aside0.mk H
 clear H
 go_enter Try.func59, Try.ntmps59
 go_wp2
 go_loopg [3, 4] k (fun kq v3 v4 w' => ∃ (x3_1 : Int) (x4_1 : Int), v3 = .int .i64 x3_1 ∧ v4 = .int .i64 x4_1 ∧ Aside0 (spec_l01New.l0 kq l0 x3_1 x4_1 = some (r1, r2, r3)) ∧ Aside0 (kq ≤ k) ∧ Aside0 (Below w0.heap.size w0 w') ∧ Aside0 (Below w.heap.size w w'))
 case atStart => exact ⟨(wrap64 (681681 + (l0.length : Int))), (0), er_, er_, H', ⟨Nat.le_refl _⟩, ⟨bw112_⟩, ⟨by repeat (first | (with_reducible first | exact HBW.out | apply below_alloc | apply pw_below_drewN | apply below_drew1) | exact HBW.out)⟩⟩
 case round =>
  clear H'
  obtain ⟨x3_1, x4_1, rfl, rfl, HA, HK1, HB, HBW⟩ := hrel
  cases gk with
  | zero => exact absurd HA.out (by simp [spec_l01New.l0])
  | succ k1 =>
   have H := HA.out
   clear HA
   simp only [spec_l01New.l0] at H
   by_cases c2 : x4_1 < (l0.length : Int)
   rotate_left
   ·rw [if_neg c2] at H
    have c2b0 : decide (x4_1 < (l0.length : Int)) = false := decide_eq_false c2
    clear c2
    simp only [Option.some.injEq, Prod.mk.injEq] at H
    obtain ⟨rfl, rfl, rfl⟩ := H
    go_wp2_with ((with_reducible refine gate_dst (N := 31) rfl ?_); refine be_ 31 #[.slice A0 l0.length c0, .int .i64 0, .int .i64 x3_1] 112 ?_; intro gb162 hg w6 BK162 hb; have GW162 := Aside0.mk ((by rw [hg]; exact (below_size (by repeat (first | (with_reducible first | exact HBW.out | apply below_alloc | apply pw_below_drewN | apply below_drew1) | exact HBW.out))) : w.heap.size ≤ gb162)); have GE162 := Aside0.mk ((Nat.le_trans HW0.out (by rw [hg]; exact (below_size (by repeat (first | (with_reducible first | exact HBW.out | apply below_alloc | apply pw_below_drewN | apply below_drew1) | exact HBW.out))) : w.heap.size ≤ gb162) : w0.heap.size ≤ gb162)); replace HB := at_ HB hb; replace HBW := Aside0.mk (bt_ HBW hb); clear hb hg)
    go_ret
    exact ⟨_, rfl, (show IsS112 w0 _ gb162 l0 0 x3_1 from ⟨_, _, bx_ BK162, GE162.out, HR0.out⟩), bw112_, by repeat (first | (with_reducible first | exact HBW.out | apply below_alloc | apply pw_below_drewN | apply below_drew1 | refine below_set ?_ GW162.out) | exact HBW.out)⟩
   rw [if_pos c2] at H
   have c2b0 : decide (x4_1 < (l0.length : Int)) = true := decide_eq_true c2
   clear c2
   by_cases c3 : x4_1 < 4000
   rotate_left
   ·rw [if_neg c3] at H
    have c3b0 : decide (x4_1 < 4000) = false := decide_eq_false c3
    clear c3
    simp only [Option.some.injEq, Prod.mk.injEq] at H
    obtain ⟨rfl, rfl, rfl⟩ := H
    go_wp2_with ((with_reducible refine gate_dst (N := 31) rfl ?_); refine be_ 31 #[.slice A0 l0.length c0, .int .i64 0, .int .i64 x3_1] 112 ?_; intro gb161 hg w5 BK161 hb; have GW161 := Aside0.mk ((by rw [hg]; exact (below_size (by repeat (first | (with_reducible first | exact HBW.out | apply below_alloc | apply pw_below_drewN | apply below_drew1) | exact HBW.out))) : w.heap.size ≤ gb161)); have GE161 := Aside0.mk ((Nat.le_trans HW0.out (by rw [hg]; exact (below_size (by repeat (first | (with_reducible first | exact HBW.out | apply below_alloc | apply pw_below_drewN | apply below_drew1) | exact HBW.out))) : w.heap.size ≤ gb161) : w0.heap.size ≤ gb161)); replace HB := at_ HB hb; replace HBW := Aside0.mk (bt_ HBW hb); clear hb hg)
    go_ret
    exact ⟨_, rfl, (show IsS112 w0 _ gb161 l0 0 x3_1 from ⟨_, _, bx_ BK161, GE161.out, HR0.out⟩), bw112_, by repeat (first | (with_reducible first | exact HBW.out | apply below_alloc | apply pw_below_drewN | apply below_drew1 | refine below_set ?_ GW161.out) | exact HBW.out)⟩
   rw [if_pos c3] at H
   have c3b0 : decide (x4_1 < 4000) = true := decide_eq_true c3
   clear c3
   obtain ⟨c4b0, H⟩ := iq_ H
   have H' := Aside0.mk H
   clear H
   have p160 : 0 ≤ (x4_1 : Int) := oa_
   have q160 : x4_1 < (l0.length : Int) := oa_
   obtain ⟨ad160, e160, hx160_0⟩ := Kd.at_int HR0.out x4_1 p160 q160
   cases e160
   replace hx160_0 := pw_cell_below HB.out hx160_0
   obtain ⟨p160, q160⟩ := et_ p160 q160
   go_wp2
   go_roundg k1
   case measure => have := HK1.out; omega
   case rel => exact ⟨(Go.bits .and .i64 (wrap64 ((wrap64 ((wrap64 (x3_1 * 149)) + (wrap64 (rd l0 x4_1)))) + 11)) 1073741823), (wrap64 (x4_1 + 1)), er_, er_, H', ⟨by have := HK1.out; omega⟩, ⟨bw112_⟩, ⟨by repeat (first | (with_reducible first | exact HBW.out | apply below_alloc | apply pw_below_drewN | apply below_drew1) | exact HBW.out)⟩⟩

/-! ### spec_l02Ahead: function 47 -/
def spec_l02Ahead.f (a0_0 : Int) (a0_1 : Int) (a1_0 : Int) (a1_1 : Int) : Option (Bool) := if a0_0 < a1_0 then (some true) else (if a0_0 = a1_0 then (some (decide (a0_1 < a1_1))) else (some false))
set_option maxHeartbeats 8000000 in
set_option maxRecDepth 100000 in
theorem spec_l02Ahead.calls (a0_0 : Int) (a0_1 : Int) (a1_0 : Int) (a1_1 : Int) (r : Bool) (w : World) (h : spec_l02Ahead.f a0_0 a0_1 a1_0 a1_1 = some r) :
  Calls Try.prog 47 #[.agg #[.int .i64 a0_0, .int .i64 a0_1], .agg #[.int .i64 a1_0, .int .i64 a1_1]] w fun e w' => e = .returned (.bool r) ∧ Below w.heap.size w w' := by
 have hu28 := Try.underlying28
 have HB := Aside0.mk (Below.refl w.heap.size w)
 have H : (if a0_0 < a1_0 then (some true) else (if a0_0 = a1_0 then (some (decide (a0_1 < a1_1))) else (some false))) = some r := h
 clear h
 by_cases c3 : a0_0 < a1_0
 ·rw [if_pos c3] at H
  have c3b0 : decide (a0_0 < a1_0) = true := decide_eq_true c3
  clear c3
  obtain rfl := Option.some.inj H
  go_enter Try.func47, Try.ntmps47
  go_wp2_with (first | ((with_reducible refine gate_dst (N := 2) rfl ?_); refine be_ 2 #[.int .i64 a0_0, .int .i64 a0_1] 28 ?_; intro gb163 hg w4 BK163 hb; have GW163 := ge_ HB hg; have GE163 := ge_ HB hg; replace HB := at_ HB hb; clear hb hg) | ((with_reducible refine gate_dst (N := 3) rfl ?_); refine be_ 3 #[.int .i64 a1_0, .int .i64 a1_1] 28 ?_; intro gb164 hg w5 BK164 hb; have GW164 := ge_ HB hg; have GE164 := ge_ HB hg; have NB163_164 := nl_ BK163 hg; have NB164_163 := ng_ BK163 hg; replace HB := at_ HB hb; replace BK163 := ab_ BK163 hb; clear hb hg; have hnb6 := NB163_164.out; have hnc6 := NB164_163.out; have hcz7_0 := cz_ BK163 0 (.int .i64 a0_0); have hcz7_1 := cz_ BK163 1 (.int .i64 a0_1); have hfz7_0 := fz_ BK163 0; have hfz7_1 := fz_ BK163 1; have hcz8_0 := cz_ BK164 0 (.int .i64 a1_0); have hcz8_1 := cz_ BK164 1 (.int .i64 a1_1); have hfz8_0 := fz_ BK164 0; have hfz8_1 := fz_ BK164 1))
  go_ret
  exact ⟨by first | rfl | (simp [errW_none, errW_some] <;> rfl) | (simp [*, errW_none, errW_some] <;> rfl), bw112_⟩
 rw [if_neg c3] at H
 have c3b0 : decide (a0_0 < a1_0) = false := decide_eq_false c3
 clear c3
 by_cases c9 : a0_0 = a1_0
 rotate_left
 ·rw [if_neg c9] at H
  have c9b0 : (a0_0 == a1_0) = false := beq_eq_false_iff_ne.mpr c9
  have c9b1 : (a0_0 != a1_0) = true := bne_iff_ne.mpr c9
  obtain rfl := Option.some.inj H
  go_enter Try.func47, Try.ntmps47
  go_wp2_with (first | ((with_reducible refine gate_dst (N := 2) rfl ?_); refine be_ 2 #[.int .i64 a0_0, .int .i64 a0_1] 28 ?_; intro gb163 hg w15 BK163 hb; have GW163 := ge_ HB hg; have GE163 := ge_ HB hg; replace HB := at_ HB hb; clear hb hg) | ((with_reducible refine gate_dst (N := 3) rfl ?_); refine be_ 3 #[.int .i64 a1_0, .int .i64 a1_1] 28 ?_; intro gb164 hg w16 BK164 hb; have GW164 := ge_ HB hg; have GE164 := ge_ HB hg; have NB163_164 := nl_ BK163 hg; have NB164_163 := ng_ BK163 hg; replace HB := at_ HB hb; replace BK163 := ab_ BK163 hb; clear hb hg; have hnb17 := NB163_164.out; have hnc17 := NB164_163.out; have hcz18_0 := cz_ BK163 0 (.int .i64 a0_0); have hcz18_1 := cz_ BK163 1 (.int .i64 a0_1); have hfz18_0 := fz_ BK163 0; have hfz18_1 := fz_ BK163 1; have hcz19_0 := cz_ BK164 0 (.int .i64 a1_0); have hcz19_1 := cz_ BK164 1 (.int .i64 a1_1); have hfz19_0 := fz_ BK164 0; have hfz19_1 := fz_ BK164 1))
  go_ret
  exact ⟨by first | rfl | (simp [errW_none, errW_some] <;> rfl) | (simp [*, errW_none, errW_some] <;> rfl), bw112_⟩
 rw [if_pos c9] at H
 have c9b0 : (a0_0 == a1_0) = true := beq_iff_eq.mpr c9
 have c9b1 : (a0_0 != a1_0) = false := bne_eq_false_iff_eq.mpr c9
 clear c9
 obtain rfl := Option.some.inj H
 go_enter Try.func47, Try.ntmps47
 go_wp2_with (first | ((with_reducible refine gate_dst (N := 2) rfl ?_); refine be_ 2 #[.int .i64 a0_0, .int .i64 a0_1] 28 ?_; intro gb163 hg w10 BK163 hb; have GW163 := ge_ HB hg; have GE163 := ge_ HB hg; replace HB := at_ HB hb; clear hb hg) | ((with_reducible refine gate_dst (N := 3) rfl ?_); refine be_ 3 #[.int .i64 a1_0, .int .i64 a1_1] 28 ?_; intro gb164 hg w11 BK164 hb; have GW164 := ge_ HB hg; have GE164 := ge_ HB hg; have NB163_164 := nl_ BK163 hg; have NB164_163 := ng_ BK163 hg; replace HB := at_ HB hb; replace BK163 := ab_ BK163 hb; clear hb hg; have hnb12 := NB163_164.out; have hnc12 := NB164_163.out; have hcz13_0 := cz_ BK163 0 (.int .i64 a0_0); have hcz13_1 := cz_ BK163 1 (.int .i64 a0_1); have hfz13_0 := fz_ BK163 0; have hfz13_1 := fz_ BK163 1; have hcz14_0 := cz_ BK164 0 (.int .i64 a1_0); have hcz14_1 := cz_ BK164 1 (.int .i64 a1_1); have hfz14_0 := fz_ BK164 0; have hfz14_1 := fz_ BK164 1))
 go_ret
 exact ⟨by first | rfl | (simp [errW_none, errW_some] <;> rfl) | (simp [*, errW_none, errW_some] <;> rfl), bw112_⟩

/-! ### spec_l01In: function 56 -/
def spec_l01In.f (a0 : Int) (a1 : Int) (a2 : Int) : Option (Bool) := if a1 ≤ a0 then (some (decide (a0 ≤ a2))) else (some false)
set_option maxHeartbeats 8000000 in
set_option maxRecDepth 100000 in
theorem spec_l01In.calls (a0 : Int) (a1 : Int) (a2 : Int) (r : Bool) (w : World) (h : spec_l01In.f a0 a1 a2 = some r) :
  Calls Try.prog 56 #[.int .i64 a0, .int .i64 a1, .int .i64 a2] w fun e w' => e = .returned (.bool r) ∧ Drawn0 w w' := by
 have H : (if a1 ≤ a0 then (some (decide (a0 ≤ a2))) else (some false)) = some r := h
 clear h
 by_cases c4 : a1 ≤ a0
 ·rw [if_pos c4] at H
  have c4b0 : decide (a1 ≤ a0) = true := decide_eq_true c4
  clear c4
  obtain rfl := Option.some.inj H
  go_enter Try.func56, Try.ntmps56
  go_wp2
  go_ret
  exact ⟨by first | rfl | (simp; done) | (simp [*]; done), by repeat (first | exact Drawn0.refl _ | apply Drawn0.step)⟩
 rw [if_neg c4] at H
 have c4b0 : decide (a1 ≤ a0) = false := decide_eq_false c4
 clear c4
 obtain rfl := Option.some.inj H
 go_enter Try.func56, Try.ntmps56
 go_wp2
 go_ret
 exact ⟨by first | rfl | (simp; done) | (simp [*]; done), by repeat (first | exact Drawn0.refl _ | apply Drawn0.step)⟩

/-! ### spec_l01Addr: function 54 -/
def spec_l01Addr.f (a0 : Int) : Option (Bool) := (spec_l01In.f a0 0 65535).bind fun t165 => (some t165)
set_option maxHeartbeats 8000000 in
set_option maxRecDepth 100000 in
theorem spec_l01Addr.calls (a0 : Int) (r : Bool) (w : World) (h : spec_l01Addr.f a0 = some r) :
  Calls Try.prog 54 #[.int .i64 a0] w fun e w' => e = .returned (.bool r) ∧ Drawn0 w w' := by
 have H : ((spec_l01In.f a0 0 65535).bind fun t165 => (some t165)) = some r := h
 clear h
 obtain ⟨t165, A2, H⟩ := ob_ H
 obtain rfl := Option.some.inj H
 go_enter Try.func54, Try.ntmps54
 go_wp2_with ((with_reducible refine gate_callee (f := 56) rfl ?_); refine gl_ (some 4) Try.func56 #[.int .i64 a0, .int .i64 0, .int .i64 65535] ?_; (with_reducible refine (spec_l01In.calls a0 0 65535 t165 _ A2.out).mono ?_); rintro e w' ⟨rfl, ⟨nd, rfl⟩⟩; refine ⟨_, rfl, ?_⟩)
 go_ret
 exact ⟨by first | rfl | (simp; done) | (simp [*]; done), by repeat (first | exact Drawn0.refl _ | apply Drawn0.step)⟩

/-! ### spec_l01Size2: function 57 -/
def spec_l01Size2.f (a0 : Int) : Option (Int) := if 0 ≤ (IntKind.u64.wrap (wrap64 (16 - a0))) then (some (shl .i64 1 (IntKind.u64.wrap (wrap64 (16 - a0))))) else (none)
set_option maxHeartbeats 8000000 in
set_option maxRecDepth 100000 in
theorem spec_l01Size2.calls (a0 : Int) (r : Int) (w : World) (h : spec_l01Size2.f a0 = some r) :
  Calls Try.prog 57 #[.int .i64 a0] w fun e w' => e = .returned (.int .i64 r) ∧ Drawn0 w w' := by
 have H : (if 0 ≤ (IntKind.u64.wrap (wrap64 (16 - a0))) then (some (shl .i64 1 (IntKind.u64.wrap (wrap64 (16 - a0))))) else (none)) = some r := h
 clear h
 obtain ⟨ji2, hji2⟩ : ∃ j_ : Int, (IntKind.u64.wrap (wrap64 (16 - a0))) = j_ := ⟨_, rfl⟩
 first | rw [hji2] at H | simp only [hji2] at H
 by_cases c3 : 0 ≤ (ji2)
 rotate_left
 ·rw [if_neg c3] at H
  exact absurd H (by simp)
 rw [if_pos c3] at H
 have c3b0 := eq_true c3
 have c3b1 : decide (0 ≤ (ji2)) = true := decide_eq_true c3
 clear c3
 obtain ⟨ji4, hji4⟩ : ∃ j_ : Int, (shl .i64 1 (ji2)) = j_ := ⟨_, rfl⟩
 first | rw [hji4] at H | simp only [hji4] at H
 have hji4_ : (IntKind.i64.wrap (1 * 2 ^ min (ji2).toNat 64)) = ji4 := hji4
 have hji4z : (ji2) ≤ 64 → (IntKind.i64.wrap (1 * 2 ^ (ji2).toNat)) = ji4 := shl_small hji4
 have hji4u : (IntKind.i64.wrap (2 ^ min (ji2).toNat 64)) = ji4 := by have h_ := hji4_; rw [Int.one_mul] at h_; exact h_
 have hji4v : (ji2) ≤ 64 → (IntKind.i64.wrap (2 ^ (ji2).toNat)) = ji4 := fun hle_ => by have h_ := hji4z hle_; rw [Int.one_mul] at h_; exact h_
 have hji4y : (wrap64 (1 * 2 ^ min (ji2).toNat 64)) = ji4 := (i64_w _).symm.trans hji4_
 have hji4x : (ji2) ≤ 64 → (wrap64 (1 * 2 ^ (ji2).toNat)) = ji4 := fun h_ => (i64_w _).symm.trans (hji4z h_)
 obtain rfl := Option.some.inj H
 go_enter Try.func57, Try.ntmps57
 go_wp2
 go_ret
 exact ⟨by first | rfl | (simp; done) | (simp only [← hji2, ← hji4] <;> (first | rfl | simp)) | (simp [*]; done), by repeat (first | exact Drawn0.refl _ | apply Drawn0.step)⟩

/-! ### spec_PrefixOk: function 55 -/
def spec_PrefixOk.f (a0_0 : Int) (a0_1 : Int) : Option (Bool) := (spec_l01In.f a0_1 0 16).bind fun t167 => (if t167 = true then ((spec_l01Addr.f a0_0).bind fun t168 => (if t168 = true then ((spec_l01Size2.f a0_1).bind fun t169 => (if t169 = 0 then (none) else (some ((Int.tmod a0_0 t169) == 0)))) else (some false))) else (some false))
set_option maxHeartbeats 8000000 in
set_option maxRecDepth 100000 in
theorem spec_PrefixOk.calls (a0_0 : Int) (a0_1 : Int) (r : Bool) (w : World) (h : spec_PrefixOk.f a0_0 a0_1 = some r) :
  Calls Try.prog 55 #[.agg #[.int .i64 a0_0, .int .i64 a0_1]] w fun e w' => e = .returned (.bool r) ∧ Below w.heap.size w w' := by
 have hu28 := Try.underlying28
 have HB := Aside0.mk (Below.refl w.heap.size w)
 have H : ((spec_l01In.f a0_1 0 16).bind fun t167 => (if t167 = true then ((spec_l01Addr.f a0_0).bind fun t168 => (if t168 = true then ((spec_l01Size2.f a0_1).bind fun t169 => (if t169 = 0 then (none) else (some ((Int.tmod a0_0 t169) == 0)))) else (some false))) else (some false))) = some r := h
 clear h
 obtain ⟨t167, A2, H⟩ := ob_ H
 by_cases c3 : t167 = true
 rotate_left
 ·replace c3 := Bool.eq_false_iff.mpr c3
  subst c3
  rw [if_neg (show ¬ (false = true) by decide)] at H
  obtain rfl := Option.some.inj H
  go_enter Try.func55, Try.ntmps55
  go_wp2_with ((with_reducible refine gate_dst (N := 1) rfl ?_); refine be_ 1 #[.int .i64 a0_0, .int .i64 a0_1] 28 ?_; intro gb166 hg w12 BK166 hb; have GW166 := ge_ HB hg; have GE166 := ge_ HB hg; replace HB := at_ HB hb; clear hb hg; have hcz13_0 := cz_ BK166 0 (.int .i64 a0_0); have hcz13_1 := cz_ BK166 1 (.int .i64 a0_1); have hfz13_0 := fz_ BK166 0; have hfz13_1 := fz_ BK166 1)
  repeat (go_quiet ((go_at_call 56; (with_reducible refine (spec_l01In.calls a0_1 0 16 false _ A2.out).mono ?_); rintro e w' ⟨rfl, ⟨nd, rfl⟩⟩; (try first | exact ⟨rfl, _, World.drewN_drewN _ _ _⟩ | exact ⟨rfl, _, Eq.trans (World.drewN_drewN _ _ _) (congrArg (World.drewN _) (Nat.add_assoc _ _ _))⟩))); try go_wp2_with (fail))
  go_ret
  exact ⟨by first | rfl | (simp [errW_none, errW_some] <;> rfl) | (simp [*, errW_none, errW_some] <;> rfl), bw112_⟩
 subst c3
 rw [if_pos rfl] at H
 obtain ⟨t168, A4, H⟩ := ob_ H
 by_cases c5 : t168 = true
 rotate_left
 ·replace c5 := Bool.eq_false_iff.mpr c5
  subst c5
  rw [if_neg (show ¬ (false = true) by decide)] at H
  obtain rfl := Option.some.inj H
  go_enter Try.func55, Try.ntmps55
  go_wp2_with ((with_reducible refine gate_dst (N := 1) rfl ?_); refine be_ 1 #[.int .i64 a0_0, .int .i64 a0_1] 28 ?_; intro gb166 hg w10 BK166 hb; have GW166 := ge_ HB hg; have GE166 := ge_ HB hg; replace HB := at_ HB hb; clear hb hg; have hcz11_0 := cz_ BK166 0 (.int .i64 a0_0); have hcz11_1 := cz_ BK166 1 (.int .i64 a0_1); have hfz11_0 := fz_ BK166 0; have hfz11_1 := fz_ BK166 1)
  repeat (go_quiet (first | (go_at_call 56; (with_reducible refine (spec_l01In.calls a0_1 0 16 true _ A2.out).mono ?_); rintro e w' ⟨rfl, ⟨nd, rfl⟩⟩; (try first | exact ⟨rfl, _, World.drewN_drewN _ _ _⟩ | exact ⟨rfl, _, Eq.trans (World.drewN_drewN _ _ _) (congrArg (World.drewN _) (Nat.add_assoc _ _ _))⟩)) | (go_at_call 54; (with_reducible refine (spec_l01Addr.calls a0_0 false _ A4.out).mono ?_); rintro e w' ⟨rfl, ⟨nd, rfl⟩⟩; (try first | exact ⟨rfl, _, World.drewN_drewN _ _ _⟩ | exact ⟨rfl, _, Eq.trans (World.drewN_drewN _ _ _) (congrArg (World.drewN _) (Nat.add_assoc _ _ _))⟩))); try go_wp2_with (fail))
  go_ret
  exact ⟨by first | rfl | (simp [errW_none, errW_some] <;> rfl) | (simp [*, errW_none, errW_some] <;> rfl), bw112_⟩
 subst c5
 rw [if_pos rfl] at H
 obtain ⟨t169, A6, H⟩ := ob_ H
 by_cases c7 : t169 = 0
 ·rw [if_pos c7] at H
  exact absurd H (by simp)
 rw [if_neg c7] at H
 have c7b0 : (t169 == 0) = false := beq_eq_false_iff_ne.mpr c7
 have c7b1 : (t169 != 0) = true := bne_iff_ne.mpr c7
 obtain rfl := Option.some.inj H
 go_enter Try.func55, Try.ntmps55
 go_wp2_with ((with_reducible refine gate_dst (N := 1) rfl ?_); refine be_ 1 #[.int .i64 a0_0, .int .i64 a0_1] 28 ?_; intro gb166 hg w8 BK166 hb; have GW166 := ge_ HB hg; have GE166 := ge_ HB hg; replace HB := at_ HB hb; clear hb hg; have hcz9_0 := cz_ BK166 0 (.int .i64 a0_0); have hcz9_1 := cz_ BK166 1 (.int .i64 a0_1); have hfz9_0 := fz_ BK166 0; have hfz9_1 := fz_ BK166 1)
 repeat (go_quiet (first | (go_at_call 56; (with_reducible refine (spec_l01In.calls a0_1 0 16 true _ A2.out).mono ?_); rintro e w' ⟨rfl, ⟨nd, rfl⟩⟩; (try first | exact ⟨rfl, _, World.drewN_drewN _ _ _⟩ | exact ⟨rfl, _, Eq.trans (World.drewN_drewN _ _ _) (congrArg (World.drewN _) (Nat.add_assoc _ _ _))⟩)) | (go_at_call 54; (with_reducible refine (spec_l01Addr.calls a0_0 true _ A4.out).mono ?_); rintro e w' ⟨rfl, ⟨nd, rfl⟩⟩; (try first | exact ⟨rfl, _, World.drewN_drewN _ _ _⟩ | exact ⟨rfl, _, Eq.trans (World.drewN_drewN _ _ _) (congrArg (World.drewN _) (Nat.add_assoc _ _ _))⟩)) | (go_at_call 57; (with_reducible refine (spec_l01Size2.calls a0_1 t169 _ A6.out).mono ?_); rintro e w' ⟨rfl, ⟨nd, rfl⟩⟩; (try first | exact ⟨rfl, _, World.drewN_drewN _ _ _⟩ | exact ⟨rfl, _, Eq.trans (World.drewN_drewN _ _ _) (congrArg (World.drewN _) (Nat.add_assoc _ _ _))⟩))); try go_wp2_with (fail))
 go_ret
 exact ⟨by first | rfl | (simp [errW_none, errW_some] <;> rfl) | (simp [*, errW_none, errW_some] <;> rfl), bw112_⟩

end Go.Proofs.Ytjepmdngbafonaa.QFnSqueezed
