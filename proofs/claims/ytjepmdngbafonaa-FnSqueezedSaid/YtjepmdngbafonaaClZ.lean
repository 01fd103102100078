/- 'clear' of the tail of a row of the call's own; a variable in memory that is read as a row of one element. Plain lemmas; nothing of the program. -/
import Derived.Test.YtjepmdngbafonaaExZ
namespace Go.Proofs.Ytjepmdngbafonaa
open Go.RowKit Go.Lib Go.Proofs.YtjepmdngbafonaaZ.PrintWords Go.Proofs.YtjepmdngbafonaaZ.PrintLast Go.Proofs.YtjepmdngbafonaaZ.PrintMore
set_option linter.unusedVariables false
section
variable {P : Program} {α : Type}
/-- 'clear' of a row's tail: the elements from k on are the type's zero. -/
theorem R_clear_run (d : Kd α) {W : World} (base : Nat) (t ty e : TypeId) (ht : P.underlying t = some (.slice e)) (z : Value) (i0 : TypeInfo) (hi : P.info? e = some i0) (hz0 : i0.zero = some z) (hzs : z.cells.size = d.sz) (hs0 : 0 < d.sz) (z0 : α)
    (hzM : ∀ W, d.M W base (fun _ => False) z0 z.cells.toList) {g n c k : Nat} {xs : List α} {ok : Nat → Prop} (HO : d.R e W base ok (.slice (some ⟨g, 0, none⟩) n c) xs) (hk : k ≤ n) {A : Option Addr} (hA : A = if c = k then some ⟨g, 0, none⟩ else (some (⟨g, 0, none⟩ : Addr)).map (·.add (k * d.sz))) (c2 : Nat) :
    ∃ w1, (Builtin.clear_ #[t] ty #[.slice A (n - k) c2]).run P W = .ok (.tuple #[]) w1 ∧ d.R e w1 base ok (.slice (some ⟨g, 0, none⟩) n c) (xs.take k ++ List.replicate (n - k) z0) ∧ W.grownBy w1 (some g) := by
  obtain ⟨hn, hnc, _⟩ := Kd.R_reads' HO
  by_cases hkn : n - k = 0
  · refine ⟨W, ?_, ?_, ?_⟩
    · rw [hkn]
      cases A <;> simp [Builtin.clear_, run_underlying ht]
    · rw [hkn]
      have hl : xs.length ≤ k := by omega
      simp only [List.replicate_zero, List.append_nil]
      rw [List.take_of_length_le hl]
      exact HO
    · exact World.grownBy.refl _ _
  have hcm0 : Reps (d.M W base (fun _ => False)) d.sz (List.replicate (n - k) z0) (Builtin.zeroCells z.cells (n - k)).toList := Kd.reps_zeros hzs hs0 (hzM W) (n - k)
  obtain ⟨hok, inner, hown, hr⟩ := HO
  have hin : inner.length = n * d.sz := by rw [hr.1, hn]
  rcases hown.2 with ⟨hv, _⟩ | ⟨g', cap', cur, hv, hb, hh, _, hcm, hcs, htake⟩
  · cases hv
  injection hv with ha _ hc
  injection ha with ha
  injection ha with hg
  subst hg; subst hc
  rw [← hn] at htake
  obtain ⟨news, hnews⟩ : ∃ news, news = (Builtin.zeroCells z.cells (n - k)).toList := ⟨_, rfl⟩
  have hnl : news.length = (n - k) * d.sz := by rw [hnews, Array.length_toList, size_zeroCells, hzs]
  rw [← hnews] at hcm0
  have hkle : k * d.sz ≤ n * d.sz := Nat.mul_le_mul_right _ hk
  have hnc' : n * d.sz ≤ c * d.sz := Nat.mul_le_mul_right _ hnc
  have hsub : (n - k) * d.sz = n * d.sz - k * d.sz := Nat.sub_mul _ _ _
  have hck : ¬ c = k := by omega
  rw [if_neg hck, Option.map_some] at hA
  have hA' : A = some ⟨g, k * d.sz, none⟩ := by rw [hA, add_at, Nat.zero_add]
  subst hA'
  have hfit : k * d.sz + news.length ≤ cur.size := by omega
  have hone : ∀ u ∈ news, u.oneCell' = true := by
    intro u hu
    obtain ⟨q, hq, rfl⟩ := List.mem_iff_getElem.1 hu
    have hql : q / d.sz < (List.replicate (n - k) z0).length := by
      rw [List.length_replicate, Nat.div_lt_iff_lt_mul hs0, ← hnl]
      exact hq
    refine d.K_one (d.K_of_M (hcm0.2 (q / d.sz) _ (List.getElem?_eq_getElem hql))) _ ?_
    rw [List.mem_iff_getElem?]
    refine ⟨q % d.sz, ?_⟩
    rw [List.getElem?_take, if_pos (Nat.mod_lt _ hs0), List.getElem?_drop, Nat.mul_comm, Nat.div_add_mod, List.getElem?_eq_getElem hq]
  have hst := run_storeCells_cells (P := P) g (k * d.sz) news 0 W (fun j hj => by rw [cell_of_row W g _ cur e (0, 0) hh]; simp; omega) (fun j _ => blk_frozen hh _) hone
  simp only [Nat.add_zero] at hst
  obtain ⟨cur', h3, h4, h5⟩ := setCells_row news (k * d.sz) W cur hh hfit
  obtain ⟨s1, s2, s3, s4⟩ := setCells_same g news (k * d.sz) W
  have hfar : ∀ k', k' ≠ g → (W.setCells g (k * d.sz) news).heap[k']? = W.heap[k']? := fun k' hk' => setCells_far news _ k' hk'
  have hgo : some g = (Value.slice (some ⟨g, 0, none⟩) n c).ownBlock := by simp [Value.ownBlock]
  have hlen : (xs.take k ++ List.replicate (n - k) z0).length = n := by rw [List.length_append, List.length_take, List.length_replicate, hn]; omega
  have hz : (zeroValue e).run P W = .ok z W := by
    simp [zeroValue, run_typeInfo W hi, hz0]
  refine ⟨W.setCells g (k * d.sz) news, ?_, ⟨fun k' hk' => hok k' hk', inner.take (k * d.sz) ++ news, ⟨?_, .inr ⟨g, c, cur', by rw [hlen], hb, h3, by rw [hlen]; omega, hcm, by rw [h4, hcs], ?_⟩⟩, ?_⟩, ⟨s1, s2, s3, by rw [s4]; exact Nat.le_refl _, fun k' _ hk' => hfar k' (fun he => hk' (by rw [he]))⟩⟩
  · obtain ⟨m, hm⟩ : ∃ m, n - k = m + 1 := ⟨n - k - 1, by omega⟩
    rw [hm] at hnews ⊢
    rw [hnews] at hst ⊢
    simp [Builtin.clear_, run_underlying ht, hz, hst]
  · rw [List.length_append, List.length_take, hnl, hlen]
    omega
  · rw [hlen, h5]
    have h7 : cur.toList.take (k * d.sz) = inner.take (k * d.sz) := by
      rw [← htake, List.take_take, Nat.min_eq_left (by omega)]
    rw [h7]
    exact List.take_left' (by rw [List.length_append, List.length_take, hnl]; omega)
  · have hmv : ∀ p q, d.M W base (fun k' => ok k' ∧ some k' ≠ (Value.slice (some ⟨g, 0, none⟩) n c).ownBlock) p q → d.M (W.setCells g (k * d.sz) news) base (fun k' => ok k' ∧ some k' ≠ (Value.slice (some ⟨g, 0, none⟩) n c).ownBlock) p q := fun p q hp =>
      d.M_move (fun k' hk' => hfar k' (fun he => hk'.2 (by rw [← hgo, he]))) hp
    exact Kd.reps_append ((Kd.reps_take hr (by omega)).imp_ hmv) (hcm0.imp_ (fun _ _ hq => d.M_mono (fun _ h_ => h_.elim) (d.M_move (fun _ h_ => h_.elim) hq)))
end
section
variable {P : Program} {ops : Array Oper} {rest : List Oper} {o : Oper} {a : Act} {Q : Exit → Act → World → Prop} {α : Type}
theorem R_clear (d : Kd α) {w0 W : World} (base : Nat) (hgd : o.guard = none) (s : Operand) (t e : TypeId) (ho : o.op = .call { callee := .builtin .clear, args := #[s], argTypes := #[t] }) (hd : o.dst = none)
    (ht : P.underlying t = some (.slice e)) (z : Value) (bytes : Nat) (hinfo : (P.info? e).map (fun i => (i.zero, i.size, i.bytes)) = some (some z, d.sz, bytes)) (hzs : z.cells.size = d.sz) (hs0 : 0 < d.sz) (z0 : α) (hzM : ∀ W, d.M W base (fun _ => False) z0 z.cells.toList)
    {n c k m c2 : Nat} {A A0 : Option Addr} {xs : List α} {ok : Nat → Prop} (hs : a.eval s = .slice A m c2) (hA : A = if c = k then A0 else A0.map (·.add (k * d.sz))) (hm : m = n - k)
    (HO : d.R e W base ok (.slice A0 n c) xs) (hk : k ≤ n) (HB : Below base w0 W) (hbase : base ≤ W.heap.size)
    (h : ∀ w1, d.R e w1 base ok (.slice A0 n c) (xs.take k ++ List.replicate (n - k) z0) → Below base w0 w1 → W.grownBy w1 (Value.slice A0 n c).ownBlock → wpList P ops Q rest a w1) : wpList P ops Q (o :: rest) a W := by
  obtain ⟨i0, hi, hzz⟩ := Option.map_eq_some_iff.1 hinfo
  simp only [Prod.mk.injEq] at hzz
  subst hm
  have hn := (Kd.R_reads' HO).1
  obtain ⟨w1, hr, h1, h2, h3⟩ : ∃ w1, (Builtin.clear_ #[t] o.type #[.slice A (n - k) c2]).run P W = .ok (.tuple #[]) w1 ∧ d.R e w1 base ok (.slice A0 n c) (xs.take k ++ List.replicate (n - k) z0) ∧ W.grownBy w1 (Value.slice A0 n c).ownBlock ∧ Below base w0 w1 := by
    by_cases hkn : n - k = 0
    · refine ⟨W, ?_, ?_, World.grownBy.refl _ _, HB⟩
      · rw [hkn]
        cases A <;> simp [Builtin.clear_, run_underlying ht]
      · rw [hkn]
        have hl : xs.length ≤ k := by omega
        simp only [List.replicate_zero, List.append_nil]
        rw [List.take_of_length_le hl]
        exact HO
    · obtain ⟨g, cap, ev, _⟩ := Kd.R_form HO (by omega)
      injection ev with ea _ ec
      subst ea
      obtain ⟨w1, hr, h1, h2⟩ := R_clear_run (P := P) d base t o.type e ht z i0 hi hzz.1 hzs hs0 z0 hzM HO hk hA c2
      exact ⟨w1, hr, h1, by simpa [Value.ownBlock] using h2, HB.grown h2 hbase (fun k hk => by injection hk with hk; subst hk; exact Kd.R_base HO _ (by simp [Value.ownBlock]))⟩
  refine wpList_plain hgd fun K hK => ?_
  unfold Oper.wp execOp
  simp only [ho, resolve, invoke, builtin, Sem.run_bind, Sem.run_pure, Result.andThen_ok, List.map_toArray, List.map_cons, List.map_nil, hs, hr]
  show K (a.put o.dst (.tuple #[])) w1
  rw [show a.put o.dst (.tuple #[]) = a by rw [hd]; rfl]
  exact hK _ _ (h w1 h1 h3 h2)
end
section
variable {α : Type} {d : Kd α} {w : World} {g t : Nat} {cs : List Value} {x : α}
theorem C_box1 (hb : w.heap[g]? = some (.cells cs.toArray t (0, 0))) (hK : d.K w x cs) : d.C w (some ⟨g, 0, none⟩) [x].length [x] := by
  refine ⟨rfl, by simp, fun _ => ⟨_, rfl, fun j p hj => ?_⟩⟩
  cases j with
  | succ j => simp at hj
  | zero =>
    have hp : x = p := by simpa using hj
    subst hp
    refine ⟨cs, d.K_len hK, hK, fun i u hi => ?_⟩
    rw [add_at, cell_of_row w g _ cs.toArray t (0, 0) hb]
    simpa using hi
theorem C_box1_kept {S : Nat → Prop} (hb : w.heap[g]? = some (.cells cs.toArray t (0, 0))) (hne : ¬ S g) (hK : ∀ W, Kept w W S → d.K W x cs) : ∀ W, Kept w W S → d.C W (some ⟨g, 0, none⟩) [x].length [x] :=
  fun W hk => C_box1 ((hk.2 g (blk_lt hb) hne).trans hb) (hK W hk)
end
end Go.Proofs.Ytjepmdngbafonaa
