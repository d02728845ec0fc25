/- The builtin clear on the end of a row of one's own. No condition beyond those typed. -/
import Derived.Test.YtlhiificglpgkaaV2
import Derived.Laws.IdiomCopy
namespace Go.Proofs.YtlhiificglpgkaaV
open Go.RowKit Go.Proofs.YtlhiificglpgkaaW.PrintWords Go.Proofs.YtlhiificglpgkaaW.PrintLast
variable {P : Program} {α : Type}
theorem R_clear_run0 (d : Kd α) {W : World} (base : Nat) (t ty e : TypeId) (ht : P.underlying t = some (.slice e)) (z : Value) (z0 : α) (hv : ∀ w, (zeroValue e).run P w = .ok z w) (hzs : z.cells.size = d.sz) (hs0 : 0 < d.sz)
    {g n c i : Nat} {xs : List α} {ok : Nat → Prop} (HO : d.R e W base ok (.slice (some ⟨g, 0, none⟩) n c) xs) (hzero : ∀ W' okp, d.M W' base okp z0 z.cells.toList) (hi : i < n) (c2 : Nat) :
    ∃ w1, (Builtin.clear_ #[t] ty #[.slice (some ⟨g, i * d.sz, none⟩) (n - i) c2]).run P W = .ok (.tuple #[]) w1 ∧ d.R e w1 base ok (.slice (some ⟨g, 0, none⟩) n c) (xs.take i ++ List.replicate (n - i) z0) ∧ W.grownBy w1 (some g) := by
  obtain ⟨hn, hnc, _⟩ := Kd.R_reads' HO
  obtain ⟨hok, inner, hown, hr⟩ := HO
  have hin : inner.length = n * d.sz := by rw [hr.1, hn]
  rcases hown.2 with ⟨hv, _⟩ | ⟨g', cap', cur, hv', hb, hh, _, hcm, hcs, htake⟩
  · cases hv
  injection hv' with ha _ hc
  injection ha with ha
  injection ha with hg
  subst hg; subst hc
  rw [← hn] at htake
  obtain ⟨news, hnews⟩ : ∃ news, news = (Builtin.zeroCells z.cells (n - i)).toList := ⟨_, rfl⟩
  have hnl : news.length = (n - i) * d.sz := by rw [hnews]; simp [Builtin.zeroCells, hzs]
  have hmade : (madeCells z.cells ((n - i) * d.sz)).toList = news := by
    rw [hnews]
    unfold madeCells Builtin.zeroCells
    rw [hzs]
  have hle : i * d.sz ≤ n * d.sz := Nat.mul_le_mul_right _ (by omega)
  have hnc' : n * d.sz ≤ c * d.sz := Nat.mul_le_mul_right _ hnc
  have hsub : (n - i) * d.sz = n * d.sz - i * d.sz := Nat.sub_mul _ _ _
  have hone : ∀ u ∈ news, u.oneCell' = true := by
    intro u hu
    rw [hnews] at hu
    unfold Builtin.zeroCells at hu
    rw [Array.toList_map, List.mem_map] at hu
    obtain ⟨q, _, rfl⟩ := hu
    have hq : q % z.cells.size < z.cells.size := Nat.mod_lt _ (by omega)
    rw [getElem!_pos z.cells _ hq]
    exact d.K_one (d.K_of_M (hzero W ok)) _ (Array.getElem_mem_toList hq)
  have hfit : i * d.sz + news.length ≤ cur.size := by omega
  have hst := run_storeCells_cells (P := P) g (i * d.sz) news 0 W (fun j hj => by rw [Nat.add_zero, cell_of_row W g _ cur e (0, 0) hh]; simp; omega) (fun j _ => blk_frozen hh _) hone
  rw [Nat.add_zero] at hst
  obtain ⟨cur', h3, h4, h5⟩ := setCells_row news (i * d.sz) W cur hh hfit
  obtain ⟨s1, s2, s3, s4⟩ := setCells_same g news (i * d.sz) W
  have hfar : ∀ k', k' ≠ g → (W.setCells g (i * d.sz) news).heap[k']? = W.heap[k']? := fun k' hk' => setCells_far news _ k' hk'
  have hrun : (Builtin.clear_ #[t] ty #[.slice (some ⟨g, i * d.sz, none⟩) (n - i) c2]).run P W = .ok (.tuple #[]) (W.setCells g (i * d.sz) news) := by
    obtain ⟨q, hq⟩ : ∃ q, n - i = q + 1 := ⟨n - i - 1, by omega⟩
    rw [hq] at hnews ⊢
    simp [Builtin.clear_, run_underlying ht, hv, ← hnews, hst]
  have hel : (xs.take i ++ List.replicate (n - i) z0).length = n := by simp; omega
  refine ⟨_, hrun, ⟨hok, inner.take (i * d.sz) ++ news, ⟨?_, .inr ⟨g, c, cur', by rw [hel], hb, h3, by rw [hel]; omega, hcm, by rw [h4, hcs], ?_⟩⟩, ?_⟩, ⟨s1, s2, s3, by rw [s4]; exact Nat.le_refl _, fun k' _ hk' => hfar k' (fun he => hk' (by rw [he]))⟩⟩
  · rw [List.length_append, List.length_take, hnl, hel]
    omega
  · rw [hel, h5]
    have h7 : cur.toList.take (i * d.sz) = inner.take (i * d.sz) := by
      rw [← htake, List.take_take, Nat.min_eq_left (by omega)]
    rw [h7]
    exact List.take_left' (by rw [List.length_append, List.length_take, hnl]; omega)
  · have hgo : (Value.slice (some ⟨g, 0, none⟩) n c).ownBlock = some g := rfl
    have hmv : ∀ p q, d.M W base (fun k' => ok k' ∧ some k' ≠ (Value.slice (some ⟨g, 0, none⟩) n c).ownBlock) p q → d.M (W.setCells g (i * d.sz) news) base (fun k' => ok k' ∧ some k' ≠ (Value.slice (some ⟨g, 0, none⟩) n c).ownBlock) p q := fun p q hp =>
      d.M_move (fun k' hk' => hfar k' (fun he => hk'.2 (by rw [hgo, he]))) hp
    have hz2 : Reps (d.M (W.setCells g (i * d.sz) news) base (fun k' => ok k' ∧ some k' ≠ (Value.slice (some ⟨g, 0, none⟩) n c).ownBlock)) d.sz (List.replicate (n - i) z0) news := by
      have := Kd.reps_made (z := z) hzs hs0 (hzero (W.setCells g (i * d.sz) news) (fun k' => ok k' ∧ some k' ≠ (Value.slice (some ⟨g, 0, none⟩) n c).ownBlock)) (n - i)
      rw [hmade] at this
      exact this
    exact Kd.reps_append ((Kd.reps_take hr (by omega)).imp_ hmv) hz2
theorem R_clear_run (d : Kd α) {W : World} (base : Nat) (t ty e : TypeId) (ht : P.underlying t = some (.slice e)) (z : Value) (z0 : α) (hv : ∀ w, (zeroValue e).run P w = .ok z w) (hzs : z.cells.size = d.sz) (hs0 : 0 < d.sz)
    {n c i : Nat} {A0 : Option Addr} {xs : List α} {ok : Nat → Prop} (HO : d.R e W base ok (.slice A0 n c) xs) (hzero : ∀ W' okp, d.M W' base okp z0 z.cells.toList) (hi : i ≤ n) (c2 : Nat) (A : Option Addr) (hA : A = if c = i then A0 else A0.map (·.add (i * d.sz))) :
    ∃ w1, (Builtin.clear_ #[t] ty #[.slice A (n - i) c2]).run P W = .ok (.tuple #[]) w1 ∧ d.R e w1 base ok (.slice A0 n c) (xs.take i ++ List.replicate (n - i) z0) ∧ W.grownBy w1 (Value.slice A0 n c).ownBlock := by
  obtain ⟨hn, hnc, _⟩ := Kd.R_reads' HO
  rcases Nat.lt_or_ge i n with h | h
  · obtain ⟨g, cap, hv2, _⟩ := Kd.R_form HO (by omega)
    injection hv2 with h1 h2 h3
    subst h1
    have hA2 : A = some ⟨g, i * d.sz, none⟩ := by
      rw [hA, if_neg (by omega)]
      simp [Addr.add]
      exact fun h => h.symm
    rw [hA2]
    exact R_clear_run0 d base t ty e ht z z0 hv hzs hs0 HO hzero h c2
  · obtain rfl : i = n := by omega
    refine ⟨W, ?_, ?_, ⟨rfl, rfl, rfl, Nat.le_refl _, fun _ _ _ => rfl⟩⟩
    · rw [Nat.sub_self]
      cases A <;> simp [Builtin.clear_, run_underlying ht]
    · rw [Nat.sub_self, List.replicate_zero, List.append_nil, hn, List.take_length]
      rw [hn] at HO
      exact HO
section
variable {P : Program} {ops : Array Oper} {rest : List Oper} {o : Oper} {a : Act} {Q : Exit → Act → World → Prop} {Kc : Act → World → Prop} {α : Type}
theorem R_clear (d : Kd α) {w0 W : World} (base : Nat) (hgd : o.guard = none) (hd : o.dst = none) (x : Operand) (t e : TypeId) (ho : o.op = .call { callee := .builtin .clear, args := #[x], argTypes := #[t] })
    (ht : P.underlying t = some (.slice e)) (z : Value) (z0 : α) (hv : ∀ w, (zeroValue e).run P w = .ok z w) (hzs : z.cells.size = d.sz) (hs0 : 0 < d.sz) {n c i m c2 : Nat} {A A0 : Option Addr} {xs : List α} {ok : Nat → Prop}
    (hx : a.eval x = .slice A m c2) (hA : A = if c = i then A0 else A0.map (·.add (i * d.sz))) (hm : m = n - i)
    (HO : d.R e W base ok (.slice A0 n c) xs) (hzero : ∀ W' okp, d.M W' base okp z0 z.cells.toList) (hi : i ≤ n) (HB : Below base w0 W) (hbase : base ≤ W.heap.size)
    (h : ∀ w1, d.R e w1 base ok (.slice A0 n c) (xs.take i ++ List.replicate (n - i) z0) → Below base w0 w1 → W.grownBy w1 (Value.slice A0 n c).ownBlock → wpList P ops Q rest a w1) : wpList P ops Q (o :: rest) a W := by
  subst hm
  obtain ⟨w1, hr, h1, h2⟩ := R_clear_run (P := P) d base t o.type e ht z z0 hv hzs hs0 HO hzero hi c2 A hA
  refine wpList_plain hgd fun K hK => ?_
  unfold Oper.wp execOp
  simp only [ho, resolve, invoke, builtin, Sem.run_bind, Sem.run_pure, Result.andThen_ok, List.map_toArray, List.map_cons, List.map_nil, hx, hr]
  refine hK _ _ ?_
  rw [hd]
  exact (h w1 h1 (HB.grown h2 hbase (fun k hk => Kd.R_base HO k hk)) h2)
theorem R_clear_step (d : Kd α) {w0 W : World} (base : Nat) (hw : Region.wanted o (yielded ops a.tmps) = true) (hd : o.dst = none) (x : Operand) (t e : TypeId) (ho : o.op = .call { callee := .builtin .clear, args := #[x], argTypes := #[t] })
    (ht : P.underlying t = some (.slice e)) (z : Value) (z0 : α) (hv : ∀ w, (zeroValue e).run P w = .ok z w) (hzs : z.cells.size = d.sz) (hs0 : 0 < d.sz) {n c i m c2 : Nat} {A A0 : Option Addr} {xs : List α} {ok : Nat → Prop}
    (hx : a.eval x = .slice A m c2) (hA : A = if c = i then A0 else A0.map (·.add (i * d.sz))) (hm : m = n - i)
    (HO : d.R e W base ok (.slice A0 n c) xs) (hzero : ∀ W' okp, d.M W' base okp z0 z.cells.toList) (hi : i ≤ n) (HB : Below base w0 W) (hbase : base ≤ W.heap.size)
    (h : ∀ w1, d.R e w1 base ok (.slice A0 n c) (xs.take i ++ List.replicate (n - i) z0) → Below base w0 w1 → W.grownBy w1 (Value.slice A0 n c).ownBlock → Kc a w1) :
    if Region.wanted o (yielded ops a.tmps) = true then Oper.wp P o a W Kc Q else Kc (a.put o.dst undef) W := by
  subst hm
  obtain ⟨w1, hr, h1, h2⟩ := R_clear_run (P := P) d base t o.type e ht z z0 hv hzs hs0 HO hzero hi c2 A hA
  rw [if_pos hw]
  unfold Oper.wp execOp
  simp only [ho, resolve, invoke, builtin, Sem.run_bind, Sem.run_pure, Result.andThen_ok, List.map_toArray, List.map_cons, List.map_nil, hx, hr]
  show Kc (a.put o.dst (.tuple #[])) w1
  rw [hd]
  exact (h w1 h1 (HB.grown h2 hbase (fun k hk => Kd.R_base HO k hk)) h2)
end
end Go.Proofs.YtlhiificglpgkaaV
