/- The builtin clear behind the end of a row of one's own, within its block. No condition beyond those typed. -/
import Derived.Test.YtbejebfjeggbnaaV2
import Derived.Laws.IdiomCopy
import Derived.Lib.SliceRun
import Derived.Shelf.RegionOpenPlain
import Derived.Deep.RegionLaw
namespace Go.Proofs.YtbejebfjeggbnaaV
open Go.RowKit Go.Proofs.YtbejebfjeggbnaaW.PrintWords Go.Proofs.YtbejebfjeggbnaaW.PrintLast
variable {P : Program} {α : Type}
theorem R_clear_past (d : Kd α) {W : World} (base : Nat) (t ty e : TypeId) (ht : P.underlying t = some (.slice e)) (z : Value) (hv : ∀ w, (zeroValue e).run P w = .ok z w) (hzs : z.cells.size = d.sz) (hs0 : 0 < d.sz) (hone1 : ∀ u ∈ z.cells.toList, u.oneCell' = true)
    {g n c q : Nat} {xs : List α} {ok : Nat → Prop} (HO : d.R e W base ok (.slice (some ⟨g, 0, none⟩) n c) xs) (hq0 : 0 < q) (hq : n + q ≤ c) (c2 : Nat) :
    ∃ w1, (Builtin.clear_ #[t] ty #[.slice (some ⟨g, n * d.sz, none⟩) q c2]).run P W = .ok (.tuple #[]) w1 ∧ d.R e w1 base ok (.slice (some ⟨g, 0, none⟩) n c) xs ∧ W.grownBy w1 (some g) := by
  obtain ⟨hn, hnc, _⟩ := Kd.R_reads' HO
  obtain ⟨hok, inner, hown, hr⟩ := HO
  have hin : inner.length = n * d.sz := by rw [hr.1, hn]
  rcases hown.2 with ⟨hv, _⟩ | ⟨g', cap', cur, hv', hb, hh, _, hcm, hcs, htake⟩
  · cases hv
  injection hv' with ha _ hc
  injection ha with ha
  injection ha with hg
  subst hg; subst hc
  rw [← hn] at htake
  obtain ⟨news, hnews⟩ : ∃ news, news = (Builtin.zeroCells z.cells q).toList := ⟨_, rfl⟩
  have hnl : news.length = q * d.sz := by rw [hnews]; simp [Builtin.zeroCells, hzs]
  have hle : (n + q) * d.sz ≤ c * d.sz := Nat.mul_le_mul_right _ hq
  have hadd : (n + q) * d.sz = n * d.sz + q * d.sz := Nat.add_mul _ _ _
  have hone : ∀ u ∈ news, u.oneCell' = true := by
    intro u hu
    rw [hnews] at hu
    unfold Builtin.zeroCells at hu
    rw [Array.toList_map, List.mem_map] at hu
    obtain ⟨j, _, rfl⟩ := hu
    have hq : j % z.cells.size < z.cells.size := Nat.mod_lt _ (by omega)
    rw [getElem!_pos z.cells _ hq]
    exact hone1 _ (Array.getElem_mem_toList hq)
  have hfit : n * d.sz + news.length ≤ cur.size := by omega
  have hst := run_storeCells_cells (P := P) g (n * d.sz) news 0 W (fun j hj => by rw [Nat.add_zero, cell_of_row W g _ cur e (0, 0) hh]; simp; omega) (fun j _ => blk_frozen hh _) hone
  rw [Nat.add_zero] at hst
  obtain ⟨cur', h3, h4, h5⟩ := setCells_row news (n * d.sz) W cur hh hfit
  obtain ⟨s1, s2, s3, s4⟩ := setCells_same g news (n * d.sz) W
  have hfar : ∀ k', k' ≠ g → (W.setCells g (n * d.sz) news).heap[k']? = W.heap[k']? := fun k' hk' => setCells_far news _ k' hk'
  have hrun : (Builtin.clear_ #[t] ty #[.slice (some ⟨g, n * d.sz, none⟩) q c2]).run P W = .ok (.tuple #[]) (W.setCells g (n * d.sz) news) := by
    obtain ⟨p, hp⟩ : ∃ p, q = p + 1 := ⟨q - 1, by omega⟩
    rw [hp] at hnews ⊢
    simp [Builtin.clear_, run_underlying ht, hv, ← hnews, hst]
  have hgo : (Value.slice (some ⟨g, 0, none⟩) n c).ownBlock = some g := rfl
  have hcl : (cur.toList.take (n * d.sz)).length = n * d.sz := by
    rw [List.length_take, Array.length_toList]
    omega
  refine ⟨_, hrun, ⟨hok, inner, ⟨by rw [← hn]; exact hin, .inr ⟨g, c, cur', by rw [← hn], hb, h3, by rw [← hn]; exact hnc, hcm, by rw [h4, hcs], ?_⟩⟩, ?_⟩, ⟨s1, s2, s3, by rw [s4]; exact Nat.le_refl _, fun k' _ hk' => hfar k' (fun he => hk' (by rw [he]))⟩⟩
  · rw [← hn, h5]
    first
    | (rw [List.append_assoc, List.take_left' hcl]; exact htake)
    | (rw [List.take_left' hcl]; exact htake)
  · exact hr.imp_ fun p q hp => d.M_move (fun k' hk' => hfar k' (fun he => hk'.2 (by rw [hgo, he]))) hp
end Go.Proofs.YtbejebfjeggbnaaV
