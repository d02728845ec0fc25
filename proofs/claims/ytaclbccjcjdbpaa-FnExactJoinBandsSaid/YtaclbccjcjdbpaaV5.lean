/- Words of this session: rows of elements of k cells: one element stored, a run stored, the end cleared. No condition beyond those typed. -/
import Derived.Test.YtaclbccjcjdbpaaV4
import Derived.Lib.SlicesCompact
import Derived.Lib.SlicesDelete
import Derived.Lib.SliceRun
namespace Go.Proofs.YtaclbccjcjdbpaaV
open Go.RowKit Go.Sort Go.Shelf Go.Lib Go.Proofs.YtaclbccjcjdbpaaW.PrintWords Go.Proofs.YtaclbccjcjdbpaaW.PrintLast Go.Proofs.YtaclbccjcjdbpaaW.PrintMore
section
variable {α : Type} {enc : α → List Value} {k : Nat} {w0 W : World} {blk off : Nat} {dk d0 : Array α}
/-- Elements laid one behind the other from a place on. -/
def layA (d : Array α) : Nat → List α → Array α
  | _, [] => d
  | m, x :: r => layA (d.setIfInBounds m x) (m + 1) r
theorem size_layA (r : List α) : ∀ (m : Nat) (d : Array α), (layA d m r).size = d.size := by
  induction r with
  | nil => intro m d; rfl
  | cons x r ih => intro m d; rw [layA, ih]; simp
theorem layA_list (r : List α) : ∀ (m : Nat) (d : Array α), m + r.length ≤ d.size → (layA d m r).toList = d.toList.take m ++ r ++ d.toList.drop (m + r.length) := by
  induction r with
  | nil => intro m d _; simp [layA]
  | cons x r ih =>
    intro m d h
    rw [List.length_cons] at h
    rw [layA, ih (m + 1) _ (by simp; omega)]
    have hl : m < d.toList.length := by simp; omega
    rw [Array.toList_setIfInBounds, List.take_set, List.take_add_one, List.getElem?_eq_getElem hl, List.drop_set_of_lt (by omega)]
    simp only [Option.toList_some]
    rw [List.set_append_right _ _ (by simp; omega), List.length_take, Nat.min_eq_left (by omega), Nat.sub_self]
    simp [Nat.add_assoc, Nat.add_comm 1]
theorem flatMap_rep (z : α) (vs : List Value) (hz : enc z = vs) (n : Nat) : (List.replicate n z).flatMap enc = (List.range (n * vs.length)).map fun i => vs[i % vs.length]! := by
  induction n with
  | zero => simp
  | succ n ih =>
    rw [List.replicate_succ', List.flatMap_append, ih, Nat.add_mul, Nat.one_mul, List.range_add, List.map_append]
    congr 1
    rw [List.flatMap_cons, List.flatMap_nil, List.append_nil, hz]
    apply List.ext_getElem
    · simp
    · intro i h1 h2
      have hi : i < vs.length := h1
      simp only [List.getElem_map, List.getElem_range]
      rw [Nat.mul_comm n, Nat.mul_add_mod, Nat.mod_eq_of_lt hi, getElem!_pos vs i hi]
end
section
variable {α : Type} [Inhabited α] {enc : α → List Value} {k : Nat} {w0 W : World} {blk off : Nat} {dk d0 : Array α}
theorem setMany_put (hk : ∀ x, (enc x).length = k) (d : Array α) (i : Nat) (hi : i < d.size) (x : α) : setMany (flatK enc k d) (i * k) (enc x) = flatK enc k (d.setIfInBounds i x) := by
  refine ext_get! (by simp) fun t ht => ?_
  have ht' : t < d.size * k := by simpa using ht
  have k0 : 0 < k := by
    rcases Nat.eq_zero_or_pos k with h | h
    · subst h
      simp at ht'
    · exact h
  have hq : t / k < d.size := Nat.div_lt_of_lt_mul (by rw [Nat.mul_comm]; exact ht')
  rw [get_setMany _ _ _ t (by simpa using ht'), get_flatK _ _ _ t ht', get_flatK _ _ _ t (by simpa using ht'), hk]
  by_cases a : t / k = i
  · have m : t - i * k = t % k := by
      subst a
      rw [Nat.mod_eq_sub_div_mul]
    rw [if_pos ((blk_iff k i t k0).2 a), m]
    have e : (d.setIfInBounds i x)[t / k]! = x := by rw [a, getElem!_pos _ i (by simpa using hi)]; simp
    rw [e]
  · rw [if_neg (fun h => a ((blk_iff k i t k0).1 h))]
    have e : (d.setIfInBounds i x)[t / k]! = d[t / k]! := by
      rw [getElem!_pos _ (t / k) (by simpa using hq), getElem!_pos d (t / k) hq, Array.getElem_setIfInBounds]
      rw [if_neg (Ne.symm a)]
    rw [e]
theorem setMany_append (vs us : List Value) : ∀ (s : Nat) (F : Array Value), setMany F s (vs ++ us) = setMany (setMany F s vs) (s + vs.length) us := by
  induction vs with
  | nil => intro s F; rfl
  | cons v r ih =>
    intro s F
    rw [List.cons_append, setMany, ih, setMany, List.length_cons, Nat.add_right_comm, Nat.add_assoc]
theorem setMany_lay (hk : ∀ x, (enc x).length = k) (r : List α) : ∀ (m : Nat) (d : Array α), m + r.length ≤ d.size → setMany (flatK enc k d) (m * k) (r.flatMap enc) = flatK enc k (layA d m r) := by
  induction r with
  | nil => intro m d _; rfl
  | cons x r ih =>
    intro m d h
    rw [List.length_cons] at h
    rw [List.flatMap_cons, setMany_append, setMany_put hk d m (by omega) x, hk, show m * k + k = (m + 1) * k by rw [Nat.add_mul, Nat.one_mul], ih (m + 1) _ (by simp; omega)]
    rfl
theorem swk_put (h : SWK enc k w0 blk off dk W) (hk : ∀ x, (enc x).length = k) (hblk : blk < w0.heap.size) (i : Nat) (hi : i < dk.size) (x : α) : SWK enc k w0 blk off (dk.setIfInBounds i x) (W.setCells blk (off + i * k) (enc x)) := by
  obtain ⟨n, os, rfl⟩ := h
  refine ⟨n, os, ?_⟩
  unfold sortWorldK
  rw [setCells_grow os blk _ _ _ (by rw [size_putRowK]; exact hblk)]
  congr 1
  unfold putRowK
  rw [setCells_putRow _ _ _ _ _ _ (by rw [hk, size_flatK]; exact rowK_bnd dk k i hi), setMany_put hk dk i hi x]
theorem swk_lay (h : SWK enc k w0 blk off dk W) (hk : ∀ x, (enc x).length = k) (hblk : blk < w0.heap.size) (m : Nat) (r : List α) (hm : m + r.length ≤ dk.size) : SWK enc k w0 blk off (layA dk m r) (W.setCells blk (off + m * k) (r.flatMap enc)) := by
  obtain ⟨n, os, rfl⟩ := h
  refine ⟨n, os, ?_⟩
  unfold sortWorldK
  rw [setCells_grow os blk _ _ _ (by rw [size_putRowK]; exact hblk)]
  congr 1
  unfold putRowK
  have hl : (r.flatMap enc).length = r.length * k := by
    induction r with
    | nil => simp
    | cons x r ih =>
      rw [List.flatMap_cons, List.length_append, hk, ih (by simp at hm; omega), List.length_cons, Nat.add_mul, Nat.one_mul, Nat.add_comm]
  rw [setCells_putRow _ _ _ _ _ _ (by rw [hl, size_flatK, ← Nat.add_mul]; exact Nat.mul_le_mul_right k hm), setMany_lay hk r m dk hm]
/-- One element stored, by the run. -/
theorem swk_stE (h : SWK enc k w0 blk off dk W) (R : RowK enc k w0 blk off d0) (hs : dk.size = d0.size) (P : Program) (i : Nat) (hi : i < dk.size) (y : α) :
    Sem.run P (storeCells ⟨blk, off + i * k, none⟩ (enc y) 0) W = .ok () (W.setCells blk (off + i * k) (enc y)) :=
  stores_of_holds P (h.holds R.hblk R.hH hs) (i * k) _ (by rw [R.hk, size_flatK]; exact rowK_bnd dk k i hi) (R.h1 _)
/-- 'clear(s)' at elements of k cells. -/
theorem clear_K {P : Program} (h : SWK enc k w0 blk off dk W) (R : RowK enc k w0 blk off d0) (hs : dk.size = d0.size) (k0 : 0 < k) (t e ty : TypeId) (z : Value) (zr : α) (ht : P.underlying t = some (.slice e)) (hv : ∀ w, (zeroValue e).run P w = .ok z w) (hz : z.cells.toList = enc zr)
    (m n c : Nat) (hn : 0 < n) (hm : m + n = dk.size) :
    (Builtin.clear_ #[t] ty #[.slice (some ⟨blk, off + m * k, none⟩) n c]).run P W = .ok (.tuple #[]) (W.setCells blk (off + m * k) ((List.replicate n zr).flatMap enc)) := by
  have hzs : z.cells.size = k := by rw [← Array.length_toList, hz, R.hk]
  have hzc : (Builtin.zeroCells z.cells n).toList = (List.replicate n zr).flatMap enc := by
    rw [flatMap_rep zr z.cells.toList hz.symm n]
    unfold Builtin.zeroCells
    rw [Array.toList_map, Array.toList_range, Array.length_toList]
    apply List.map_congr_left
    intro i hi
    rw [List.mem_range] at hi
    have hlt : i % z.cells.size < z.cells.size := Nat.mod_lt _ (by omega)
    rw [getElem!_pos z.cells _ hlt, getElem!_pos z.cells.toList _ (by simpa using hlt)]
    simp
  have hl : ((List.replicate n zr).flatMap enc).length = n * k := by
    rw [flatMap_rep zr z.cells.toList hz.symm n]
    simp [hzs]
  have hH := h.holds R.hblk R.hH hs
  have hb : m * k + n * k = dk.size * k := by rw [← Nat.add_mul, hm]
  have hst := run_storeCells_cells (P := P) blk (off + m * k) ((List.replicate n zr).flatMap enc) 0 W (fun j hj => by
      rw [hl] at hj
      rw [Nat.add_zero, Nat.add_assoc, (hH (m * k + j) (by rw [size_flatK]; omega)).1]
      rfl) (fun j hj => by
      rw [hl] at hj
      rw [Nat.add_zero, Nat.add_assoc]
      exact (hH (m * k + j) (by rw [size_flatK]; omega)).2) (fun v hv' => by
      obtain ⟨x, hx, hvx⟩ := List.mem_flatMap.1 hv'
      exact R.h1 x v hvx)
  simp only [Nat.add_zero] at hst
  obtain ⟨q, rfl⟩ : ∃ q, n = q + 1 := ⟨n - 1, by omega⟩
  simp [Builtin.clear_, run_underlying ht, hv, hzc, hst]
end
end Go.Proofs.YtaclbccjcjdbpaaV
