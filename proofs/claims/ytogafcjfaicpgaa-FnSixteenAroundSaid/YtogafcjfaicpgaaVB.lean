/- Words over the library's sort. No condition beyond those typed. -/
import Derived.Test.YtogafcjfaicpgaaVA
import Derived.Test.YtogafcjfaicpgaaShelf
import Derived.Laws.NewBlocks
section
namespace Go.Proofs.YtogafcjfaicpgaaV
open Go.RowKit Go.Shelf Go.Proofs.YtogafcjfaicpgaaW.PrintWords Go.Proofs.YtogafcjfaicpgaaW.PrintLast
def cellsI (l : List Int) : List Value := l.map (Value.int .i64)
theorem cellsI_length (l : List Int) : (cellsI l).length = l.length := by simp [cellsI]
theorem cellsI_one (l : List Int) : ∀ v ∈ cellsI l, v.oneCell' = true := by
 intro v hv
 obtain ⟨x, _, rfl⟩ := List.mem_map.1 hv
 rfl
theorem int_row {w : World} {base e g n c : Nat} {ok : Nat → Prop} {l : List Int} (h : Kd.R (Kd.int .i64) e w base ok (.slice (some ⟨g, 0, none⟩) n c) l) :
  n = l.length ∧ n ≤ c ∧ c ≤ maxLen ∧ base ≤ g ∧ ok g ∧ ∃ cur : Array Value, w.heap[g]? = some (.cells cur e (0, 0)) ∧ cur.size = c ∧ cur.toList.take n = cellsI l := by
 obtain ⟨hn, hnc, _⟩ := Kd.R_reads' h
 obtain ⟨hok, inner, hown, hr⟩ := h
 rcases hown.2 with ⟨hv, _⟩ | ⟨g', cap', cur, hv', hb, hh, _, hcm, hcs, htake⟩
 ·cases hv
 injection hv' with ha _ hc
 injection ha with ha
 injection ha with hg
 subst hg; subst hc
 refine ⟨hn, hnc, hcm, hb, hok g rfl, cur, hh, by rw [hcs]; exact Nat.mul_one _, ?_⟩
 have hs : (Kd.int .i64).sz = 1 := rfl
 rw [hs, Nat.mul_one] at htake
 rw [hn, htake]
 have h1 := hr.1
 rw [hs, Nat.mul_one] at h1
 apply List.ext_getElem?
 intro j
 rcases Nat.lt_or_ge j l.length with hj | hj
 ·have h2 : (inner.drop (j * 1)).take 1 = [.int .i64 l[j]] := hr.2 j _ (List.getElem?_eq_getElem hj)
  rw [Nat.mul_one] at h2
  unfold cellsI
  rw [List.getElem?_map, List.getElem?_eq_getElem hj, Option.map_some]
  have h3 : ((inner.drop j).take 1)[0]? = some (.int .i64 l[j]) := by rw [h2]; rfl
  rw [List.getElem?_take_of_lt (by decide), List.getElem?_drop, Nat.add_zero] at h3
  exact h3
 ·rw [List.getElem?_eq_none (by omega), List.getElem?_eq_none (by rw [cellsI_length]; omega)]
theorem int_row_mk {w : World} {base e g c : Nat} {ok : Nat → Prop} {l : List Int} {cur : Array Value} (hh : w.heap[g]? = some (.cells cur e (0, 0))) (hcs : cur.size = c) (hl : l.length ≤ c) (hm : c ≤ maxLen) (hb : base ≤ g) (hok : ok g) (ht : cur.toList.take l.length = cellsI l) :
  Kd.R (Kd.int .i64) e w base ok (.slice (some ⟨g, 0, none⟩) l.length c) l := by
 have hs : (Kd.int .i64).sz = 1 := rfl
 refine ⟨fun k hk => ?_, cellsI l, ⟨by rw [hs, cellsI_length, Nat.mul_one], .inr ⟨g, c, cur, rfl, hb, hh, hl, hm, by rw [hs, hcs, Nat.mul_one], by rw [hs, Nat.mul_one]; exact ht⟩⟩, ⟨by rw [hs, cellsI_length, Nat.mul_one], fun j p hp => ?_⟩⟩
 ·have : g = k := by simpa [Value.ownBlock] using hk
  exact this ▸ hok
 ·show ((cellsI l).drop (j * 1)).take 1 = [.int .i64 p]
  rw [Nat.mul_one]
  apply List.ext_getElem?
  intro t
  rcases Nat.eq_zero_or_pos t with rfl | ht
  ·rw [List.getElem?_take_of_lt (by decide), List.getElem?_drop, Nat.add_zero]
   unfold cellsI
   rw [List.getElem?_map, hp]
   rfl
  ·rw [List.getElem?_eq_none (by simp; omega), List.getElem?_eq_none (by simp; omega)]
theorem take_get {cur : Array Value} {l : List Int} (n : Nat) (hn : n = l.length) (ht : cur.toList.take n = cellsI l) (j : Nat) (v : Value) (hv : (cellsI l)[j]? = some v) : cur[j]? = some v := by
 have hj : j < n := by
  have := (List.getElem?_eq_some_iff.1 hv).1
  rw [cellsI_length] at this
  omega
 rw [← ht, List.getElem?_take_of_lt hj, Array.getElem?_toList] at hv
 exact hv
theorem insert_one {w0 w : World} {P0 P2 : Nat → Prop} {u0 u2 : Value} {l0 : List Int} {x : Int} {i : Nat} (hB : Below w0.heap.size w0 w) (ho0 : Kd.R (Kd.int .i64) 3 w w0.heap.size P0 u0 l0) (hp : ∀ k, P0 k → ¬ P2 k) (ho2 : Kd.R (Kd.int .i64) 3 w w0.heap.size P2 u2 [x]) (hi : i ≤ l0.length) (h0 : 0 < l0.length) (hbig : l0.length ≤ 1000000) :
  Calls Try.prog 59 #[u0, .int .i64 i, u2] w fun e w' => ∃ v0_ : Value, e = .returned (v0_) ∧ Kd.R (Kd.int .i64) 3 w' w0.heap.size (fun k_ => ((P0 k_ ∨ P2 k_) ∨ w.heap.size ≤ k_)) v0_ (l0.take i ++ [x] ++ l0.drop i) ∧ Below w0.heap.size w0 w' ∧ Kept w w' (fun k_ => P0 k_ ∨ P2 k_) := by
 obtain ⟨g, c, rfl, _⟩ := Kd.R_form ho0 (by omega)
 obtain ⟨vb, vc, rfl, _⟩ := Kd.R_form ho2 (by simp)
 obtain ⟨_, hnc, hcm, hbg, hP0, cur, hh, hcs, ht⟩ := int_row ho0
 obtain ⟨_, hvc, hvm, _, hP2, cur2, hh2, hcs2, ht2⟩ := int_row ho2
 have hvb : vb ≠ g := fun e => hp g hP0 (e ▸ hP2)
 have hlt : g < w.heap.size := blk_lt hh
 have hcl : (cellsI l0).length = l0.length := cellsI_length l0
 have hcells : ∀ j v, (cellsI l0)[j]? = some v → w.cell? ⟨g, 0 + j, none⟩ = some v := fun j v hv => by
  rw [Nat.zero_add]
  exact (blk_cell hh j).trans (take_get _ rfl ht j v hv)
 have hcells2 : ∀ j v, (cellsI [x])[j]? = some v → w.cell? ⟨vb, 0 + j, none⟩ = some v := fun j v hv => by
  rw [Nat.zero_add]
  exact (blk_cell hh2 j).trans (take_get _ rfl ht2 j v hv)
 have hlen : (l0.take i ++ [x] ++ l0.drop i).length = l0.length + 1 := by simp; omega
 have hcat : cellsI (l0.take i ++ [x] ++ l0.drop i) = (cellsI l0).take i ++ cellsI [x] ++ (cellsI l0).drop i := by simp [cellsI]
 have hml : maxLen = 9223372036854775807 := rfl
 rcases Nat.lt_or_ge c (l0.length + 1) with hroom | hroom
 ·rcases Nat.lt_or_ge i l0.length with hil | hil
  ·have h := Any2.slices_Insert_int_grow Try.insertInts g 0 l0.length c i vb 0 1 vc (cellsI l0) (cellsI [x]) w hil (by decide) hnc hroom (by omega) hcl rfl hcells hcells2 (cellsI_one _) (cellsI_one _)
   change Calls Try.prog 59 _ _ _ at h
   refine h.mono fun e w' hq => ?_
   obtain ⟨rfl, rfl⟩ := hq
   have hG1 : l0.length + 1 ≤ grownCap w (l0.length + 1) c (Try.insertInts_ren.t 3) := grownCap_ge w _ c _
   have hG2 : grownCap w (l0.length + 1) c (Try.insertInts_ren.t 3) ≤ maxLen := grownCap_le_maxLen w _ c _ (by omega)
   generalize grownCap w (l0.length + 1) c (Try.insertInts_ren.t 3) = G at hG1 hG2 ⊢
   obtain ⟨cur0, hcur0⟩ : ∃ cur0, cur0 = ((cellsI l0).take i).toArray ++ Builtin.zeroCells (Value.int .i64 0).cells (l0.length + 1 - i) ++ Builtin.zeroCells (Value.int .i64 0).cells (G - (l0.length + 1)) := ⟨_, rfl⟩
   have hz1 : (Value.int .i64 0).cells.size = 1 := rfl
   have hsz0 : cur0.size = G := by
    rw [hcur0]
    rw [Array.size_append, Array.size_append, List.size_toArray, List.length_take, cellsI_length]
    simp only [Builtin.zeroCells, hz1, Array.size_map, Array.size_range, Nat.mul_one]
    omega
   have htk0 : cur0.toList.take i = (cellsI l0).take i := by
    rw [hcur0, Array.toList_append, Array.toList_append, List.append_assoc]
    exact List.take_left' (by rw [List.length_take, cellsI_length]; omega)
   rw [← hcur0]
   obtain ⟨o, ho⟩ : ∃ o, o = Obj.cells cur0 (Try.insertInts_ren.t 3) := ⟨_, rfl⟩
   have hb0 : (w.alloc o).drew.heap[w.heap.size]? = some (.cells cur0 3 (0, 0)) := by
    rw [ho]
    exact blk_new w _
   obtain ⟨cur1, h3, h4, h5⟩ := setCells_row (cellsI [x]) i (w.alloc o).drew cur0 hb0 (by rw [cellsI_length, List.length_singleton]; omega)
   obtain ⟨cur2', h6, h7, h8⟩ := setCells_row ((cellsI l0).drop i) (i + 1) ((w.alloc o).drew.setCells w.heap.size i (cellsI [x])).drew cur1 h3 (by rw [List.length_drop]; omega)
   obtain ⟨s1, s2, s3, s4⟩ := setCells_same w.heap.size (cellsI [x]) i (w.alloc o).drew
   obtain ⟨t1, t2, t3, t4⟩ := setCells_same w.heap.size ((cellsI l0).drop i) (i + 1) ((w.alloc o).drew.setCells w.heap.size i (cellsI [x])).drew
   have hal : w.grownBy (w.alloc o) none := World.grownBy_alloc w o none
   rw [← ho]
   have hfar : ∀ k, k < w.heap.size → (((w.alloc o).drew.setCells w.heap.size i (cellsI [x])).drew.setCells w.heap.size (i + 1) ((cellsI l0).drop i)).heap[k]? = w.heap[k]? := fun k hk => (setCells_far _ _ k (by omega)).trans ((setCells_far _ _ k (by omega)).trans (hal.block k hk (by simp)))
   have hgr : w.grownBy (((w.alloc o).drew.setCells w.heap.size i (cellsI [x])).drew.setCells w.heap.size (i + 1) ((cellsI l0).drop i)) none := ⟨t1.trans (s1.trans hal.os), t2.trans (s2.trans hal.tape), t3.trans (s3.trans hal.output), by rw [t4]; exact Nat.le_trans hal.size (Nat.le_of_eq s4.symm), fun k hk _ => hfar k hk⟩
   refine ⟨_, rfl, ?_, hB.grown hgr hB.size (fun k hk => by cases hk), ⟨hgr.size, fun k hk _ => hfar k hk⟩⟩
   rw [← hlen]
   refine int_row_mk h6 (by rw [h7, h4, hsz0]) (by rw [hlen]; exact hG1) hG2 hB.size (.inr (Nat.le_refl _)) ?_
   rw [hlen, hcat]
   have e1 : cur1.toList.take (i + 1) = (cellsI l0).take i ++ cellsI [x] := by
    rw [h5, htk0]
    exact List.take_left' (by rw [List.length_append, List.length_take]; simp [cellsI]; omega)
   rw [h8, e1]
   exact List.take_left' (by rw [List.length_append, List.length_append, List.length_take, List.length_drop]; simp [cellsI]; omega)
  ·obtain rfl : i = l0.length := by omega
   have h := Any2.slices_Insert_int_end_grow Try.insertInts (some ⟨g, 0, none⟩) l0.length c vb 0 1 vc (cellsI l0) (cellsI [x]) w (by decide) hnc hroom (by omega) hcl rfl (fun h => by cases h) (fun a ha j v hv => by cases ha; rw [add_at]; exact hcells j v hv) hcells2 (cellsI_one _)
   change Calls Try.prog 59 _ _ _ at h
   refine h.mono fun e w' hq => ?_
   obtain ⟨rfl, rfl⟩ := hq
   have hG1 : l0.length + 1 ≤ grownCap w (l0.length + 1) c (Try.insertInts_ren.t 3) := grownCap_ge w _ c _
   have hG2 : grownCap w (l0.length + 1) c (Try.insertInts_ren.t 3) ≤ maxLen := grownCap_le_maxLen w _ c _ (by omega)
   generalize grownCap w (l0.length + 1) c (Try.insertInts_ren.t 3) = G at hG1 hG2 ⊢
   obtain ⟨cur0, hcur0⟩ : ∃ cur0, cur0 = (cellsI l0 ++ cellsI [x]).toArray ++ Builtin.zeroCells (Value.int .i64 0).cells (G - (l0.length + 1)) := ⟨_, rfl⟩
   have hz1 : (Value.int .i64 0).cells.size = 1 := rfl
   have hsz0 : cur0.size = G := by
    rw [hcur0]
    simp [Builtin.zeroCells, hz1, cellsI]
    omega
   rw [← hcur0]
   obtain ⟨o, ho⟩ : ∃ o, o = Obj.cells cur0 (Try.insertInts_ren.t 3) := ⟨_, rfl⟩
   have hb0 : (w.drew.alloc o).heap[w.heap.size]? = some (.cells cur0 3 (0, 0)) := by
    rw [ho]
    exact blk_new w.drew _
   have hal : w.drew.grownBy (w.drew.alloc o) none := World.grownBy_alloc w.drew o none
   have hgr : w.grownBy (w.drew.alloc o) none := ⟨hal.os, hal.tape, hal.output, hal.size, hal.block⟩
   rw [← ho]
   refine ⟨_, rfl, ?_, hB.grown hgr hB.size (fun k hk => by cases hk), ⟨hgr.size, fun k hk _ => hgr.block k hk (by simp)⟩⟩
   rw [← hlen]
   refine int_row_mk hb0 hsz0 (by rw [hlen]; exact hG1) hG2 hB.size (.inr (Nat.le_refl _)) ?_
   rw [hlen, hcat, hcur0, Array.toList_append, List.take_of_length_le (l := cellsI l0) (by omega), List.drop_of_length_le (by omega), List.append_nil]
   exact List.take_left' (by rw [List.length_append]; simp [cellsI])
 ·rcases Nat.lt_or_ge i l0.length with hil | hil
  ·have h := Any2.slices_Insert_int_shift Try.insertInts g 0 l0.length c i vb 0 1 vc (cellsI l0) (cellsI [x]) w hil (by decide) hroom (by omega) hvb hcl rfl hcells
    (fun j hj => by
     have hj2 : j < cur.size := by omega
     rw [Nat.zero_add, blk_cell hh j, Array.getElem?_eq_getElem hj2]
     rfl) (fun j _ => blk_frozen hh _) hcells2 (cellsI_one _) (cellsI_one _) 3 3 vc c
    (by simp [World.shape?, hh2, hcs2]) (by simp [World.shape?, hh, hcs]) (by omega) (blk_frozen hh2 _) (blk_frozen hh2 _)
   change Calls Try.prog 59 _ _ _ at h
   refine h.mono fun e w' hq => ?_
   obtain ⟨rfl, rfl⟩ := hq
   obtain ⟨cur3, h3, h4, h5⟩ := setCells_row ((cellsI l0).drop i) (0 + (i + 1)) w.drew cur hh (by rw [List.length_drop]; omega)
   obtain ⟨cur4, h6, h7, h8⟩ := setCells_row (cellsI [x]) (0 + i) _ cur3 h3 (by rw [h4, cellsI_length, List.length_singleton]; omega)
   obtain ⟨s1, s2, s3, s4⟩ := setCells_same g ((cellsI l0).drop i) (0 + (i + 1)) w.drew
   obtain ⟨t1, t2, t3, t4⟩ := setCells_same g (cellsI [x]) (0 + i) (w.drew.setCells g (0 + (i + 1)) ((cellsI l0).drop i))
   have hfar : ∀ k, k ≠ g → ((w.drew.setCells g (0 + (i + 1)) ((cellsI l0).drop i)).setCells g (0 + i) (cellsI [x])).heap[k]? = w.heap[k]? := fun k hk => (setCells_far _ _ k hk).trans (setCells_far _ _ k hk)
   have hgr : w.grownBy ((w.drew.setCells g (0 + (i + 1)) ((cellsI l0).drop i)).setCells g (0 + i) (cellsI [x])) (some g) := ⟨t1.trans s1, t2.trans s2, t3.trans s3, by rw [t4, s4]; exact Nat.le_refl _, fun k _ hk => hfar k (fun e => hk (by rw [e]))⟩
   refine ⟨_, rfl, ?_, hB.grown hgr hB.size (fun k hk => by injection hk with hk; exact hk ▸ hbg), ⟨hgr.size, fun k hk hn => hgr.block k hk (fun e_ => by injection e_ with e_; exact hn (.inl (e_ ▸ hP0)))⟩⟩
   rw [← hlen]
   refine int_row_mk h6 (by rw [h7, h4, hcs]) (by rw [hlen]; exact hroom) hcm hbg (.inl (.inl hP0)) ?_
   rw [hlen, hcat]
   have e1 : cur3.toList.take i = (cellsI l0).take i := by
    rw [h5, Nat.zero_add, List.append_assoc, List.take_append_of_le_length (by rw [List.length_take]; have := @Array.length_toList _ cur; omega), List.take_take, Nat.min_eq_left (by omega), ← ht, List.take_take, Nat.min_eq_left (by omega)]
   obtain ⟨rest, e2⟩ : ∃ rest, cur3.toList.drop (i + 1) = (cellsI l0).drop i ++ rest := ⟨_, by rw [h5, Nat.zero_add, List.append_assoc, List.drop_left' (by rw [List.length_take]; have := @Array.length_toList _ cur; omega)]⟩
   rw [h8, Nat.zero_add, show (cellsI [x]).length = 1 from rfl, e1, e2, ← List.append_assoc]
   exact List.take_left' (by rw [List.length_append, List.length_append, List.length_take, List.length_drop]; simp [cellsI]; omega)
  ·obtain rfl : i = l0.length := by omega
   have h := Any2.slices_Insert_int_end_room Try.insertInts g 0 l0.length c vb 0 1 vc (cellsI [x]) w (by decide) hroom (by omega) rfl (fun j hj => by
    have hj2 : l0.length + j < cur.size := by omega
    rw [Nat.zero_add, blk_cell hh _, Array.getElem?_eq_getElem hj2]
    rfl) (fun j _ => blk_frozen hh _) hcells2 (cellsI_one _)
   change Calls Try.prog 59 _ _ _ at h
   refine h.mono fun e w' hq => ?_
   obtain ⟨rfl, rfl⟩ := hq
   obtain ⟨cur3, h3, h4, h5⟩ := setCells_row (cellsI [x]) (0 + l0.length) w cur hh (by rw [cellsI_length, List.length_singleton]; omega)
   obtain ⟨s1, s2, s3, s4⟩ := setCells_same g (cellsI [x]) (0 + l0.length) w
   have hfar : ∀ k, k ≠ g → (w.setCells g (0 + l0.length) (cellsI [x])).heap[k]? = w.heap[k]? := fun k hk => setCells_far _ _ k hk
   have hgr : w.grownBy (w.setCells g (0 + l0.length) (cellsI [x])) (some g) := ⟨s1, s2, s3, by rw [s4]; exact Nat.le_refl _, fun k _ hk => hfar k (fun e => hk (by rw [e]))⟩
   refine ⟨_, rfl, ?_, hB.grown hgr hB.size (fun k hk => by injection hk with hk; exact hk ▸ hbg), ⟨hgr.size, fun k hk hn => hgr.block k hk (fun e_ => by injection e_ with e_; exact hn (.inl (e_ ▸ hP0)))⟩⟩
   rw [← hlen]
   refine int_row_mk h3 (by rw [h4, hcs]) (by rw [hlen]; exact hroom) hcm hbg (.inl (.inl hP0)) ?_
   rw [hlen, hcat]
   rw [h5, Nat.zero_add, ht, List.take_of_length_le (l := cellsI l0) (by omega), List.drop_of_length_le (l := cellsI l0) (by omega), List.append_nil]
   exact List.take_left' (by rw [List.length_append]; simp [cellsI])
end Go.Proofs.YtogafcjfaicpgaaV
end
