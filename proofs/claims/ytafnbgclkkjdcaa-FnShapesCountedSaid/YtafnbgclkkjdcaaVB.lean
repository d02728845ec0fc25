/- Words over the library's sort. No condition beyond those typed. -/
import Derived.Test.YtafnbgclkkjdcaaVA
import Derived.Test.YtafnbgclkkjdcaaShelf
import Derived.Lib.SliceRun
import Derived.Lib.SlicesCompact
import Derived.Lib.SlicesDelete
import Derived.Shelf.SlSortCmp.NoneTotal
section
namespace Go.Proofs.YtafnbgclkkjdcaaV
open Go.RowKit Go.Proofs.YtafnbgclkkjdcaaW.PrintWords Go.Proofs.YtafnbgclkkjdcaaW.PrintLast Go.Proofs.YtafnbgclkkjdcaaW.PrintMore
open Go.ChangeShapes Go.WideShapes Go.Deep Go.Joins Go.Sort
structure xl (B : Nat) (w w' : World) : Prop where
 b : Below B w w'
 d : w.drawn ≤ w'.drawn
theorem xl.refl (B : Nat) (w : World) : xl B w w := ⟨Below.refl B w, Nat.le_refl _⟩
theorem belowD_step {w W W2 : World} (h : xl w.heap.size w W) (k : xl W.heap.size W W2) : xl w.heap.size w W2 := ⟨qh h.b k.b, Nat.le_trans h.d k.d⟩
theorem jK {w W : World} (h : xl w.heap.size w W) (o : Obj) : xl w.heap.size w (W.alloc o) := ⟨qk h.b o, h.d⟩
theorem jV {B : Nat} {w W : World} (h : xl B w W) (n : Nat) : xl B w (W.drewN n) := ⟨qf h.b n, Nat.le_trans h.d (Nat.le_add_right _ _)⟩
theorem jQ {B : Nat} {w W : World} (h : xl B w W) : xl B w W.drew := ⟨qj h.b, Nat.le_trans h.d (Nat.le_succ _)⟩
theorem xl.grown {w W : World} (h : xl w.heap.size w W) : ∃ q os, W = grow (w.drewN q) os := by
 obtain ⟨⟨h1, h2, h3, h4, h5⟩, h6⟩ := h
 refine ⟨W.drawn - w.drawn, W.heap.extract w.heap.size W.heap.size, ?_⟩
 obtain ⟨heap, tape, drawn, os, out⟩ := W
 obtain ⟨heap0, tape0, drawn0, os0, out0⟩ := w
 simp only at h1 h2 h3 h4 h5 h6
 subst h1 h2 h3
 unfold grow World.drewN
 simp only [World.mk.injEq, true_and, and_true]
 refine ⟨?_, by omega⟩
 apply Array.ext_getElem?
 intro i
 by_cases c : i < heap0.size
 ·rw [h5 i c, Array.getElem?_append_left c]
 ·rw [Array.getElem?_append_right (by omega), Array.getElem?_extract]
  by_cases c2 : i < heap.size
  ·rw [if_pos (by omega)]
   congr 1
   omega
  ·rw [Array.getElem?_eq_none (by omega), if_neg (by omega)]
section
variable {P : Program} {ops : Array Oper} {rest : List Oper} {o : Oper} {a : Act} {Q : Exit → Act → World → Prop}
theorem box_eventD {W : World} (hgd : o.guard = none) {N : Tmp} (_hd : o.dst = some N) {cs : Array Value} {t : TypeId}
  (hrun : (execOp a.eval o).run P W = .ok (.value (.pointer (some ⟨W.heap.size, 0, none⟩))) (W.alloc (.cells cs t (0, 0))))
  (h : ∀ g, g = W.heap.size → ∀ w1, w1.heap[g]? = some (.cells cs t (0, 0)) → xl W.heap.size W w1 → wpList P ops Q rest (a.put o.dst (.pointer (some ⟨g, 0, none⟩))) w1) : wpList P ops Q (o :: rest) a W :=
 Kd.event_run hgd hrun (h _ rfl _ (blk_new W _) (jK (xl.refl _ _) _))
end
theorem belowD_size {w W : World} (h : xl w.heap.size w W) : w.heap.size ≤ W.heap.size := h.b.size
section
variable {P : Program} {ops : Array Oper} {o : Oper} {a : Act} {Q : Exit → Act → World → Prop} {Kc : Act → World → Prop}
theorem lit2D {W : World} (hw : Region.wanted o (yielded ops a.tmps) = true) {N : Tmp} (_hd : o.dst = some N) {x y : Int} {e : TypeId}
  (hrun : (execOp a.eval o).run P W = .ok (.value (.slice (some ⟨W.heap.size, 0, none⟩) 2 2)) (W.alloc (.cells #[.int .i64 x, .int .i64 y] e)))
  (h : ∀ v1 w1, (Kd.int .i64).R e w1 W.heap.size (fun _ => True) v1 [x, y] → xl W.heap.size W w1 → W.grownBy w1 none → (∃ b, v1.ownBlock = some b ∧ W.heap.size ≤ b) → Kc (a.put o.dst v1) w1) : if Region.wanted o (yielded ops a.tmps) = true then Oper.wp P o a W Kc Q else Kc (a.put o.dst undef) W := by
 refine event_step hw hrun (h _ _ ⟨fun _ _ => trivial, [.int .i64 x, .int .i64 y], ?_, Reps.one (show Kd.M (Kd.int .i64) _ _ _ x [.int .i64 x] from rfl) (Reps.one (show Kd.M (Kd.int .i64) _ _ _ y [.int .i64 y] from rfl) (Reps.none _ _))⟩ (jK (xl.refl _ _) _) (World.grownBy_alloc W _ none) ⟨W.heap.size, by simp [Value.ownBlock], Nat.le_refl _⟩)
 have h2 := World.ownsRow_lit (base := W.heap.size) (e := e) (size := 1) W #[.int .i64 x, .int .i64 y] 2 (Nat.le_refl _) (by simp [maxLen]) (by simp)
 have h3 : (W.alloc (.cells #[.int .i64 x, .int .i64 y] e)).ownsRow W.heap.size e 1 (.slice (some ⟨W.heap.size, 0, none⟩) 2 2) 2 [.int .i64 x, .int .i64 y] := by simpa using h2
 exact h3
end
end Go.Proofs.YtafnbgclkkjdcaaV
end
section
namespace Go.Proofs.YtafnbgclkkjdcaaV
open Go.RowKit Go.Proofs.YtafnbgclkkjdcaaW.PrintWords Go.Proofs.YtafnbgclkkjdcaaW.PrintLast Go.Proofs.YtafnbgclkkjdcaaW.PrintMore
open Go.ChangeShapes Go.WideShapes Go.Deep Go.Joins Go.Sort Go.Shelf
section
variable {α : Type} [Inhabited α]
theorem seg_two {enc : α → List Value} (henc : ∀ x, (enc x).length = 2) {inner : List Value} {l : List α} (_hlen : inner.length = l.length * 2)
  (hr : ∀ j p, l[j]? = some p → (inner.drop (j * 2)).take 2 = enc p) (t : Nat) (ht : t < l.length * 2) : inner[t]? = some ((flatK enc 2 l.toArray)[t]!) := by
 have hj : t / 2 < l.length := by omega
 have h1 := hr (t / 2) l[t / 2] (List.getElem?_eq_getElem hj)
 have h2 : ((inner.drop (t / 2 * 2)).take 2)[t % 2]? = (enc l[t / 2])[t % 2]? := by rw [h1]
 rw [List.getElem?_take_of_lt (by omega), List.getElem?_drop, show t / 2 * 2 + t % 2 = t by omega] at h2
 have h3 : t % 2 < (enc l[t / 2]).length := by rw [henc]; omega
 rw [h2, List.getElem?_eq_getElem h3, get_flatK enc 2 l.toArray t (by simpa using ht)]
 congr 1
 have h4 : l.toArray[t / 2]! = l[t / 2] := by rw [getElem!_pos l.toArray (t / 2) (by simpa using hj)]; simp
 rw [h4, getElem!_pos (enc l[t / 2]) (t % 2) h3]
theorem own_holdsK (d : Kd α) (e : Nat) (enc : α → List Value) (hsz : d.sz = 2) (henc : ∀ x, (enc x).length = 2) (hM : ∀ w base ok x cs, d.M w base ok x cs → cs = enc x) {w : World} {base : Nat} {P : Nat → Prop} {u : Value} {l : List α} (ho : d.R e w base P u l) (hne : 0 < l.length) :
  ∃ g cap cur, u = .slice (some ⟨g, 0, none⟩) l.length cap ∧ P g ∧ base ≤ g ∧ g < w.heap.size ∧ w.heap[g]? = some (.cells cur e (0, 0)) ∧ l.length ≤ cap ∧ cap ≤ maxLen ∧ cur.size = cap * 2 ∧ HoldsK enc 2 w g 0 l.toArray := by
 obtain ⟨hok, inner, ⟨hlen, hcase⟩, _, hreps⟩ := ho
 rw [hsz] at hlen hcase hreps
 rcases hcase with ⟨_, h0⟩ | ⟨g, cap, cur, rfl, hg, hh, hl, hm, hs, htake⟩
 ·omega
 ·have hlt : g < w.heap.size := by
   rcases Nat.lt_or_ge g w.heap.size with h | h
   ·exact h
   ·rw [Array.getElem?_eq_none h] at hh
    cases hh
  refine ⟨g, cap, cur, rfl, hok g (by simp [Value.ownBlock]), hg, hlt, hh, hl, hm, hs, fun j hj => ?_⟩
  have hj' : j < l.length * 2 := by simpa using hj
  have h1 := seg_two henc hlen (fun j p hp => hM _ _ _ _ _ (hreps j p hp)) j hj'
  have h2 : cur[j]? = inner[j]? := by
   rw [← htake, List.getElem?_take_of_lt hj', Array.getElem?_toList]
  refine ⟨?_, ?_⟩
  ·rw [Nat.zero_add]
   exact (qc hh j).trans (h2.trans h1)
  ·rw [Nat.zero_add]
   exact qg hh j
theorem sort_own (d : Kd α) (e : Nat) (enc : α → List Value) (hsz : d.sz = 2) (henc : ∀ x, (enc x).length = 2) (hM : ∀ w base ok x, d.M w base ok x (enc x)) {w : World} {base g cap n : Nat} {P : Nat → Prop} {cur : Array Value} {l : List α} {d' : Array α} {os : Array Obj}
  (hP : P g) (hg : base ≤ g) (hlt : g < w.heap.size) (hh : w.heap[g]? = some (.cells cur e (0, 0))) (hl : l.length ≤ cap) (hm : cap ≤ maxLen) (hs : cur.size = cap * 2) (hd : d'.size = l.length) :
  d.R e (sortWorldK enc 2 w g 0 n d' os) base P (.slice (some ⟨g, 0, none⟩) l.length cap) d'.toList ∧ w.heap.size ≤ (sortWorldK enc 2 w g 0 n d' os).heap.size ∧ (∀ k, k < w.heap.size → k ≠ g → (sortWorldK enc 2 w g 0 n d' os).heap[k]? = w.heap[k]?) := by
 have hheap : (sortWorldK enc 2 w g 0 n d' os).heap = (w.heap.modify g (onCells (putCells id 0 (flatK enc 2 d')))) ++ os := rfl
 have hcur : (sortWorldK enc 2 w g 0 n d' os).heap[g]? = some (.cells (putCells id 0 (flatK enc 2 d') cur) e (0, 0)) := by
  rw [hheap, Array.getElem?_append_left (by simpa using hlt), Array.getElem?_modify, if_pos rfl, hh]
  rfl
 have hF : (flatK enc 2 d').size = l.length * 2 := by rw [size_flatK, hd]
 have hcs : (putCells id 0 (flatK enc 2 d') cur).size = cap * 2 := by unfold putCells; rw [Array.size_mapIdx, hs]
 have htake : (putCells id 0 (flatK enc 2 d') cur).toList.take (l.length * 2) = (flatK enc 2 d').toList := by
  apply List.ext_getElem?
  intro t
  by_cases c : t < l.length * 2
  ·have hcap : t < cap * 2 := by omega
   rw [List.getElem?_take_of_lt c, Array.getElem?_toList, Array.getElem?_toList]
   unfold putCells
   rw [Array.getElem?_mapIdx, Array.getElem?_eq_getElem (by rw [hs]; exact hcap), Option.map_some, if_pos ⟨Nat.zero_le _, by rw [hF]; omega⟩, Array.getElem?_eq_getElem (by rw [hF]; exact c)]
   rw [Nat.sub_zero, getElem!_pos _ t (by rw [hF]; exact c)]
   rfl
  ·rw [List.getElem?_eq_none (by rw [List.length_take]; omega), List.getElem?_eq_none (by rw [Array.length_toList, hF]; omega)]
 have hdl : d'.toList.length = l.length := by rw [Array.length_toList]; exact hd
 have hFl : (flatK enc 2 d').toList.length = l.length * 2 := by rw [Array.length_toList]; exact hF
 refine ⟨⟨fun k hk => ?_, (flatK enc 2 d').toList, ⟨?_, .inr ⟨g, cap, _, ?_, hg, hcur, ?_, hm, ?_, ?_⟩⟩, ?_, fun j p hp => ?_⟩, ?_, fun k hk hne => ?_⟩
 ·have : g = k := by simpa [Value.ownBlock] using hk
  exact this ▸ hP
 ·rw [hsz, hFl, hdl]
 ·rw [hdl]
 ·rw [hdl]; exact hl
 ·rw [hsz]; exact hcs
 ·rw [hsz, hdl]; exact htake
 ·rw [hsz, hFl, hdl]
 ·rw [hsz]
  have hj : j < d'.size := by
   rcases Nat.lt_or_ge j d'.size with h | h
   ·exact h
   ·rw [List.getElem?_eq_none (by simpa using h)] at hp
    cases hp
  have hpj : d'[j]! = p := by
   rw [Array.getElem?_toList, Array.getElem?_eq_getElem hj] at hp
   rw [getElem!_pos d' j hj]
   exact Option.some.inj hp
  have he : ((flatK enc 2 d').toList.drop (j * 2)).take 2 = enc p := by
   apply List.ext_getElem?
   intro t
   by_cases c : t < 2
   ·have ht : j * 2 + t < d'.size * 2 := by omega
    rw [List.getElem?_take_of_lt c, List.getElem?_drop, Array.getElem?_toList, Array.getElem?_eq_getElem (by rw [size_flatK]; exact ht)]
    have h1 := get_flatK enc 2 d' (j * 2 + t) ht
    rw [getElem!_pos _ (j * 2 + t) (by rw [size_flatK]; exact ht), show (j * 2 + t) / 2 = j by omega, show (j * 2 + t) % 2 = t by omega, hpj, getElem!_pos (enc p) t (by rw [henc]; exact c)] at h1
    rw [h1, List.getElem?_eq_getElem (by rw [henc]; exact c)]
   ·rw [List.getElem?_eq_none (by rw [List.length_take]; omega), List.getElem?_eq_none (by rw [henc]; omega)]
  rw [he]
  exact hM _ _ _ _
 ·rw [hheap, Array.size_append, Array.size_modify]; omega
 ·rw [hheap, Array.getElem?_append_left (by simpa using hk), Array.getElem?_modify, if_neg (Ne.symm hne)]
end
end Go.Proofs.YtafnbgclkkjdcaaV
end
section
namespace Go.Proofs.YtafnbgclkkjdcaaV
open Go.RowKit Go.Sort Go.Shelf Go.Lib Go.Proofs.YtafnbgclkkjdcaaW.PrintWords Go.Proofs.YtafnbgclkkjdcaaW.PrintLast Go.Proofs.YtafnbgclkkjdcaaW.PrintMore
section
variable {α : Type} {enc : α → List Value} {k : Nat} {w0 W : World} {blk off : Nat} {dk d0 : Array α}
def layA (d : Array α) : Nat → List α → Array α
 | _, [] => d
 | m, x :: r => layA (d.setIfInBounds m x) (m + 1) r
theorem size_layA (r : List α) : ∀ (m : Nat) (d : Array α), (layA d m r).size = d.size := by
 induction r with
 | nil => intro m d; rfl
 | cons x r ih => intro m d; rw [layA, ih]; simp
theorem layA_list (r : List α) : ∀ (m : Nat) (d : Array α), m + r.length ≤ d.size → (layA d m r).toList = d.toList.take m ++ r ++ d.toList.drop (m + r.length) := by
 induction r with
 | nil => intro m d _; simp [layA]
 | cons x r ih =>
  intro m d h
  rw [List.length_cons] at h
  rw [layA, ih (m + 1) _ (by simp; omega)]
  have hl : m < d.toList.length := by simp; omega
  rw [Array.toList_setIfInBounds, List.take_set, List.take_add_one, List.getElem?_eq_getElem hl, List.drop_set_of_lt (by omega)]
  simp only [Option.toList_some]
  rw [List.set_append_right _ _ (by simp; omega), List.length_take, Nat.min_eq_left (by omega), Nat.sub_self]
  simp [Nat.add_assoc, Nat.add_comm 1]
theorem flatMap_rep (z : α) (vs : List Value) (hz : enc z = vs) (n : Nat) : (List.replicate n z).flatMap enc = (List.range (n * vs.length)).map fun i => vs[i % vs.length]! := by
 induction n with
 | zero => simp
 | succ n ih =>
  rw [List.replicate_succ', List.flatMap_append, ih, Nat.add_mul, Nat.one_mul, List.range_add, List.map_append]
  congr 1
  rw [List.flatMap_cons, List.flatMap_nil, List.append_nil, hz]
  apply List.ext_getElem
  ·simp
  ·intro i h1 h2
   have hi : i < vs.length := h1
   simp only [List.getElem_map, List.getElem_range]
   rw [Nat.mul_comm n, Nat.mul_add_mod, Nat.mod_eq_of_lt hi, getElem!_pos vs i hi]
end
section
variable {α : Type} [Inhabited α] {enc : α → List Value} {k : Nat} {w0 W : World} {blk off : Nat} {dk d0 : Array α}
theorem setMany_put (hk : ∀ x, (enc x).length = k) (d : Array α) (i : Nat) (hi : i < d.size) (x : α) : setMany (flatK enc k d) (i * k) (enc x) = flatK enc k (d.setIfInBounds i x) := by
 refine ext_get! (by simp) fun t ht => ?_
 have ht' : t < d.size * k := by simpa using ht
 have k0 : 0 < k := by
  rcases Nat.eq_zero_or_pos k with h | h
  ·subst h
   simp at ht'
  ·exact h
 have hq : t / k < d.size := Nat.div_lt_of_lt_mul (by rw [Nat.mul_comm]; exact ht')
 rw [get_setMany _ _ _ t (by simpa using ht'), get_flatK _ _ _ t ht', get_flatK _ _ _ t (by simpa using ht'), hk]
 by_cases a : t / k = i
 ·have m : t - i * k = t % k := by
   subst a
   rw [Nat.mod_eq_sub_div_mul]
  rw [if_pos ((blk_iff k i t k0).2 a), m]
  have e : (d.setIfInBounds i x)[t / k]! = x := by rw [a, getElem!_pos _ i (by simpa using hi)]; simp
  rw [e]
 ·rw [if_neg (fun h => a ((blk_iff k i t k0).1 h))]
  have e : (d.setIfInBounds i x)[t / k]! = d[t / k]! := by
   rw [getElem!_pos _ (t / k) (by simpa using hq), getElem!_pos d (t / k) hq, Array.getElem_setIfInBounds]
   rw [if_neg (Ne.symm a)]
  rw [e]
theorem setMany_append (vs us : List Value) : ∀ (s : Nat) (F : Array Value), setMany F s (vs ++ us) = setMany (setMany F s vs) (s + vs.length) us := by
 induction vs with
 | nil => intro s F; rfl
 | cons v r ih =>
  intro s F
  rw [List.cons_append, setMany, ih, setMany, List.length_cons, Nat.add_right_comm, Nat.add_assoc]
theorem setMany_lay (hk : ∀ x, (enc x).length = k) (r : List α) : ∀ (m : Nat) (d : Array α), m + r.length ≤ d.size → setMany (flatK enc k d) (m * k) (r.flatMap enc) = flatK enc k (layA d m r) := by
 induction r with
 | nil => intro m d _; rfl
 | cons x r ih =>
  intro m d h
  rw [List.length_cons] at h
  rw [List.flatMap_cons, setMany_append, setMany_put hk d m (by omega) x, hk, show m * k + k = (m + 1) * k by rw [Nat.add_mul, Nat.one_mul], ih (m + 1) _ (by simp; omega)]
  rfl
theorem swk_put (h : SWK enc k w0 blk off dk W) (hk : ∀ x, (enc x).length = k) (hblk : blk < w0.heap.size) (i : Nat) (hi : i < dk.size) (x : α) : SWK enc k w0 blk off (dk.setIfInBounds i x) (W.setCells blk (off + i * k) (enc x)) := by
 obtain ⟨n, os, rfl⟩ := h
 refine ⟨n, os, ?_⟩
 unfold sortWorldK
 rw [setCells_grow os blk _ _ _ (by rw [size_putRowK]; exact hblk)]
 congr 1
 unfold putRowK
 rw [setCells_putRow _ _ _ _ _ _ (by rw [hk, size_flatK]; exact rowK_bnd dk k i hi), setMany_put hk dk i hi x]
theorem swk_lay (h : SWK enc k w0 blk off dk W) (hk : ∀ x, (enc x).length = k) (hblk : blk < w0.heap.size) (m : Nat) (r : List α) (hm : m + r.length ≤ dk.size) : SWK enc k w0 blk off (layA dk m r) (W.setCells blk (off + m * k) (r.flatMap enc)) := by
 obtain ⟨n, os, rfl⟩ := h
 refine ⟨n, os, ?_⟩
 unfold sortWorldK
 rw [setCells_grow os blk _ _ _ (by rw [size_putRowK]; exact hblk)]
 congr 1
 unfold putRowK
 have hl : (r.flatMap enc).length = r.length * k := by
  induction r with
  | nil => simp
  | cons x r ih =>
   rw [List.flatMap_cons, List.length_append, hk, ih (by simp at hm; omega), List.length_cons, Nat.add_mul, Nat.one_mul, Nat.add_comm]
 rw [setCells_putRow _ _ _ _ _ _ (by rw [hl, size_flatK, ← Nat.add_mul]; exact Nat.mul_le_mul_right k hm), setMany_lay hk r m dk hm]
theorem swk_stE (h : SWK enc k w0 blk off dk W) (R : RowK enc k w0 blk off d0) (hs : dk.size = d0.size) (P : Program) (i : Nat) (hi : i < dk.size) (y : α) :
  Sem.run P (storeCells ⟨blk, off + i * k, none⟩ (enc y) 0) W = .ok () (W.setCells blk (off + i * k) (enc y)) :=
 stores_of_holds P (h.holds R.hblk R.hH hs) (i * k) _ (by rw [R.hk, size_flatK]; exact rowK_bnd dk k i hi) (R.h1 _)
theorem clear_K {P : Program} (h : SWK enc k w0 blk off dk W) (R : RowK enc k w0 blk off d0) (hs : dk.size = d0.size) (k0 : 0 < k) (t e ty : TypeId) (z : Value) (zr : α) (ht : P.underlying t = some (.slice e)) (hv : ∀ w, (zeroValue e).run P w = .ok z w) (hz : z.cells.toList = enc zr)
  (m n c : Nat) (hn : 0 < n) (hm : m + n = dk.size) :
  (Builtin.clear_ #[t] ty #[.slice (some ⟨blk, off + m * k, none⟩) n c]).run P W = .ok (.tuple #[]) (W.setCells blk (off + m * k) ((List.replicate n zr).flatMap enc)) := by
 have hzs : z.cells.size = k := by rw [← Array.length_toList, hz, R.hk]
 have hzc : (Builtin.zeroCells z.cells n).toList = (List.replicate n zr).flatMap enc := by
  rw [flatMap_rep zr z.cells.toList hz.symm n]
  unfold Builtin.zeroCells
  rw [Array.toList_map, Array.toList_range, Array.length_toList]
  apply List.map_congr_left
  intro i hi
  rw [List.mem_range] at hi
  have hlt : i % z.cells.size < z.cells.size := Nat.mod_lt _ (by omega)
  rw [getElem!_pos z.cells _ hlt, getElem!_pos z.cells.toList _ (by simpa using hlt)]
  simp
 have hl : ((List.replicate n zr).flatMap enc).length = n * k := by
  rw [flatMap_rep zr z.cells.toList hz.symm n]
  simp [hzs]
 have hH := h.holds R.hblk R.hH hs
 have hb : m * k + n * k = dk.size * k := by rw [← Nat.add_mul, hm]
 have hst := run_storeCells_cells (P := P) blk (off + m * k) ((List.replicate n zr).flatMap enc) 0 W (fun j hj => by
   rw [hl] at hj
   rw [Nat.add_zero, Nat.add_assoc, (hH (m * k + j) (by rw [size_flatK]; omega)).1]
   rfl) (fun j hj => by
   rw [hl] at hj
   rw [Nat.add_zero, Nat.add_assoc]
   exact (hH (m * k + j) (by rw [size_flatK]; omega)).2) (fun v hv' => by
   obtain ⟨x, hx, hvx⟩ := List.mem_flatMap.1 hv'
   exact R.h1 x v hvx)
 simp only [Nat.add_zero] at hst
 obtain ⟨q, rfl⟩ : ∃ q, n = q + 1 := ⟨n - 1, by omega⟩
 simp [Builtin.clear_, run_underlying ht, hv, hzc, hst]
end
end Go.Proofs.YtafnbgclkkjdcaaV
end
