/- Words of this session: a row of structs of two cells as the library's sort sees it, and back. No condition beyond those typed. -/
import Derived.Test.YtnnmpdhijdkpcaaV3
import Derived.Shelf.SlSortCmp.NoneTotal
namespace Go.Proofs.YtnnmpdhijdkpcaaV
open Go.RowKit Go.Proofs.YtnnmpdhijdkpcaaW.PrintWords Go.Proofs.YtnnmpdhijdkpcaaW.PrintLast Go.Proofs.YtnnmpdhijdkpcaaW.PrintMore
open Go.ChangeShapes Go.WideShapes Go.Deep Go.Joins Go.Sort Go.Shelf

section
variable {α : Type} [Inhabited α]
theorem seg_two {enc : α → List Value} (henc : ∀ x, (enc x).length = 2) {inner : List Value} {l : List α} (_hlen : inner.length = l.length * 2)
    (hr : ∀ j p, l[j]? = some p → (inner.drop (j * 2)).take 2 = enc p) (t : Nat) (ht : t < l.length * 2) : inner[t]? = some ((flatK enc 2 l.toArray)[t]!) := by
  have hj : t / 2 < l.length := by omega
  have h1 := hr (t / 2) l[t / 2] (List.getElem?_eq_getElem hj)
  have h2 : ((inner.drop (t / 2 * 2)).take 2)[t % 2]? = (enc l[t / 2])[t % 2]? := by rw [h1]
  rw [List.getElem?_take_of_lt (by omega), List.getElem?_drop, show t / 2 * 2 + t % 2 = t by omega] at h2
  have h3 : t % 2 < (enc l[t / 2]).length := by rw [henc]; omega
  rw [h2, List.getElem?_eq_getElem h3, get_flatK enc 2 l.toArray t (by simpa using ht)]
  congr 1
  have h4 : l.toArray[t / 2]! = l[t / 2] := by rw [getElem!_pos l.toArray (t / 2) (by simpa using hj)]; simp
  rw [h4, getElem!_pos (enc l[t / 2]) (t % 2) h3]
/-- A row of one's own, as the sort sees it. -/
theorem own_holdsK (d : Kd α) (e : Nat) (enc : α → List Value) (hsz : d.sz = 2) (henc : ∀ x, (enc x).length = 2) (hM : ∀ w base ok x cs, d.M w base ok x cs → cs = enc x) {w : World} {base : Nat} {P : Nat → Prop} {u : Value} {l : List α} (ho : d.R e w base P u l) (hne : 0 < l.length) :
    ∃ g cap cur, u = .slice (some ⟨g, 0, none⟩) l.length cap ∧ P g ∧ base ≤ g ∧ g < w.heap.size ∧ w.heap[g]? = some (.cells cur e (0, 0)) ∧ l.length ≤ cap ∧ cap ≤ maxLen ∧ cur.size = cap * 2 ∧ HoldsK enc 2 w g 0 l.toArray := by
  obtain ⟨hok, inner, ⟨hlen, hcase⟩, _, hreps⟩ := ho
  rw [hsz] at hlen hcase hreps
  rcases hcase with ⟨_, h0⟩ | ⟨g, cap, cur, rfl, hg, hh, hl, hm, hs, htake⟩
  · omega
  · have hlt : g < w.heap.size := by
      rcases Nat.lt_or_ge g w.heap.size with h | h
      · exact h
      · rw [Array.getElem?_eq_none h] at hh
        cases hh
    refine ⟨g, cap, cur, rfl, hok g (by simp [Value.ownBlock]), hg, hlt, hh, hl, hm, hs, fun j hj => ?_⟩
    have hj' : j < l.length * 2 := by simpa using hj
    have h1 := seg_two henc hlen (fun j p hp => hM _ _ _ _ _ (hreps j p hp)) j hj'
    have h2 : cur[j]? = inner[j]? := by
      rw [← htake, List.getElem?_take_of_lt hj', Array.getElem?_toList]
    refine ⟨?_, ?_⟩
    · rw [Nat.zero_add]
      exact (blk_cell hh j).trans (h2.trans h1)
    · rw [Nat.zero_add]
      exact blk_frozen hh j
/-- The world that the sort leaves: the row holds d', all else that stood is as it was. -/
theorem sort_own (d : Kd α) (e : Nat) (enc : α → List Value) (hsz : d.sz = 2) (henc : ∀ x, (enc x).length = 2) (hM : ∀ w base ok x, d.M w base ok x (enc x)) {w : World} {base g cap n : Nat} {P : Nat → Prop} {cur : Array Value} {l : List α} {d' : Array α} {os : Array Obj}
    (hP : P g) (hg : base ≤ g) (hlt : g < w.heap.size) (hh : w.heap[g]? = some (.cells cur e (0, 0))) (hl : l.length ≤ cap) (hm : cap ≤ maxLen) (hs : cur.size = cap * 2) (hd : d'.size = l.length) :
    d.R e (sortWorldK enc 2 w g 0 n d' os) base P (.slice (some ⟨g, 0, none⟩) l.length cap) d'.toList ∧ w.heap.size ≤ (sortWorldK enc 2 w g 0 n d' os).heap.size ∧ (∀ k, k < w.heap.size → k ≠ g → (sortWorldK enc 2 w g 0 n d' os).heap[k]? = w.heap[k]?) := by
  have hheap : (sortWorldK enc 2 w g 0 n d' os).heap = (w.heap.modify g (onCells (putCells id 0 (flatK enc 2 d')))) ++ os := rfl
  have hcur : (sortWorldK enc 2 w g 0 n d' os).heap[g]? = some (.cells (putCells id 0 (flatK enc 2 d') cur) e (0, 0)) := by
    rw [hheap, Array.getElem?_append_left (by simpa using hlt), Array.getElem?_modify, if_pos rfl, hh]
    rfl
  have hF : (flatK enc 2 d').size = l.length * 2 := by rw [size_flatK, hd]
  have hcs : (putCells id 0 (flatK enc 2 d') cur).size = cap * 2 := by unfold putCells; rw [Array.size_mapIdx, hs]
  have htake : (putCells id 0 (flatK enc 2 d') cur).toList.take (l.length * 2) = (flatK enc 2 d').toList := by
    apply List.ext_getElem?
    intro t
    by_cases c : t < l.length * 2
    · have hcap : t < cap * 2 := by omega
      rw [List.getElem?_take_of_lt c, Array.getElem?_toList, Array.getElem?_toList]
      unfold putCells
      rw [Array.getElem?_mapIdx, Array.getElem?_eq_getElem (by rw [hs]; exact hcap), Option.map_some, if_pos ⟨Nat.zero_le _, by rw [hF]; omega⟩, Array.getElem?_eq_getElem (by rw [hF]; exact c)]
      rw [Nat.sub_zero, getElem!_pos _ t (by rw [hF]; exact c)]
      rfl
    · rw [List.getElem?_eq_none (by rw [List.length_take]; omega), List.getElem?_eq_none (by rw [Array.length_toList, hF]; omega)]
  have hdl : d'.toList.length = l.length := by rw [Array.length_toList]; exact hd
  have hFl : (flatK enc 2 d').toList.length = l.length * 2 := by rw [Array.length_toList]; exact hF
  refine ⟨⟨fun k hk => ?_, (flatK enc 2 d').toList, ⟨?_, .inr ⟨g, cap, _, ?_, hg, hcur, ?_, hm, ?_, ?_⟩⟩, ?_, fun j p hp => ?_⟩, ?_, fun k hk hne => ?_⟩
  · have : g = k := by simpa [Value.ownBlock] using hk
    exact this ▸ hP
  · rw [hsz, hFl, hdl]
  · rw [hdl]
  · rw [hdl]; exact hl
  · rw [hsz]; exact hcs
  · rw [hsz, hdl]; exact htake
  · rw [hsz, hFl, hdl]
  · rw [hsz]
    have hj : j < d'.size := by
      rcases Nat.lt_or_ge j d'.size with h | h
      · exact h
      · rw [List.getElem?_eq_none (by simpa using h)] at hp
        cases hp
    have hpj : d'[j]! = p := by
      rw [Array.getElem?_toList, Array.getElem?_eq_getElem hj] at hp
      rw [getElem!_pos d' j hj]
      exact Option.some.inj hp
    have he : ((flatK enc 2 d').toList.drop (j * 2)).take 2 = enc p := by
      apply List.ext_getElem?
      intro t
      by_cases c : t < 2
      · have ht : j * 2 + t < d'.size * 2 := by omega
        rw [List.getElem?_take_of_lt c, List.getElem?_drop, Array.getElem?_toList, Array.getElem?_eq_getElem (by rw [size_flatK]; exact ht)]
        have h1 := get_flatK enc 2 d' (j * 2 + t) ht
        rw [getElem!_pos _ (j * 2 + t) (by rw [size_flatK]; exact ht), show (j * 2 + t) / 2 = j by omega, show (j * 2 + t) % 2 = t by omega, hpj, getElem!_pos (enc p) t (by rw [henc]; exact c)] at h1
        rw [h1, List.getElem?_eq_getElem (by rw [henc]; exact c)]
      · rw [List.getElem?_eq_none (by rw [List.length_take]; omega), List.getElem?_eq_none (by rw [henc]; omega)]
    rw [he]
    exact hM _ _ _ _
  · rw [hheap, Array.size_append, Array.size_modify]; omega
  · rw [hheap, Array.getElem?_append_left (by simpa using hk), Array.getElem?_modify, if_neg (Ne.symm hne)]
end
end Go.Proofs.YtnnmpdhijdkpcaaV
