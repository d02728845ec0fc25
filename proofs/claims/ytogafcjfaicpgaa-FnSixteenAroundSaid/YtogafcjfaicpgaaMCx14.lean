-- Written by a program of this session (wip/print/myprint.py) over the kit's printer; Lean checks it.
import Derived.Test.YtogafcjfaicpgaaMCx0
import Derived.Test.YtogafcjfaicpgaaMCx6
import Derived.Test.YtogafcjfaicpgaaMCx7
import Derived.Test.YtogafcjfaicpgaaMCx9
import Derived.Test.YtogafcjfaicpgaaMCx10
import Derived.Test.YtogafcjfaicpgaaMCx11
import Derived.Test.YtogafcjfaicpgaaMCx12
import Derived.Test.YtogafcjfaicpgaaMCx13
namespace Go.Proofs.Ytogafcjfaicpgaa.MC
open Go.RowKit Go.Proofs.YtogafcjfaicpgaaW.PrintWords Go.Proofs.YtogafcjfaicpgaaW.PrintLast Go.Proofs.YtogafcjfaicpgaaW.PrintMore Go.Proofs.YtogafcjfaicpgaaV
attribute [local go_sem] max2_int min2_int max_two min_two max_three min_three max_four min_four   -- for this text's walks alone
set_option linter.unusedVariables false
set_option linter.unusedSimpArgs false

/-! ### slices_SortFunc_rows: function 46 (a contract by hand, over the library's shelf) -/
/-- How two lists of numbers compare. -/
def cmpN : List Int → List Int → Int
  | [], [] => 0
  | [], _ :: _ => -1
  | _ :: _, [] => 1
  | x :: a, y :: b => if x = y then cmpN a b else if x < y then -1 else 1
theorem cmpN_nil (b : List Int) : cmpN [] b = if 0 < b.length then -1 else 0 := by cases b <;> simp [cmpN]
theorem cmpN_cons (x : Int) (a : List Int) (y : Int) (b : List Int) : cmpN (x :: a) (y :: b) = if x = y then cmpN a b else if x < y then -1 else 1 := rfl
theorem cmpN_self (a : List Int) : cmpN a a = 0 := by
  induction a with
  | nil => rfl
  | cons x a ih => rw [cmpN_cons, if_pos rfl, ih]
theorem cmpN_neg : ∀ a b : List Int, cmpN b a = -cmpN a b
  | [], [] => rfl
  | [], _ :: _ => rfl
  | _ :: _, [] => rfl
  | x :: a, y :: b => by
    rw [cmpN_cons, cmpN_cons]
    by_cases h : x = y
    · rw [if_pos h.symm, if_pos h, cmpN_neg a b]
    · rw [if_neg (fun e => h e.symm), if_neg h]
      by_cases h2 : x < y
      · rw [if_neg (by omega), if_pos h2]; rfl
      · rw [if_pos (by omega), if_neg h2]
theorem cmpN_zero : ∀ a b : List Int, cmpN a b = 0 → a = b
  | [], [], _ => rfl
  | [], _ :: _, h => by simp [cmpN] at h
  | _ :: _, [], h => by simp [cmpN] at h
  | x :: a, y :: b, h => by
    rw [cmpN_cons] at h
    by_cases c : x = y
    · rw [if_pos c] at h
      rw [c, cmpN_zero a b h]
    · rw [if_neg c] at h
      split at h <;> omega
theorem cmpN_tr : ∀ a b c : List Int, cmpN a b ≤ 0 → cmpN b c ≤ 0 → cmpN a c ≤ 0 ∧ (cmpN a b < 0 ∨ cmpN b c < 0 → cmpN a c < 0)
  | [], [], [], _, _ => by simp [cmpN]
  | [], [], _ :: _, _, _ => by simp [cmpN]
  | [], _ :: _, [], _, h => by simp [cmpN] at h
  | [], _ :: _, _ :: _, _, _ => by simp [cmpN]
  | _ :: _, [], _, h, _ => by simp [cmpN] at h
  | _ :: _, _ :: _, [], _, h => by simp [cmpN] at h
  | x :: a, y :: b, z :: c, h1, h2 => by
    rw [cmpN_cons] at h1 h2
    rw [cmpN_cons, cmpN_cons, cmpN_cons]
    by_cases e1 : x = y
    · subst e1
      rw [if_pos rfl] at h1
      by_cases e2 : x = z
      · subst e2
        rw [if_pos rfl] at h2
        simp only [if_true]
        exact cmpN_tr a b c h1 h2
      · rw [if_neg e2] at h2
        have h3 : x < z := by split at h2 <;> omega
        simp only [if_neg e2, if_pos h3]
        omega
    · rw [if_neg e1] at h1
      have h3 : x < y := by split at h1 <;> omega
      by_cases e2 : y = z
      · subst e2
        simp only [if_neg e1, if_pos h3]
        omega
      · rw [if_neg e2] at h2
        have h4 : y < z := by split at h2 <;> omega
        simp only [if_neg (show ¬ x = z by omega), if_pos (show x < z by omega)]
        omega
theorem compareN (A B : List Int) (hA : A.length ≤ 9223372036854775807) (hB : B.length ≤ 9223372036854775807) (ra : List Int) : ∀ (pa pb rb : List Int) (k : Nat), A = pa ++ ra → B = pb ++ rb → pa.length = pb.length → ra.length + 1 ≤ k →
    slices_Compare_int_int.l0 k A B A (A.length : Int) (pa.length : Int) = some (cmpN ra rb) := by
  induction ra with
  | nil =>
    intro pa pb rb k h1 h2 h3 hk
    obtain ⟨k, rfl⟩ : ∃ m, k = m + 1 := ⟨k - 1, by omega⟩
    have e1 : A.length = pa.length := by rw [h1]; simp
    have e2 : B.length = pb.length + rb.length := by rw [h2]; simp
    simp only [slices_Compare_int_int.l0]
    rw [if_neg (by omega), cmpN_nil]
    by_cases c : 0 < rb.length
    · rw [if_pos (by omega), if_pos c]
    · rw [if_neg (by omega), if_neg c]
  | cons x ra ih =>
    intro pa pb rb k h1 h2 h3 hk
    rw [List.length_cons] at hk
    obtain ⟨k, rfl⟩ : ∃ m, k = m + 1 := ⟨k - 1, by omega⟩
    have e1 : A.length = pa.length + (ra.length + 1) := by rw [h1]; simp
    have e2 : B.length = pb.length + rb.length := by rw [h2]; simp
    simp only [slices_Compare_int_int.l0]
    rw [if_pos (by omega), if_pos (by omega), if_pos (by omega)]
    cases rb with
    | nil => rw [if_pos (by simp at e2; omega)]; rfl
    | cons y rb =>
      rw [List.length_cons] at e2
      have hx : rd A (pa.length : Int) = x := by rw [h1]; simp [rd]
      have hy : rd B (pa.length : Int) = y := by rw [h2, h3]; simp [rd]
      have hc : cmp_Compare_int.f x y = some (if x = y then 0 else if x < y then -1 else 1) := by
        unfold cmp_Compare_int.f cmp_isNaN_int.f
        by_cases q1 : x = y
        · subst q1; simp
        · by_cases q2 : x < y
          · simp [q1, q2]
          · simp [q1, q2, show x > y by omega]
      have hw : wrap64 ((pa.length : Int) + 1) = (pa.length : Int) + 1 := by unfold wrap64; omega
      rw [if_neg (by omega), if_pos (by omega), hx, hy, hc, Option.bind_some, cmpN_cons, hw]
      by_cases c : x = y
      · rw [if_pos c, if_pos c, if_pos rfl]
        have := ih (pa ++ [x]) (pb ++ [y]) rb k (by simpa using h1) (by simpa using h2) (by simp; omega) (by omega)
        simpa using this
      · rw [if_neg c, if_neg c]
        by_cases q : x < y
        · rw [if_pos q, if_neg (by decide)]
        · rw [if_neg q, if_neg (by decide)]
theorem compareN_eq (a b : List Int) (ha : a.length ≤ 9223372036854775807) (hb : b.length ≤ 9223372036854775807) : slices_Compare_int_int.f (a.length + 1) a b = some (cmpN a b) := by
  unfold slices_Compare_int_int.f
  exact compareN a b ha hb a [] [] b _ rfl rfl rfl (Nat.le_refl _)
/-- Put into a sorted list. -/
def insN (x : List Int) : List (List Int) → List (List Int)
  | [] => [x]
  | y :: l => if cmpN y x < 0 then y :: insN x l else x :: y :: l
def sortN : List (List Int) → List (List Int)
  | [] => []
  | x :: l => insN x (sortN l)
theorem insN_perm (x : List Int) (l : List (List Int)) : (insN x l).Perm (x :: l) := by
  induction l with
  | nil => exact List.Perm.refl _
  | cons y l ih =>
    unfold insN
    split
    · exact (List.Perm.cons y ih).trans (List.Perm.swap x y l)
    · exact List.Perm.refl _
theorem sortN_perm (l : List (List Int)) : (sortN l).Perm l := by
  induction l with
  | nil => exact List.Perm.refl _
  | cons x l ih => exact (insN_perm x (sortN l)).trans (List.Perm.cons x ih)
theorem insN_sorted (x : List Int) (l : List (List Int)) (h : l.Pairwise fun a b => ¬ cmpN b a < 0) : (insN x l).Pairwise fun a b => ¬ cmpN b a < 0 := by
  induction l with
  | nil => simp [insN]
  | cons y l ih =>
    unfold insN
    have hy := (List.pairwise_cons.1 h).1
    split
    · rename_i c
      refine List.pairwise_cons.2 ⟨fun z hz => ?_, ih (List.pairwise_cons.1 h).2⟩
      rcases List.mem_cons.1 ((insN_perm x l).subset hz) with rfl | hz
      · rw [cmpN_neg]; omega
      · exact hy z hz
    · rename_i c
      refine List.pairwise_cons.2 ⟨fun z hz => ?_, h⟩
      rcases List.mem_cons.1 hz with rfl | hz
      · exact c
      · have h1 := hy z hz
        have h2 := (cmpN_tr x y z (by rw [cmpN_neg y x]; omega) (by rw [cmpN_neg z y]; omega)).1
        rw [cmpN_neg x z]
        omega
theorem sortN_sorted (l : List (List Int)) : (sortN l).Pairwise fun a b => ¬ cmpN b a < 0 := by
  induction l with
  | nil => exact List.Pairwise.nil
  | cons x l ih => exact insN_sorted x _ ih
theorem sortN_one {a b : List (List Int)} (hp : a.Perm b) (ha : a.Pairwise fun x y => ¬ cmpN y x < 0) (hb : b.Pairwise fun x y => ¬ cmpN y x < 0) : a = b := by
  induction a generalizing b with
  | nil => exact (List.Perm.nil_eq hp)
  | cons x a ih =>
    cases b with
    | nil => exact absurd hp.length_eq (by simp)
    | cons y b =>
      have ha := List.pairwise_cons.1 ha
      have hb := List.pairwise_cons.1 hb
      have hxy : x = y := by
        have h1 : x ∈ y :: b := hp.subset (by simp)
        have h2 : y ∈ x :: a := hp.symm.subset (by simp)
        rcases List.mem_cons.1 h1 with h1 | h1
        · exact h1
        · rcases List.mem_cons.1 h2 with h2 | h2
          · exact h2.symm
          · have q1 := hb.1 x h1
            have q2 := ha.1 y h2
            rw [cmpN_neg y x] at q1
            exact (cmpN_zero y x (by omega)).symm
      subst hxy
      rw [ih (List.Perm.cons_inv hp) ha.2 hb.2]
section
open Go.Sort Go.Shelf
theorem swoN (f : Nat → List Int) : SWO (Go.Proofs.ltOf fun i j => cmpN (f i) (f j)) where
  irrefl x := by unfold Go.Proofs.ltOf; rw [decide_eq_false_iff_not]; show ¬ cmpN (f x) (f x) < 0; rw [cmpN_self]; omega
  trans x y z h1 h2 := by
    unfold Go.Proofs.ltOf at *
    rw [decide_eq_true_eq] at *
    dsimp only at *
    exact (cmpN_tr _ _ _ (by omega) (by omega)).2 (.inl h1)
  ntrans x y z h1 h2 := by
    unfold Go.Proofs.ltOf at *
    rw [decide_eq_false_iff_not] at *
    dsimp only at *
    have q := (cmpN_tr (f z) (f y) (f x) (by rw [cmpN_neg (f y) (f z)]; omega) (by rw [cmpN_neg (f x) (f y)]; omega)).1
    rw [cmpN_neg (f x) (f z)] at q
    omega
theorem rowLen {α : Type} {d : Kd α} {e : Nat} {w : World} {base : Nat} {ok : Nat → Prop} {v : Value} {xs : List α} (h : d.R e w base ok v xs) : xs.length ≤ 9223372036854775807 := by
  obtain ⟨_, inner, ho, _⟩ := h
  have hm : maxLen = 9223372036854775807 := rfl
  rcases ho.2 with ⟨_, h0⟩ | ⟨g, cap, cur, _, _, _, hl, hc, _⟩
  · omega
  · omega
/-- Rows sorted: what the row holds then, and what else is turned. -/
theorem sort_rows {w : World} {base : Nat} {ok : Nat → Prop} {v : Value} {xs : List (List Int)} (h : Kd.S kk33 33 w base ok v xs) (hne : 0 < xs.length) (hbg : xs.length < 4611686018427387904) :
    Calls Try.prog 46 #[v, .func (.func 47) #[] #[]] w fun e w' => e = .returned (.tuple #[]) ∧ Kd.S kk33 33 w' base ok v (sortN xs) ∧ w.grownBy w' v.ownBlock := by
  obtain ⟨f, h0, inner, ho, hr⟩ := h
  rw [List.length_zipIdx] at ho
  obtain ⟨hlen, hcase⟩ := ho
  rcases hcase with ⟨_, hz⟩ | ⟨blk, cap, cur, rfl, hb, hh, hl, hm, hs, htake⟩
  · omega
  have hsz : (Kd.tag f kk33).sz = 1 := rfl
  rw [hsz, Nat.mul_one] at hlen hs htake
  have hlt : blk < w.heap.size := by
    rcases Nat.lt_or_ge blk w.heap.size with q | q
    · exact q
    · rw [Array.getElem?_eq_none q] at hh
      cases hh
  -- a row's header and its list, by its index
  let enc : Nat → Value := fun j => inner.getD j (.slice none 0 0)
  let lst : Nat → List Int := fun j => xs.getD j []
  have hrow : ∀ j, (Kd.int .i64).R 3 w base (fun k => k ≠ blk) (enc j) (lst j) := by
    intro j
    by_cases hj : j < xs.length
    · have hz := hr.2 j (xs[j], j) (Kd.zip_at (List.getElem?_eq_getElem hj))
      rw [hsz, Nat.mul_one] at hz
      obtain ⟨u, hu, hR⟩ := hz
      have e1 : enc j = u := by
        show inner.getD j _ = u
        have h3 : (inner.drop j)[0]? = some u := by
          have : ((inner.drop j).take 1)[0]? = some u := by rw [hu]; rfl
          rwa [List.getElem?_take_of_lt (by omega)] at this
        rw [List.getElem?_drop, Nat.add_zero] at h3
        rw [List.getD_eq_getElem?_getD, h3]; rfl
      have e2 : lst j = xs[j] := by
        show xs.getD j [] = xs[j]
        rw [List.getD_eq_getElem?_getD, List.getElem?_eq_getElem hj]; rfl
      rw [e1, e2]
      exact Kd.R_mono hR (fun k hk he => hk.1.2 (by rw [he]; rfl))
    · have e1 : enc j = .slice none 0 0 := by
        show inner.getD j _ = _
        rw [List.getD_eq_getElem?_getD, List.getElem?_eq_none (by omega)]; rfl
      have e2 : lst j = [] := by
        show xs.getD j [] = _
        rw [List.getD_eq_getElem?_getD, List.getElem?_eq_none (by omega)]; rfl
      rw [e1, e2]
      exact Kd.R_nil _ _ _ _ _
  have hone : OneCell enc := fun j => (Kd.R_val (hrow j)).2
  have hheap : ∀ (m : Nat) (os : Array Obj) (dk : Array Nat), (sortWorld enc w blk 0 m dk os).heap = (w.heap.modify blk (onCells (putCells enc 0 dk))) ++ os := fun _ _ _ => rfl
  have hkeep : ∀ (m : Nat) (os : Array Obj) (dk : Array Nat) (k : Nat), k ≠ blk → k < w.heap.size → (sortWorld enc w blk 0 m dk os).heap[k]? = w.heap[k]? := by
    intro m os dk k hk hlt
    rw [hheap, Array.getElem?_append_left (by simpa using hlt), Array.getElem?_modify, if_neg (fun e => hk e.symm)]
  have hd : ∀ j, j < xs.length → (Array.range xs.length)[j]! = j := by
    intro j hj
    rw [getElem!_pos _ j (by simpa using hj), Array.getElem_range]
  have hH : Holds enc w blk 0 (Array.range xs.length) := by
    intro j hj
    have hj' : j < xs.length := by simpa using hj
    have e1 : cur[j]? = some (enc j) := by
      have h1 : (cur.toList.take xs.length)[j]? = inner[j]? := by rw [htake]
      rw [List.getElem?_take_of_lt hj', Array.getElem?_toList] at h1
      rw [h1]
      show inner[j]? = some (inner.getD j _)
      rw [List.getD_eq_getElem?_getD, List.getElem?_eq_getElem (by omega)]; rfl
    rw [hd j hj', Nat.zero_add]
    exact ⟨(blk_cell hh j).trans e1, blk_frozen hh j⟩
  have eg : ∀ args w, (callFunc 47 args).run Try.prog w = .ok (.enter 47 args) w := enters_of Try.func47 (by kernel_rfl) rfl
  have hcmp : CmpLays1 Try.prog 47 #[] enc (fun i j => cmpN (lst i) (lst j)) blk 0 (Array.range xs.length).size w := by
    intro m os dk _ x y
    have q1 := Kd.R_step (hrow x) (w1 := sortWorld enc w blk 0 m dk os) (fun k hk hlt => hkeep m os dk k hk hlt)
    have q2 := Kd.R_step (hrow y) (w1 := sortWorld enc w blk 0 m dk os) (fun k hk hlt => hkeep m os dk k hk hlt)
    obtain ⟨A1, c1, e1⟩ := Kd.R_slice q1
    obtain ⟨A2, c2, e2⟩ := Kd.R_slice q2
    have l1 := rowLen q1
    have l2 := rowLen q2
    rw [e1] at q1
    rw [e2] at q2
    rw [e1, e2]
    refine (slices_Compare_int_int.calls ((lst x).length + 1) A1 c1 (lst x) A2 c2 (lst y) (cmpN (lst x) (lst y)) _ (Kd.R_reads' q1).2.2 (Kd.R_reads' q1).2.1 (Kd.R_reads' q2).2.2 (Kd.R_reads' q2).2.1 (compareN_eq _ _ (by omega) (by omega))).mono ?_
    rintro e w' ⟨rfl, hw⟩
    obtain ⟨q, rfl⟩ := hw.out
    exact ⟨rfl, q, #[], by rw [grow_empty]⟩
  have hbig : (Array.range xs.length).size < 4611686018427387904 := by
    rw [Array.size_range]
    exact hbg
  have hcon := Go.Proofs.Any.slices_SortFunc Try.sortRows enc hone (fun i j => cmpN (lst i) (lst j)) (swoN lst) 47 #[] blk 0 cap (Array.range xs.length) w eg hcmp hH hlt hbig
  change Calls Try.prog 46 _ _ _ at hcon
  rw [Array.size_range] at hcon
  refine hcon.mono fun e w' hq => ?_
  obtain ⟨rfl, d', m, os, ⟨hd', _, hperm⟩, hsort, rfl⟩ := hq
  rw [Array.size_range] at hd'
  have ex1 : d'.extract 0 xs.length = d' := by rw [← hd']; exact Array.extract_size
  have ex2 : (Array.range xs.length).extract 0 xs.length = Array.range xs.length := by
    have : xs.length = (Array.range xs.length).size := by simp
    rw (occs := .pos [2]) [this]
    exact Array.extract_size
  rw [ex1, ex2] at hperm
  have hperm2 : d'.toList.Perm (List.range xs.length) := by simpa using hperm
  have hnd : d'.toList.Nodup := hperm2.nodup_iff.2 List.nodup_range
  have hmap : (d'.toList.map lst).Perm xs := by
    refine (hperm2.map lst).trans ?_
    have : (List.range xs.length).map lst = xs := by
      apply List.ext_getElem (by simp)
      intro i h1 h2
      rw [List.getElem_map, List.getElem_range]
      show xs.getD i [] = xs[i]
      rw [List.getD_eq_getElem?_getD, List.getElem?_eq_getElem h2]; rfl
    rw [this]
  have hout : d'.toList.map lst = sortN xs := by
    refine sortN_one (hmap.trans (sortN_perm xs).symm) ?_ (sortN_sorted xs)
    rw [List.pairwise_map, List.pairwise_iff_getElem]
    intro i j hi hj hij
    have h1 := hsort i j (Nat.zero_le _) hij (by simpa [hd'] using hj)
    unfold Go.Proofs.ltOf at h1
    rw [decide_eq_false_iff_not, getElem!_pos d' j (by simpa using hj), getElem!_pos d' i (by simpa using hi)] at h1
    simpa using h1
  rw [← hout]
  have hdl : d'.toList.length = xs.length := by rw [Array.length_toList]; exact hd'
  have hcs : (putCells enc 0 d' cur).size = cap := by unfold putCells; rw [Array.size_mapIdx, hs]
  have hcur : (sortWorld enc w blk 0 m d' os).heap[blk]? = some (.cells (putCells enc 0 d' cur) 33 (0, 0)) := by
    rw [hheap, Array.getElem?_append_left (by simpa using hlt), Array.getElem?_modify, if_pos rfl, hh]
    rfl
  have htk : (putCells enc 0 d' cur).toList.take xs.length = d'.toList.map enc := by
    apply List.ext_getElem?
    intro t
    by_cases c : t < xs.length
    · have hcap : t < cap := by omega
      rw [List.getElem?_take_of_lt c, Array.getElem?_toList]
      unfold putCells
      rw [Array.getElem?_mapIdx, Array.getElem?_eq_getElem (by rw [hs]; exact hcap), Option.map_some, if_pos ⟨Nat.zero_le _, by rw [hd']; omega⟩, List.getElem?_map, Array.getElem?_toList, Array.getElem?_eq_getElem (by rw [hd']; exact c), Option.map_some, Nat.sub_zero, getElem!_pos d' t (by rw [hd']; exact c)]
    · rw [List.getElem?_eq_none (by rw [List.length_take]; omega), List.getElem?_eq_none (by rw [List.length_map]; omega)]
  have hml : (d'.toList.map lst).length = xs.length := by rw [List.length_map, hdl]
  refine ⟨rfl, ⟨fun k => d'.toList.idxOf (f k), h0, d'.toList.map enc, ?_, ?_, ?_⟩, ?_⟩
  · rw [List.length_zipIdx, hml]
    refine ⟨by rw [List.length_map, hdl]; exact (Nat.mul_one _).symm, .inr ⟨blk, cap, _, rfl, hb, hcur, hl, hm, ?_, ?_⟩⟩
    · show (putCells enc 0 d' cur).size = cap * 1
      rw [hcs, Nat.mul_one]
    · show (putCells enc 0 d' cur).toList.take (xs.length * 1) = _
      rw [Nat.mul_one, htk]
  · rw [List.length_map, hdl, List.length_zipIdx, hml]
    exact (Nat.mul_one _).symm
  · intro j p hj
    show (Kd.tag _ kk33).M _ _ _ p (((d'.toList.map enc).drop (j * 1)).take 1)
    rw [List.getElem?_zipIdx, Nat.zero_add] at hj
    obtain ⟨x, hx, rfl⟩ := Option.map_eq_some_iff.1 hj
    rw [List.getElem?_map] at hx
    obtain ⟨i, hi, rfl⟩ := Option.map_eq_some_iff.1 hx
    have hjl : j < d'.toList.length := by
      rcases Nat.lt_or_ge j d'.toList.length with q | q
      · exact q
      · rw [List.getElem?_eq_none q] at hi
        cases hi
    have hi2 : d'.toList[j] = i := by
      rw [List.getElem?_eq_getElem hjl] at hi
      exact Option.some.inj hi
    have hil : i < xs.length := by
      have := hperm2.subset (hi2 ▸ List.getElem_mem hjl)
      simpa using this
    have hcell : ((d'.toList.map enc).drop (j * 1)).take 1 = (inner.drop (i * 1)).take 1 := by
      rw [Nat.mul_one, Nat.mul_one]
      apply List.ext_getElem?
      intro t
      by_cases c : t < 1
      · obtain rfl : t = 0 := by omega
        rw [List.getElem?_take_of_lt c, List.getElem?_take_of_lt c, List.getElem?_drop, List.getElem?_drop, Nat.add_zero, Nat.add_zero, List.getElem?_map, hi, Option.map_some]
        show some (inner.getD i _) = _
        rw [List.getD_eq_getElem?_getD, List.getElem?_eq_getElem (by omega)]; rfl
      · rw [List.getElem?_eq_none (by rw [List.length_take]; omega), List.getElem?_eq_none (by rw [List.length_take]; omega)]
    rw [hcell]
    have hz := hr.2 i (xs[i], i) (Kd.zip_at (List.getElem?_eq_getElem hil))
    rw [hsz] at hz
    have e2 : lst i = xs[i] := by
      show xs.getD i [] = xs[i]
      rw [List.getD_eq_getElem?_getD, List.getElem?_eq_getElem hil]; rfl
    have hpos : d'.toList.idxOf i = j := by rw [← hi2]; exact List.Nodup.idxOf_getElem hnd j hjl
    show (Kd.slice 3 (Kd.int .i64)).M _ _ (fun k => _ ∧ d'.toList.idxOf (f k) = j) (lst i) _
    rw [e2]
    refine Kd.M_mono _ (fun k hk => ⟨hk.1, by rw [hk.2]; exact hpos⟩) (Kd.M_step (d := Kd.slice 3 (Kd.int .i64)) (w1 := sortWorld enc w blk 0 m d' os) hz (fun k hk hlt => hkeep m os d' k (fun e => hk.1.2 (by rw [e]; rfl)) hlt))
  · refine ⟨rfl, rfl, rfl, ?_, fun k hk hn => hkeep m os d' k (fun e => hn (by rw [e]; rfl)) hk⟩
    rw [hheap, Array.size_append, Array.size_modify]
    omega
end
/-! ### impl_allAround_1: function 40 (a contract by hand) -/
def impl_allAround_1.f (k : Nat) (l0 : List Int) (s1 : List (List Int)) : Option (List (List Int)) := ((impl_areNumbers.f k l0).bind fun t1 => (if t1 = true then ((impl_areAround.f k l0).bind fun t2 => (if t2 = true then ((impl_leastNumbers.f k l0).bind fun t3 => ((slices_ContainsFunc_int_int_41.f k s1 t3).bind fun t4 => (if t4 = true then (some s1) else (if s1.length < 5000000000000 then (some (s1 ++ [t3])) else (none))))) else (some s1))) else (some s1)))
theorem impl_allAround_1.mono : ∀ a0 a1 k, LeO (impl_allAround_1.f k a0 a1) (impl_allAround_1.f (k + 1) a0 a1) := by
  intro a0 a1 k
  unfold impl_allAround_1.f
  repeat' first
      | (with_reducible exact impl_areNumbers.mono _ _)
      | (with_reducible exact impl_areAround.mono _ _)
      | (with_reducible exact impl_leastNumbers.mono _ _)
      | (with_reducible exact slices_ContainsFunc_int_int_41.mono _ _ _)
      | (with_reducible exact LeO.refl _)
      | (with_reducible exact LeO.none _)
      | (with_reducible refine LeO.ite ?_ ?_)
      | (with_reducible refine LeO.bind ?_ (fun _ => ?_))
set_option maxHeartbeats 8000000 in
set_option maxRecDepth 100000 in
theorem impl_allAround_1.calls (k : Nat) (A0 : Option Addr) (c0 : Nat) (l0 : List Int) (g base : Nat) (v : Value) (s1 r : List (List Int)) (w : World) (hr0 : Kd.C (Kd.int .i64) w A0 l0.length l0) (hc0 : l0.length ≤ c0) (hbase : base ≤ w.heap.size) (hst : RowsSt w w g base v v s1) (h : impl_allAround_1.f k l0 s1 = some r) :
    Calls Try.prog 40 #[.slice A0 l0.length c0, .pointer (some ⟨g, 0, none⟩)] w fun e w' => e = .returned (.tuple #[]) ∧ ∃ v' : Value, RowsSt w w' g base v v' r := by
  obtain ⟨As, cs, es⟩ := Kd.R_slice (Kd.S_R hst.row)
  subst es
  have HR0 := Aside0.mk hr0
  have HC0 := Aside0.mk hc0
  have HBS := Aside0.mk hbase
  have HST := Aside0.mk hst
  have HB := Aside0.mk (Below.refl w.heap.size w)
  clear hr0 hc0 hbase hst
  have H : ((impl_areNumbers.f k l0).bind fun t1 => (if t1 = true then ((impl_areAround.f k l0).bind fun t2 => (if t2 = true then ((impl_leastNumbers.f k l0).bind fun t3 => ((slices_ContainsFunc_int_int_41.f k s1 t3).bind fun t4 => (if t4 = true then (some s1) else (if s1.length < 5000000000000 then (some (s1 ++ [t3])) else (none))))) else (some s1))) else (some s1))) = some r := h
  clear h
  replace H := Option.bind_eq_some_iff.mp H
  obtain ⟨t1, A10, H⟩ := H
  have A1 := Aside0.mk A10
  clear A10
  by_cases c1 : t1 = true
  · subst c1
    rw [if_pos rfl] at H
    replace H := Option.bind_eq_some_iff.mp H
    obtain ⟨t2, A20, H⟩ := H
    have A2 := Aside0.mk A20
    clear A20
    by_cases c2 : t2 = true
    · subst c2
      rw [if_pos rfl] at H
      replace H := Option.bind_eq_some_iff.mp H
      obtain ⟨t3, A30, H⟩ := H
      have A3 := Aside0.mk A30
      clear A30
      replace H := Option.bind_eq_some_iff.mp H
      obtain ⟨t4, A40, H⟩ := H
      have A4 := Aside0.mk A40
      clear A40
      by_cases c4 : t4 = true
      · subst c4
        rw [if_pos rfl] at H
        obtain rfl := Option.some.inj H
        clear H
        go_enter Try.func40, Try.ntmps40
        go_wp2_with (first | ((with_reducible refine gate_callee (f := 31) rfl ?_); refine goesL_ (some 5) rfl rfl Try.func31 (by kernel_rfl) rfl #[.slice A0 l0.length c0] rfl ga_ ?_; (with_reducible refine (impl_areNumbers.calls k _ _ l0 true _ ?side1 ?side2 A1.out).mono ?_); (case side1 => exact Kd.C_below HR0.out (hb_)); (case side2 => exact HC0.out); rintro e w5 ⟨rfl, hb⟩; refine ⟨_, rfl, ?_⟩; have n0_ := Aside0.mk (below_step (hb_) hb); clear HB; have HB := n0_; clear n0_; (try clear hb)) | (go_at_call 32; (with_reducible refine (impl_areAround.calls k _ _ l0 true _ ?side1 ?side2 A2.out).mono ?_); (case side1 => exact Kd.C_below HR0.out (hb_)); (case side2 => exact HC0.out); rintro e w6 ⟨rfl, hb⟩; have n0_ := Aside0.mk (below_step (hb_) hb); clear HB; have HB := n0_; clear n0_; (try clear hb)) | ((with_reducible refine gate_callee (f := 33) rfl ?_); refine goesL_ (some 13) rfl rfl Try.func33 (by kernel_rfl) rfl #[.slice A0 l0.length c0] rfl ga_ ?_; (with_reducible refine (impl_leastNumbers.calls k (fun k_ => k_ < w.heap.size) _ _ l0 t3 _ ?side1 A3.out).mono ?_); (case side1 => exact Kd.V_mk HC0.out (Kd.F_below (Kd.C_F (Kd.heap_int .i64) HR0.out) (hb_))); rintro e w7 ⟨v3, rfl, ho, hb⟩; refine ⟨_, rfl, ?_⟩; have n1_ := Aside0.mk (Kd.R_lower (Kd.R_mono (ok' := fun _ => True) ho (fun _ _ => trivial)) (below_size (hb_))); have n0_ := Aside0.mk (below_step (hb_) hb); clear HB; have HB := n0_; clear n0_; (try clear hb); have HO := n1_; clear n1_ ho; obtain ⟨A3_, c3_, e3_⟩ := Kd.R_slice HO.out; subst e3_) | ((with_reducible refine gate_dst (N := 3) rfl ?_); refine box_event ?hg (N := 3) ?hd (cs := #[.slice none 0 0]) (t := 33) ?hr ?_; (case hd => rfl); (case hg => rfl); (case hr => first | (go_simp; done) | (go_simp; rfl)); intro g2 hg w8 hbox hb; have n1_ := Aside0.mk hbox; have n2_ := Aside0.mk ((by rw [hg]; exact (below_size (hb_)) : w.heap.size ≤ g2)); have n3_ := Aside0.mk (Kd.R_below (rk_ HO.out) hb); have n0_ := Aside0.mk (below_step (hb_) hb); clear HB HO; have HB := n0_; have BK2 := n1_; have GE2 := n2_; have HO := n3_; clear n0_ n1_ n2_ n3_; clear hb hbox hg; have hcz8 : w8.cell? ⟨g2, 0, none⟩ = some (.slice none 0 0) := (blk_cell BK2.out 0).trans rfl; have hfz8 := blk_frozen BK2.out 0; have hczg8 : w8.cell? ⟨g, 0, none⟩ = some (.slice As s1.length cs) := (blk_cell (HST.out.below HB.out).blk 0).trans rfl; have hfzg8 := blk_frozen (HST.out.below HB.out).blk 0; have hn8 : g ≠ g2 := (by have h1_ := blk_lt HST.out.blk; have h2_ := GE2.out; omega); have hm8 : g2 ≠ g := hn8.symm) | ((with_reducible refine gate_callee (f := 41) rfl ?_); refine goesL_ (some 16) rfl rfl Try.func41 (by kernel_rfl) rfl #[.slice As s1.length cs, .func (.func 42) #[] #[.pointer (some ⟨g2, 0, none⟩)]] rfl ga_ ?_; have HB9 : Aside0 (Below w.heap.size w ((w8.setCell ⟨g2, 0, none⟩ (.slice A3_ t3.length c3_)))) := ⟨below_set HB.out GE2.out⟩; have BK9 := Aside0.mk (blk_set BK2.out 0 (.slice A3_ t3.length c3_)); have HO9 := Aside0.mk (Kd.R_set (HO.out) BK2.out (by decide) 0 (.slice A3_ t3.length c3_)); have HS9 := Aside0.mk (HST.out.below HB9.out); (refine (slices_ContainsFunc_int_int_41.calls k As cs s1 g2 A3_ c3_ t3 true _ ?side1 ?side2 ?side3 ?side4 ?side5 A4.out).mono ?_); (case side1 => exact Kd.C_below (Kd.S_reads' HS9.out.row).2.2 (by repeat (first | exact Below.refl _ _ | apply below_alloc | apply pw_below_drewN | apply below_drew1))); (case side2 => exact (Kd.S_reads' HS9.out.row).2.1); (case side3 => exact Kd.C_below (Kd.R_reads' HO9.out).2.2 (by repeat (first | exact Below.refl _ _ | apply below_alloc | apply pw_below_drewN | apply below_drew1))); (case side4 => exact (Kd.R_reads' HO9.out).2.1); (case side5 => exact blk_below BK9.out (by repeat (first | exact Below.refl _ _ | apply below_alloc | apply pw_below_drewN | apply below_drew1))); rintro e w10 ⟨rfl, hb⟩; refine ⟨_, rfl, ?_⟩; have n0_ := Aside0.mk (below_step (show Below w.heap.size w _ from (by repeat (first | exact HB9.out | apply below_alloc | apply pw_below_drewN | apply below_drew1))) hb); have n1_ := Aside0.mk (Kd.R_below (rk_ HO9.out) hb); have n2_ := Aside0.mk (blk_below (show _ = some (.cells #[.slice A3_ t3.length c3_] 33 (0, 0)) from BK9.out) hb); clear HB HO BK2 BK9 HO9 HS9 HB9; have HB := n0_; have HO := n1_; have BK2 := n2_; clear n0_ n1_ n2_ hb; have HS1 := Aside0.mk (HST.out.below HB.out); have hcz10 : w10.cell? ⟨g2, 0, none⟩ = some (.slice A3_ t3.length c3_) := (blk_cell BK2.out 0).trans rfl; have hczg10 : w10.cell? ⟨g, 0, none⟩ = some (.slice As s1.length cs) := (blk_cell HS1.out.blk 0).trans rfl; have hfzg10 := blk_frozen HS1.out.blk 0; have hnx := Aside0.mk (Kd.R_apart' HO.out (Kd.S_typed HS1.out.row) (by decide))))
        first | go_end0 | ((try simp only [Exit.inBlock, Exit.then]); refine bodyPost_ret (results_none rfl _ _ _) rfl ?_)
        exact ⟨rfl, _, HST.out.below (by repeat (first | exact HB.out | apply below_alloc | apply pw_below_drewN | apply below_drew1))⟩
      · replace c4 := Bool.eq_false_iff.mpr c4
        subst c4
        rw [if_neg (show ¬ (false = true) by decide)] at H
        by_cases c13 : s1.length < 5000000000000
        · rw [if_pos c13] at H
          have c13 := Aside0.mk c13
          obtain rfl := Option.some.inj H
          clear H
          go_enter Try.func40, Try.ntmps40
          go_wp2_with (first | ((with_reducible refine gate_callee (f := 31) rfl ?_); refine goesL_ (some 5) rfl rfl Try.func31 (by kernel_rfl) rfl #[.slice A0 l0.length c0] rfl ga_ ?_; (with_reducible refine (impl_areNumbers.calls k _ _ l0 true _ ?side1 ?side2 A1.out).mono ?_); (case side1 => exact Kd.C_below HR0.out (hb_)); (case side2 => exact HC0.out); rintro e w5 ⟨rfl, hb⟩; refine ⟨_, rfl, ?_⟩; have n0_ := Aside0.mk (below_step (hb_) hb); clear HB; have HB := n0_; clear n0_; (try clear hb)) | (go_at_call 32; (with_reducible refine (impl_areAround.calls k _ _ l0 true _ ?side1 ?side2 A2.out).mono ?_); (case side1 => exact Kd.C_below HR0.out (hb_)); (case side2 => exact HC0.out); rintro e w6 ⟨rfl, hb⟩; have n0_ := Aside0.mk (below_step (hb_) hb); clear HB; have HB := n0_; clear n0_; (try clear hb)) | ((with_reducible refine gate_callee (f := 33) rfl ?_); refine goesL_ (some 13) rfl rfl Try.func33 (by kernel_rfl) rfl #[.slice A0 l0.length c0] rfl ga_ ?_; (with_reducible refine (impl_leastNumbers.calls k (fun k_ => k_ < w.heap.size) _ _ l0 t3 _ ?side1 A3.out).mono ?_); (case side1 => exact Kd.V_mk HC0.out (Kd.F_below (Kd.C_F (Kd.heap_int .i64) HR0.out) (hb_))); rintro e w7 ⟨v3, rfl, ho, hb⟩; refine ⟨_, rfl, ?_⟩; have n1_ := Aside0.mk (Kd.R_lower (Kd.R_mono (ok' := fun _ => True) ho (fun _ _ => trivial)) (below_size (hb_))); have n0_ := Aside0.mk (below_step (hb_) hb); clear HB; have HB := n0_; clear n0_; (try clear hb); have HO := n1_; clear n1_ ho; obtain ⟨A3_, c3_, e3_⟩ := Kd.R_slice HO.out; subst e3_) | ((with_reducible refine gate_dst (N := 3) rfl ?_); refine box_event ?hg (N := 3) ?hd (cs := #[.slice none 0 0]) (t := 33) ?hr ?_; (case hd => rfl); (case hg => rfl); (case hr => first | (go_simp; done) | (go_simp; rfl)); intro g2 hg w8 hbox hb; have n1_ := Aside0.mk hbox; have n2_ := Aside0.mk ((by rw [hg]; exact (below_size (hb_)) : w.heap.size ≤ g2)); have n3_ := Aside0.mk (Kd.R_below (rk_ HO.out) hb); have n0_ := Aside0.mk (below_step (hb_) hb); clear HB HO; have HB := n0_; have BK2 := n1_; have GE2 := n2_; have HO := n3_; clear n0_ n1_ n2_ n3_; clear hb hbox hg; have hcz8 : w8.cell? ⟨g2, 0, none⟩ = some (.slice none 0 0) := (blk_cell BK2.out 0).trans rfl; have hfz8 := blk_frozen BK2.out 0; have hczg8 : w8.cell? ⟨g, 0, none⟩ = some (.slice As s1.length cs) := (blk_cell (HST.out.below HB.out).blk 0).trans rfl; have hfzg8 := blk_frozen (HST.out.below HB.out).blk 0; have hn8 : g ≠ g2 := (by have h1_ := blk_lt HST.out.blk; have h2_ := GE2.out; omega); have hm8 : g2 ≠ g := hn8.symm) | ((with_reducible refine gate_callee (f := 41) rfl ?_); refine goesL_ (some 16) rfl rfl Try.func41 (by kernel_rfl) rfl #[.slice As s1.length cs, .func (.func 42) #[] #[.pointer (some ⟨g2, 0, none⟩)]] rfl ga_ ?_; have HB9 : Aside0 (Below w.heap.size w ((w8.setCell ⟨g2, 0, none⟩ (.slice A3_ t3.length c3_)))) := ⟨below_set HB.out GE2.out⟩; have BK9 := Aside0.mk (blk_set BK2.out 0 (.slice A3_ t3.length c3_)); have HO9 := Aside0.mk (Kd.R_set (HO.out) BK2.out (by decide) 0 (.slice A3_ t3.length c3_)); have HS9 := Aside0.mk (HST.out.below HB9.out); (refine (slices_ContainsFunc_int_int_41.calls k As cs s1 g2 A3_ c3_ t3 false _ ?side1 ?side2 ?side3 ?side4 ?side5 A4.out).mono ?_); (case side1 => exact Kd.C_below (Kd.S_reads' HS9.out.row).2.2 (by repeat (first | exact Below.refl _ _ | apply below_alloc | apply pw_below_drewN | apply below_drew1))); (case side2 => exact (Kd.S_reads' HS9.out.row).2.1); (case side3 => exact Kd.C_below (Kd.R_reads' HO9.out).2.2 (by repeat (first | exact Below.refl _ _ | apply below_alloc | apply pw_below_drewN | apply below_drew1))); (case side4 => exact (Kd.R_reads' HO9.out).2.1); (case side5 => exact blk_below BK9.out (by repeat (first | exact Below.refl _ _ | apply below_alloc | apply pw_below_drewN | apply below_drew1))); rintro e w10 ⟨rfl, hb⟩; refine ⟨_, rfl, ?_⟩; have n0_ := Aside0.mk (below_step (show Below w.heap.size w _ from (by repeat (first | exact HB9.out | apply below_alloc | apply pw_below_drewN | apply below_drew1))) hb); have n1_ := Aside0.mk (Kd.R_below (rk_ HO9.out) hb); have n2_ := Aside0.mk (blk_below (show _ = some (.cells #[.slice A3_ t3.length c3_] 33 (0, 0)) from BK9.out) hb); clear HB HO BK2 BK9 HO9 HS9 HB9; have HB := n0_; have HO := n1_; have BK2 := n2_; clear n0_ n1_ n2_ hb; have HS1 := Aside0.mk (HST.out.below HB.out); have hcz10 : w10.cell? ⟨g2, 0, none⟩ = some (.slice A3_ t3.length c3_) := (blk_cell BK2.out 0).trans rfl; have hczg10 : w10.cell? ⟨g, 0, none⟩ = some (.slice As s1.length cs) := (blk_cell HS1.out.blk 0).trans rfl; have hfzg10 := blk_frozen HS1.out.blk 0; have hnx := Aside0.mk (Kd.R_apart' HO.out (Kd.S_typed HS1.out.row) (by decide))) | ((with_reducible refine gate_builtin (b := .append) (xs := #[.tmp 18, .tmp 20]) rfl ?_); (try (refine gate_guard (by rfl) ?_; dsimp only)); at_builtin; refine Kd.S_append kk33 (w0 := w10) base rfl (.tmp 18) (.tmp 20) 22 33 (.slice none 0 0) 24 rfl Try.underlying22 infoS33 rfl (by decide) (by omega) (.slice As s1.length cs) s1 t3 [.slice A3_ t3.length c3_] (fun _ => True) (fun k_ => some k_ = (Value.slice A3_ t3.length c3_).ownBlock) rfl rfl ?aP ?aK (fun _ _ => trivial) ?aO ?aB ?aS ?aL ?_; (case aP => exact ⟨_, rfl, Kd.R_lower (Kd.R_tight rfl HO.out) HBS.out⟩); (case aK => exact fun k_ hk => ⟨trivial, (hnx.out.1 k_ hk.symm).2⟩); (case aO => exact Kd.S_mono (Kd.S_below (Kd.S_bound HST.out.row) HB.out) (fun k_ hk => ⟨trivial, fun he => by have h1_ := Kd.R_base HO.out k_ he.symm; have h2_ := hk.2.2.1; omega⟩)); (case aB => exact Below.refl _ _); (case aS => exact Nat.le_trans HBS.out (below_size HB.out)); (case aL => have := c13.out; omega); intro v300 w300 ho hb hg hat; obtain ⟨AoY, coY, eoY⟩ := Kd.R_slice (Kd.S_R ho); rw [show (s1 ++ [t3]).length = s1.length + 1 by simp] at eoY; subst eoY; have hb1 : w300.heap[g]? = some (.cells #[.slice As s1.length cs] 22 (0, 0)) := blk_grown HS1.out.blk hg (Kd.S_ne HS1.out.row HS1.out.blk (by decide)); have HS2 := Aside0.mk (HS1.out.push ho ⟨hb.os, hb.tape, hb.output, hb.size, fun k hk => absurd hk (Nat.not_lt_zero k)⟩ hg hat); have hcz300 : w300.cell? ⟨g, 0, none⟩ = some (.slice As s1.length cs) := (blk_cell hb1 0).trans rfl; have hfz300 := blk_frozen hb1 0; clear ho hb hg hat hb1))
          first | go_end0 | ((try simp only [Exit.inBlock, Exit.then]); refine bodyPost_ret (results_none rfl _ _ _) rfl ?_)
          exact ⟨rfl, _, HS2.out⟩
        · rw [if_neg c13] at H
          cases H
    · replace c2 := Bool.eq_false_iff.mpr c2
      subst c2
      rw [if_neg (show ¬ (false = true) by decide)] at H
      obtain rfl := Option.some.inj H
      clear H
      go_enter Try.func40, Try.ntmps40
      go_wp2_with (first | ((with_reducible refine gate_callee (f := 31) rfl ?_); refine goesL_ (some 5) rfl rfl Try.func31 (by kernel_rfl) rfl #[.slice A0 l0.length c0] rfl ga_ ?_; (with_reducible refine (impl_areNumbers.calls k _ _ l0 true _ ?side1 ?side2 A1.out).mono ?_); (case side1 => exact Kd.C_below HR0.out (hb_)); (case side2 => exact HC0.out); rintro e w5 ⟨rfl, hb⟩; refine ⟨_, rfl, ?_⟩; have n0_ := Aside0.mk (below_step (hb_) hb); clear HB; have HB := n0_; clear n0_; (try clear hb)) | (go_at_call 32; (with_reducible refine (impl_areAround.calls k _ _ l0 false _ ?side1 ?side2 A2.out).mono ?_); (case side1 => exact Kd.C_below HR0.out (hb_)); (case side2 => exact HC0.out); rintro e w6 ⟨rfl, hb⟩; have n0_ := Aside0.mk (below_step (hb_) hb); clear HB; have HB := n0_; clear n0_; (try clear hb)))
      first | go_end0 | ((try simp only [Exit.inBlock, Exit.then]); refine bodyPost_ret (results_none rfl _ _ _) rfl ?_)
      exact ⟨rfl, _, HST.out.below (by repeat (first | exact HB.out | apply below_alloc | apply pw_below_drewN | apply below_drew1))⟩
  · replace c1 := Bool.eq_false_iff.mpr c1
    subst c1
    rw [if_neg (show ¬ (false = true) by decide)] at H
    obtain rfl := Option.some.inj H
    clear H
    go_enter Try.func40, Try.ntmps40
    go_wp2_with (first | ((with_reducible refine gate_callee (f := 31) rfl ?_); refine goesL_ (some 5) rfl rfl Try.func31 (by kernel_rfl) rfl #[.slice A0 l0.length c0] rfl ga_ ?_; (with_reducible refine (impl_areNumbers.calls k _ _ l0 false _ ?side1 ?side2 A1.out).mono ?_); (case side1 => exact Kd.C_below HR0.out (hb_)); (case side2 => exact HC0.out); rintro e w5 ⟨rfl, hb⟩; refine ⟨_, rfl, ?_⟩; have n0_ := Aside0.mk (below_step (hb_) hb); clear HB; have HB := n0_; clear n0_; (try clear hb)))
    first | go_end0 | ((try simp only [Exit.inBlock, Exit.then]); refine bodyPost_ret (results_none rfl _ _ _) rfl ?_)
    exact ⟨rfl, _, HST.out.below (by repeat (first | exact HB.out | apply below_alloc | apply pw_below_drewN | apply below_drew1))⟩
/-! ### impl_lists: function 44 (a contract by hand: the closure's variable as a state) -/
mutual
def impl_lists.l0 : Nat → List Int → Int → List (List Int) → Int → Option (List (List Int))
  | 0, _, _, _, _ => none
  | k + 1, x0, x1, x5, x6 => if x6 ≤ 2 then (if x0.length < 17592186044416 then ((impl_lists.f k (x0 ++ [x6]) x1 x5).bind fun t232 => (impl_lists.l0 k x0 x1 t232 (wrap64 (x6 + 1)))) else (none)) else (some x5)
def impl_lists.f : Nat → List Int → Int → List (List Int) → Option (List (List Int))
  | 0, _, _, _ => none
  | k + 1, l0, a1, a2 => if (l0.length : Int) = a1 then ((impl_allAround_1.f k l0 a2).bind fun t228 => (some t228)) else (impl_lists.l0 k l0 a1 a2 (-6))
end
theorem impl_lists.mono_l : ∀ k, (∀ y0 y1 y2, LeO (impl_lists.f k y0 y1 y2) (impl_lists.f (k + 1) y0 y1 y2)) ∧ (∀ y0 y1 y2 y3, LeO (impl_lists.l0 k y0 y1 y2 y3) (impl_lists.l0 (k + 1) y0 y1 y2 y3))
  | 0 => ⟨fun _ _ _ r h => by simp [impl_lists.f] at h, fun _ _ _ _ r h => by simp [impl_lists.l0] at h⟩
  | k + 1 => by
    obtain ⟨ih0, ih1⟩ := impl_lists.mono_l k
    refine ⟨?_, ?_⟩
    · intro y0 y1 y2
      unfold impl_lists.f
      repeat' first
      | (with_reducible exact ih0 _ _ _)
      | (with_reducible exact ih1 _ _ _ _)
      | (with_reducible exact impl_allAround_1.mono _ _ _)
      | (with_reducible exact LeO.refl _)
      | (with_reducible exact LeO.none _)
      | (with_reducible refine LeO.ite ?_ ?_)
      | (with_reducible refine LeO.bind ?_ (fun _ => ?_))
      | exact ih0 _ _ _
      | exact ih1 _ _ _ _
      | exact impl_allAround_1.mono _ _ _
      | exact LeO.none _
      | refine LeO.ite ?_ ?_
      | refine LeO.bind ?_ (fun _ => ?_)
    · intro y0 y1 y2 y3
      unfold impl_lists.l0
      repeat' first
      | (with_reducible exact ih0 _ _ _)
      | (with_reducible exact ih1 _ _ _ _)
      | (with_reducible exact impl_allAround_1.mono _ _ _)
      | (with_reducible exact LeO.refl _)
      | (with_reducible exact LeO.none _)
      | (with_reducible refine LeO.ite ?_ ?_)
      | (with_reducible refine LeO.bind ?_ (fun _ => ?_))
      | exact ih0 _ _ _
      | exact ih1 _ _ _ _
      | exact impl_allAround_1.mono _ _ _
      | exact LeO.none _
      | refine LeO.ite ?_ ?_
      | refine LeO.bind ?_ (fun _ => ?_)
theorem impl_lists.mono : ∀ a0 a1 a2 k, LeO (impl_lists.f k a0 a1 a2) (impl_lists.f (k + 1) a0 a1 a2) := by
  intro a0 a1 a2 k
  obtain ⟨ih0, ih1⟩ := impl_lists.mono_l k
  exact ih0 a0 a1 a2
set_option maxHeartbeats 8000000 in
set_option maxRecDepth 100000 in
theorem impl_lists.calls (k : Nat) : ∀ (A0 : Option Addr) (c0 : Nat) (l0 : List Int) (a1 : Int) (g base : Nat) (vO0 : Value) (a2 r : List (List Int)) (w : World) (hr0 : ∀ W', KeepBut w W' g vO0.ownBlock → Kd.C (Kd.int .i64) W' A0 l0.length l0) (hc0 : l0.length ≤ c0) (hbase : base ≤ w.heap.size) (hst : RowsSt w w g base vO0 vO0 a2) (h : impl_lists.f k l0 a1 a2 = some r),
    Calls Try.prog 44 #[.slice A0 l0.length c0, .int .i64 a1, .func (.func 40) #[] #[.pointer (some ⟨g, 0, none⟩)]] w fun e w' => e = .returned (.tuple #[]) ∧ ∃ vO' : Value, RowsSt w w' g base vO0 vO' r := by
  induction k using Nat.strongRecOn with
  | _ k ih =>
  intro A0 c0 l0 a1 g base vO0 a2 r w hr0 hc0 hbase hst h
  cases k with
  | zero => exact absurd h (by simp [impl_lists.f])
  | succ k =>
  simp only [impl_lists.f] at h
  have HF0 := Aside0.mk hr0
  have HR0 := Aside0.mk (hr0 w (KeepBut.refl _ _ _))
  have HC0 := Aside0.mk hc0
  have HBS := Aside0.mk hbase
  have HST := Aside0.mk hst
  clear hr0 hc0 hbase hst
  have ih := Aside0.mk ih
  have HB := Aside0.mk (Below.refl w.heap.size w)
  have H : (if (l0.length : Int) = a1 then ((impl_allAround_1.f k l0 a2).bind fun t228 => (some t228)) else (impl_lists.l0 k l0 a1 a2 (-6))) = some r := h
  clear h
  by_cases c4 : (l0.length : Int) = a1
  · rw [if_pos c4] at H
    have c4b0 : ((l0.length : Int) == a1) = true := beq_iff_eq.mpr c4
    have c4b1 : ((l0.length : Int) != a1) = false := bne_eq_false_iff_eq.mpr c4
    clear c4
    replace H := Option.bind_eq_some_iff.mp H
    obtain ⟨t228, A50, H⟩ := H
    replace H : (some t228) = some r := H
    have A5 := Aside0.mk A50
    clear A50
    obtain rfl := Option.some.inj H
    go_enter Try.func44, Try.ntmps44
    go_wp2_with (first | ((with_reducible refine gate_via (s := 11) rfl ?_); refine goesD_ (some 13) rfl rfl (f := 40) Try.func40 (by kernel_rfl) rfl #[.slice A0 l0.length c0] #[.pointer (some ⟨g, 0, none⟩)] #[.slice A0 l0.length c0, .pointer (some ⟨g, 0, none⟩)] rfl rfl rfl (by (try simp only [List.map_toArray, List.map_cons, List.map_nil]); first | done | rfl) ?_; have HS1 := Aside0.mk (HST.out.below (hb_)); (refine (impl_allAround_1.calls k _ _ l0 g base _ a2 t228 _ ?side1 ?side2 ?side3 HS1.out.self A5.out).mono ?_); (case side1 => exact Kd.C_below HR0.out (hb_)); (case side2 => exact HC0.out); (case side3 => exact Nat.le_trans HBS.out (below_size (hb_))); rintro e w13 ⟨rfl, v301, hs⟩; refine ⟨_, rfl, ?_⟩; have HS3 := Aside0.mk (HS1.out.then_ hs); clear hs HB))
    first | go_end0 | ((try simp only [Exit.inBlock, Exit.then]); refine bodyPost_ret (results_none rfl _ _ _) rfl ?_)
    exact ⟨rfl, v301, HS3.out.below (by repeat (first | exact Below.refl _ _ | apply below_alloc | apply pw_below_drewN | apply below_drew1))⟩
  · rw [if_neg c4] at H
    have c4b0 : ((l0.length : Int) == a1) = false := beq_eq_false_iff_ne.mpr c4
    have c4b1 : ((l0.length : Int) != a1) = true := bne_iff_ne.mpr c4
    have H' := Aside0.mk H
    clear H
    go_enter Try.func44, Try.ntmps44
    go_wp2
    go_loopg [6] k (fun kq v6 w' => ∃ (x5_1 : List (List Int)) (vO : Value) (x6_1 : Int), v6 = .int .i64 x6_1 ∧ Aside0 (impl_lists.l0 kq l0 a1 x5_1 x6_1 = some r) ∧ Aside0 (kq ≤ k) ∧ Aside0 (RowsSt w w' g base vO0 vO x5_1))
    case atStart => exact ⟨a2, vO0, (-6), (by first | rfl | (simp; done) | (simp [*]; done)), H', ⟨Nat.le_refl _⟩, ⟨HST.out.below (hb_)⟩⟩
    case round =>
      clear H'
      try clear p2
      try clear c4
      try clear c4b0
      try clear c4b1
      obtain ⟨x5_1, vO, x6_1, rfl, HA, HK1, HST⟩ := hrel
      have HR0' := Aside0.mk (HF0.out wr HST.out.keep)
      have HWR := Aside0.mk (Nat.le_trans HBS.out HST.out.keep.1)
      clear HR0 HB
      have HR0 := HR0'
      have HB := Aside0.mk (Below.refl wr.heap.size wr)
      clear HR0'
      cases gk with
      | zero => exact absurd HA.out (by simp [impl_lists.l0])
      | succ k1 =>
        have H := HA.out
        clear HA
        simp only [impl_lists.l0] at H
        by_cases c6 : x6_1 ≤ 2
        · rw [if_pos c6] at H
          have c6b0 : decide (x6_1 ≤ 2) = true := decide_eq_true c6
          clear c6
          by_cases c7 : l0.length < 17592186044416
          · rw [if_pos c7] at H
            have c7b0 := eq_true c7
            have c7b1 : decide (l0.length < 17592186044416) = true := decide_eq_true c7
            clear c7
            obtain ⟨y229, hy229⟩ : ∃ y_ : List Int, y_ = (l0 ++ [x6_1]) := ⟨_, rfl⟩
            replace H : ((impl_lists.f k1 y229 a1 x5_1).bind fun t232 => (impl_lists.l0 k1 l0 a1 t232 (wrap64 (x6_1 + 1)))) = some r := by first | (rw [hy229]; with_reducible exact H) | (have H2_ := (Option.bind_some _ _).symm.trans H; rw [hy229]; with_reducible exact H2_) | (have H2_ := (Option.bind_some _ _).symm.trans H; with_reducible exact H2_) | with_reducible exact H | (rw [hy229]; exact H) | exact H
            have Ny229 := Aside0.mk hy229
            clear hy229
            replace H := Option.bind_eq_some_iff.mp H
            obtain ⟨t232, A80, H⟩ := H
            replace H : (impl_lists.l0 k1 l0 a1 t232 (wrap64 (x6_1 + 1))) = some r := H
            have A8 := Aside0.mk A80
            clear A80
            have H' := Aside0.mk H
            clear H
            obtain ⟨i09, hi09, _, _, _⟩ := info_parts info3
            have hcut9 := cut_cap (P := Try.prog) 33 3 .i64 .i64 Try.underlying33 hi09 A0 l0.length c0 (l0.length : Int) (l0.length : Int) rfl rfl (by exact HC0.out)
            clear hi09
            go_wp2_with (first | ((with_reducible refine gate_builtin (b := .append) (xs := #[.tmp 23, .tmp 25]) rfl ?_); at_builtin; refine R_capapp (Kd.int .i64) (fun x_ : Int => [.int .i64 x_]) ⟨fun _ => rfl, fun _ u_ hu_ => by simp at hu_; subst hu_; rfl, fun h_ => h_, fun _ _ _ _ => rfl⟩ rfl (.tmp 23) (.tmp 25) 33 3 (.int .i64 0) 8 rfl Try.underlying33 info3 rfl (by decide) (by omega) l0 x6_1 [.int .i64 x6_1] rfl rfl rfl rfl ?aC (by have h_ : l0.length < 17592186044416 := odt_; omega) ?_; (case aC => repeat (first | exact (Kd.C_below HR0.out HB.out) | (with_reducible refine Kd.C_alloc ?_ _) | (with_reducible refine Kd.C_drewN ?_ _) | (with_reducible refine Kd.C_drew ?_))); intro v230 w10 ho11 hb hg_ hnew_; clear hg_ hnew_; (first | rw [← Ny229.out] at ho11 | (simp only [Int.reduceToNat] at ho11; rw [← Ny229.out] at ho11)); have n0_ := Aside0.mk (Kd.R_lower ho11 (below_size (hb_))); have n1_ := Aside0.mk (below_step (hb_) hb); clear HB; have HO231 := n0_; have HB := n1_; clear n0_ n1_; clear hb ho11; obtain ⟨Ao12, co12, eo12⟩ := Kd.R_slice HO231.out; subst eo12) | ((with_reducible refine gate_callee (f := 44) rfl ?_); refine goesL_ (some 29) rfl rfl Try.func44 (by kernel_rfl) rfl #[.slice Ao12 y229.length co12, .int .i64 a1, .func (.func 40) #[] #[.pointer (some ⟨g, 0, none⟩)]] rfl ga_ ?_; have HS1 := Aside0.mk (HST.out.below (hb_)); have HBS1 := Aside0.mk (Nat.le_trans HWR.out (below_size (hb_))); (refine (ih.out k1 (by have := HK1.out; omega) _ _ y229 a1 g base _ x5_1 t232 _ (RowsSt.foot HS1.out (rk_ HO231.out)) (Kd.R_reads' HO231.out).2.1 HBS1.out HS1.out.self A8.out).mono ?_); rintro e w13 ⟨rfl, v301, hs⟩; refine ⟨_, rfl, ?_⟩; have HS3 := Aside0.mk (HS1.out.then_ hs); clear hs HB HO231))
            go_roundg k1
            case measure => have := HK1.out; omega
            case rel => exact ⟨t232, v301, (wrap64 (x6_1 + 1)), (by first | rfl | (simp; done) | (simp [*]; done)), H', ⟨by have := HK1.out; omega⟩, ⟨HS3.out.below (by repeat (first | exact Below.refl _ _ | apply below_alloc | apply pw_below_drewN | apply below_drew1))⟩⟩
          · rw [if_neg c7] at H
            exact absurd H (by simp)
        · rw [if_neg c6] at H
          have c6b0 : decide (x6_1 ≤ 2) = false := decide_eq_false c6
          clear c6
          obtain rfl := Option.some.inj H
          go_wp2
          first | go_end0 | ((try simp only [Exit.inBlock, Exit.then]); refine bodyPost_ret (results_none rfl _ _ _) rfl ?_)
          exact ⟨rfl, vO, HST.out.below (by repeat (first | exact Below.refl _ _ | apply below_alloc | apply pw_below_drewN | apply below_drew1))⟩
/-! ### impl_allAround: function 26 (a contract by hand) -/
theorem RowsSt.since {w0 w W : World} {g base : Nat} {u v : Value} {xs : List (List Int)} (h : RowsSt w W g base u v xs) (hB : Below w0.heap.size w0 w) (hg : w0.heap.size ≤ g) (hu : ∀ k, u.ownBlock = some k → w0.heap.size ≤ k) : Below w0.heap.size w0 W :=
  ⟨h.eff.os.trans hB.os, h.eff.tape.trans hB.tape, h.eff.output.trans hB.output, Nat.le_trans hB.size h.keep.1, fun k hk => (h.keep.2 k (Nat.lt_of_lt_of_le hk hB.size) (by omega) (fun e => by have := hu k e.symm; omega)).trans (hB.block k hk)⟩
/-- Rows that were made before the state's beginning, behind b, where the variable and its slice were made before b: they stay, one by one, too. -/
theorem lent_row {w W1 : World} {b g n c : Nat} {u : Value} {ad : Addr} {L : List (List Int)} (HL : Kd.S kk33 33 w b (fun _ => True) (.slice (some ad) n c) L) (hg : g < b) (hu : ∀ k, u.ownBlock = some k → k < b) (i : Int) (h0 : 0 ≤ i) (h1 : i < n) (hk1 : KeepBut w W1 g u.ownBlock) :
    ∃ A c', (L.getD i.toNat ([] : List Int)).length ≤ c' ∧ W1.cell? (ad.add i.toNat) = some (.slice A (L.getD i.toNat ([] : List Int)).length c') ∧ ∀ W', KeepBut w W' g u.ownBlock → Kd.C (Kd.int .i64) W' A (L.getD i.toNat ([] : List Int)).length (L.getD i.toNat ([] : List Int)) := by
  have hst : ∀ W', KeepBut w W' g u.ownBlock → Kd.S kk33 33 W' b (fun _ => True) (.slice (some ad) n c) L := fun W' hk => Kd.S_mono (Kd.S_step (Kd.S_bound HL) (w1 := W') (fun k hk' hlt => hk.2 k hlt (by have := hk'.2.1; omega) (fun e => by have := hu k e.symm; have := hk'.2.1; omega))) (fun _ _ => trivial)
  obtain ⟨cs, _, hM, hcell⟩ := Kd.S_get (Kd.S_bound HL) ([] : List Int) i h0 h1
  obtain ⟨v, rfl, hR⟩ := hM
  obtain ⟨A, c', rfl⟩ := Kd.R_slice hR
  have hc0 := hcell 0 _ rfl
  rw [Nat.add_zero, show kk33.sz = 1 from rfl, Nat.mul_one] at hc0
  refine ⟨A, c', (Kd.R_reads' hR).2.1, ?_, fun W' hk => (Kd.R_reads' (Kd.R_step hR (w1 := W') (fun k hk' hlt => hk.2 k hlt (by have := hk'.1.2.1; omega) (fun e => by have := hu k e.symm; have := hk'.1.2.1; omega)))).2.2⟩
  obtain ⟨cs2, _, hM2, hcell2⟩ := Kd.S_get (hst W1 hk1) ([] : List Int) i h0 h1
  have hb := World.block_lt_of_cell? w _ hc0
  have hown : (ad.add i.toNat).block = ad.block := add_block ad _
  have hbase : b ≤ ad.block := Kd.S_base HL ad.block rfl
  have heq : W1.heap[(ad.add i.toNat).block]? = w.heap[(ad.add i.toNat).block]? := hk1.2 _ hb (by rw [hown]; omega) (fun e => by rw [hown] at e; have := hu _ e.symm; omega)
  rw [World.cell?_of_block heq]
  exact hc0
mutual
def impl_allAround.l0 : Nat → Int → List (List Int) → List (List Int) → Int → Option (List (List Int))
  | 0, _, _, _, _ => none
  | k + 1, a0, o, x11, x19 => if x19 < (x11.length : Int) then (if 0 ≤ x19 then (impl_allAround.l1 k a0 o x11 x19 (x11.getD x19.toNat ([] : List Int)) 0) else (none)) else (if 0 < o.length then (if o.length < 4611686018427387904 then (some (sortN o)) else (none)) else (none))
def impl_allAround.l1 : Nat → Int → List (List Int) → List (List Int) → Int → List Int → Int → Option (List (List Int))
  | 0, _, _, _, _, _, _ => none
  | k + 1, a0, o, x11, x19, x6, x24 => if x24 < a0 then ((impl_withOne.f x6 x24).bind fun t3 => ((impl_allAround_1.f k t3 o).bind fun t4 => (impl_allAround.l1 k a0 t4 x11 x19 x6 (wrap64 (x24 + 1))))) else (impl_allAround.l0 k a0 o x11 (wrap64 (x19 + 1)))
end
def impl_allAround.e (o : List (List Int)) : Option (List (List Int)) := (if 0 < o.length then (if o.length < 4611686018427387904 then (some (sortN o)) else (none)) else (none))
def impl_allAround.f : Nat → Int → Option (List (List Int))
  | 0, _ => none
  | k + 1, a0 => if a0 ≤ 4 then ((impl_lists.f k ([] : List Int) a0 []).bind fun o => (if 0 < o.length then (if o.length < 4611686018427387904 then (some (sortN o)) else (none)) else (none))) else ((impl_allAround.f k (wrap64 (a0 - 1))).bind fun t1 => (impl_allAround.l0 k a0 [] t1 0))
theorem impl_allAround.mono_l : ∀ k, (∀ y0 y1 y2 y3, LeO (impl_allAround.l0 k y0 y1 y2 y3) (impl_allAround.l0 (k + 1) y0 y1 y2 y3)) ∧ (∀ y0 y1 y2 y3 y4 y5, LeO (impl_allAround.l1 k y0 y1 y2 y3 y4 y5) (impl_allAround.l1 (k + 1) y0 y1 y2 y3 y4 y5))
  | 0 => ⟨fun _ _ _ _ r h => by simp [impl_allAround.l0] at h, fun _ _ _ _ _ _ r h => by simp [impl_allAround.l1] at h⟩
  | k + 1 => by
    obtain ⟨ih0, ih1⟩ := impl_allAround.mono_l k
    refine ⟨?_, ?_⟩
    · intro y0 y1 y2 y3
      unfold impl_allAround.l0
      repeat' first
      | (with_reducible exact ih1 _ _ _ _ _ _)
      | (with_reducible exact LeO.refl _)
      | (with_reducible exact LeO.none _)
      | (with_reducible refine LeO.ite ?_ ?_)
    · intro y0 y1 y2 y3 y4 y5
      unfold impl_allAround.l1
      repeat' first
      | (with_reducible exact ih0 _ _ _ _)
      | (with_reducible exact ih1 _ _ _ _ _ _)
      | (with_reducible exact impl_allAround_1.mono _ _ _)
      | (with_reducible exact LeO.refl _)
      | (with_reducible exact LeO.none _)
      | (with_reducible refine LeO.ite ?_ ?_)
      | (with_reducible refine LeO.bind ?_ (fun _ => ?_))
theorem impl_allAround.mono : ∀ a0 k, LeO (impl_allAround.f k a0) (impl_allAround.f (k + 1) a0) := by
  intro a0 k
  induction k generalizing a0 with
  | zero => exact fun r h => by simp [impl_allAround.f] at h
  | succ k ih =>
    unfold impl_allAround.f
    repeat' first
      | (with_reducible exact ih _)
      | (with_reducible exact (impl_allAround.mono_l k).1 _ _ _ _)
      | (with_reducible exact impl_lists.mono _ _ _ _)
      | (with_reducible exact LeO.refl _)
      | (with_reducible refine LeO.ite ?_ ?_)
      | (with_reducible refine LeO.bind ?_ (fun _ => ?_))
set_option maxHeartbeats 8000000 in
set_option maxRecDepth 100000 in
theorem impl_allAround.calls (k : Nat) : ∀ (a0 : Int) (r : List (List Int)) (w : World) (h : impl_allAround.f k a0 = some r),
    Calls Try.prog 26 #[.int .i64 a0] w fun e w' => ∃ v0_ : Value, e = .returned (v0_) ∧ Kd.S (Kd.slice 3 (Kd.int .i64)) 33 w' w.heap.size (fun _ => True) v0_ r ∧ Below w.heap.size w w' := by
  induction k using Nat.strongRecOn with
  | _ k ih =>
  intro a0 r w h
  cases k with
  | zero => exact absurd h (by simp [impl_allAround.f])
  | succ k =>
  simp only [impl_allAround.f] at h
  have ih := Aside0.mk ih
  have HB := Aside0.mk (Below.refl w.heap.size w)
  have H : (if a0 ≤ 4 then ((impl_lists.f k ([] : List Int) a0 []).bind fun o => (if 0 < o.length then (if o.length < 4611686018427387904 then (some (sortN o)) else (none)) else (none))) else ((impl_allAround.f k (wrap64 (a0 - 1))).bind fun t1 => (impl_allAround.l0 k a0 [] t1 0))) = some r := h
  clear h
  by_cases c1 : a0 ≤ 4
  · rw [if_pos c1] at H
    have c1b0 : decide (a0 ≤ 4) = true := decide_eq_true c1
    clear c1
    replace H := Option.bind_eq_some_iff.mp H
    obtain ⟨t2, A20, H⟩ := H
    have A2 := Aside0.mk A20
    clear A20
    by_cases c20 : 0 < t2.length
    · rw [if_pos c20] at H
      have c20 := Aside0.mk c20
      by_cases c21 : t2.length < 4611686018427387904
      · rw [if_pos c21] at H
        have c21 := Aside0.mk c21
        obtain rfl := Option.some.inj H
        clear H
        go_enter Try.func26, Try.ntmps26
        go_wp2_with (first | ((with_reducible refine gate_dst (N := 8) rfl ?_); refine Kd.S_lits kk33 _ 33 ?hg (N := 8) ?hd (xs := ([] : List (List Int))) (inner := []) (ok := fun _ => True) (fun _ _ => False) ?hr (by simp) (by intro j x hx; simp at hx) (fun _ _ _ h_ => h_.elim) (fun _ _ h_ => h_.elim) trivial (Below.refl _ _) (Nat.le_refl _) (by simp) ?_; (case hd => rfl); (case hg => rfl); (case hr => first | (go_simp; done) | (go_simp; rfl)); intro vl wl hol hb hg_ hnew_; clear hg_ hnew_; have n0_ := Aside0.mk (Kd.S_lower hol (below_size (hb_))); have n1_ := Aside0.mk (below_step (hb_) hb); clear HB; have HOL := n0_; have HB := n1_; clear n0_ n1_; clear hb hol; obtain ⟨Al, cl, el⟩ := Kd.S_slice HOL.out; subst el) | ((with_reducible refine gate_dst (N := 3) rfl ?_); refine box_event ?hg (N := 3) ?hd (cs := #[.slice none 0 0]) (t := 22) ?hr ?_; (case hd => rfl); (case hg => rfl); (case hr => first | (go_simp; done) | (go_simp; rfl)); intro g hg wx hbox hb; have n0_ := Aside0.mk (below_step (hb_) hb); have n1_ := Aside0.mk hbox; have n2_ := Aside0.mk (Kd.S_below (by (with_reducible repeat (first | apply Kd.S_alloc | apply Kd.S_drewN | apply Kd.S_drew)); exact HOL.out) hb); have n3_ := Aside0.mk ((by rw [hg]; exact (below_size (hb_)) : w.heap.size ≤ g)); clear HB HOL; have HB0 := n0_; have BKG := n1_; have HOL := n2_; have GE2 := n3_; clear n0_ n1_ n2_ n3_; clear hb hbox hg; have hczb : wx.cell? ⟨g, 0, none⟩ = some (.slice none 0 0) := (blk_cell BKG.out 0).trans rfl; have hfzb := blk_frozen BKG.out 0; have HS0 := Aside0.mk (show RowsSt (wx.setCell ⟨g, 0, none⟩ (.slice Al 0 cl)) (wx.setCell ⟨g, 0, none⟩ (.slice Al 0 cl)) g w.heap.size (.slice Al 0 cl) (.slice Al 0 cl) [] from ⟨blk_set BKG.out 0 _, Kd.S_set HOL.out BKG.out (by decide) 0 _, KeepBut.refl _ _ _, Below.refl _ _, .inl rfl⟩); have HB := Aside0.mk (show Below w.heap.size w (wx.setCell ⟨g, 0, none⟩ (.slice Al 0 cl)) from below_set HB0.out GE2.out); have HU := Aside0.mk (show ∀ k_, (Value.slice Al 0 cl).ownBlock = some k_ → w.heap.size ≤ k_ from Kd.S_base HOL.out); clear HOL BKG HB0) | ((with_reducible refine gate_callee (f := 44) rfl ?_); refine goesL_ (some 14) rfl rfl Try.func44 (by kernel_rfl) rfl #[.slice none 0 0, .int .i64 a0, .func (.func 40) #[] #[.pointer (some ⟨g, 0, none⟩)]] rfl ga_ ?_; have HS1 := Aside0.mk (HS0.out.below (by repeat (first | exact Below.refl _ _ | apply below_alloc | apply pw_below_drewN | apply below_drew1))); (refine (impl_lists.calls k none 0 [] a0 g w.heap.size _ [] t2 _ (fun W' _ => Kd.C_nil (Kd.int .i64) W') (Nat.le_refl _) (below_size (hb_)) HS1.out.self A2.out).mono ?_); rintro e w7 ⟨rfl, v7, hs⟩; refine ⟨_, rfl, ?_⟩; have HS5 := Aside0.mk (HS1.out.then_ hs); clear hs HS1; obtain ⟨AoW, coW, eoW⟩ := Kd.R_slice (Kd.S_R HS5.out.row); subst eoW; have hcz5 : w7.cell? ⟨g, 0, none⟩ = some (.slice AoW t2.length coW) := (blk_cell HS5.out.blk 0).trans rfl; have hfz5 := blk_frozen HS5.out.blk 0) | ((with_reducible refine gate_callee (f := 46) rfl ?_); refine goesL_ (some 35) rfl rfl Try.func46 (by kernel_rfl) rfl #[.slice AoW t2.length coW, .func (.func 47) #[] #[]] rfl ga_ ?_; have HS6 := Aside0.mk (HS5.out.below (by repeat (first | exact Below.refl _ _ | apply below_alloc | apply pw_below_drewN | apply below_drew1))); (refine (sort_rows HS6.out.row c20.out c21.out).mono ?_); rintro e w8 ⟨rfl, hrow, hgr⟩; refine ⟨_, rfl, ?_⟩; have HROW := Aside0.mk hrow; have hb8 : w8.heap[g]? = some (.cells #[.slice AoW t2.length coW] 22 (0, 0)) := blk_grown HS6.out.blk hgr (Kd.S_ne HS6.out.row HS6.out.blk (by decide)); have HB8 := Aside0.mk (Below.grown (HS6.out.since HB.out GE2.out HU.out) hgr (Nat.le_trans HB.out.size HS6.out.keep.1) (fun k_ hk_ => Kd.S_base HS6.out.row k_ hk_)); have hcz8 : w8.cell? ⟨g, 0, none⟩ = some (.slice AoW t2.length coW) := (blk_cell hb8 0).trans rfl; have hfz8 := blk_frozen hb8 0; clear hrow hgr hb8))
        go_ret
        exact ⟨_, by first | rfl | (simp [errW_none, errW_some] <;> rfl) | (simp [*, errW_none, errW_some] <;> rfl), by (with_reducible repeat (first | apply Kd.S_alloc | apply Kd.S_drewN | apply Kd.S_drew)); exact HROW.out, by repeat (first | exact HB8.out | apply below_alloc | apply pw_below_drewN | apply below_drew1)⟩
      · rw [if_neg c21] at H
        cases H
    · rw [if_neg c20] at H
      cases H
  · rw [if_neg c1] at H
    have c1b0 : decide (a0 ≤ 4) = false := decide_eq_false c1
    clear c1
    replace H := Option.bind_eq_some_iff.mp H
    obtain ⟨t1, A10, H⟩ := H
    have A1 := Aside0.mk A10
    clear A10
    have H' := Aside0.mk H
    clear H
    go_enter Try.func26, Try.ntmps26
    go_wp2_with (first | ((with_reducible refine gate_dst (N := 8) rfl ?_); refine Kd.S_lits kk33 _ 33 ?hg (N := 8) ?hd (xs := ([] : List (List Int))) (inner := []) (ok := fun _ => True) (fun _ _ => False) ?hr (by simp) (by intro j x hx; simp at hx) (fun _ _ _ h_ => h_.elim) (fun _ _ h_ => h_.elim) trivial (Below.refl _ _) (Nat.le_refl _) (by simp) ?_; (case hd => rfl); (case hg => rfl); (case hr => first | (go_simp; done) | (go_simp; rfl)); intro vl wl hol hb hg_ hnew_; clear hg_ hnew_; have n0_ := Aside0.mk (Kd.S_lower hol (below_size (hb_))); have n1_ := Aside0.mk (below_step (hb_) hb); clear HB; have HOL := n0_; have HB := n1_; clear n0_ n1_; clear hb hol; obtain ⟨Al, cl, el⟩ := Kd.S_slice HOL.out; subst el) | ((with_reducible refine gate_dst (N := 3) rfl ?_); refine box_event ?hg (N := 3) ?hd (cs := #[.slice none 0 0]) (t := 22) ?hr ?_; (case hd => rfl); (case hg => rfl); (case hr => first | (go_simp; done) | (go_simp; rfl)); intro g hg wx hbox hb; have n0_ := Aside0.mk (below_step (hb_) hb); have n1_ := Aside0.mk hbox; have n2_ := Aside0.mk (Kd.S_below (by (with_reducible repeat (first | apply Kd.S_alloc | apply Kd.S_drewN | apply Kd.S_drew)); exact HOL.out) hb); have n3_ := Aside0.mk ((by rw [hg]; exact (below_size (hb_)) : w.heap.size ≤ g)); clear HB HOL; have HB0 := n0_; have BKG := n1_; have HOL := n2_; have GE2 := n3_; clear n0_ n1_ n2_ n3_; clear hb hbox hg; have hczb : wx.cell? ⟨g, 0, none⟩ = some (.slice none 0 0) := (blk_cell BKG.out 0).trans rfl; have hfzb := blk_frozen BKG.out 0; have HS0 := Aside0.mk (show RowsSt (wx.setCell ⟨g, 0, none⟩ (.slice Al 0 cl)) (wx.setCell ⟨g, 0, none⟩ (.slice Al 0 cl)) g w.heap.size (.slice Al 0 cl) (.slice Al 0 cl) [] from ⟨blk_set BKG.out 0 _, Kd.S_set HOL.out BKG.out (by decide) 0 _, KeepBut.refl _ _ _, Below.refl _ _, .inl rfl⟩); have HB := Aside0.mk (show Below w.heap.size w (wx.setCell ⟨g, 0, none⟩ (.slice Al 0 cl)) from below_set HB0.out GE2.out); have HU := Aside0.mk (show ∀ k_, (Value.slice Al 0 cl).ownBlock = some k_ → w.heap.size ≤ k_ from Kd.S_base HOL.out); clear HOL BKG HB0) | ((with_reducible refine gate_callee (f := 26) rfl ?_); refine goesL_ (some 17) rfl rfl Try.func26 (by kernel_rfl) rfl #[.int .i64 (wrap64 (a0 - 1))] rfl ga_ ?_; have HS1 := Aside0.mk (HS0.out.below (by repeat (first | exact Below.refl _ _ | apply below_alloc | apply pw_below_drewN | apply below_drew1))); have hgl := blk_lt HS1.out.blk; have hul := Kd.S_lt HS1.out.row; (refine (ih.out k (Nat.lt_succ_self k) (wrap64 (a0 - 1)) t1 _ A1.out).mono ?_); rintro e w17 ⟨vL, rfl, ho, hb⟩; refine ⟨_, rfl, ?_⟩; obtain ⟨AoL, coL, eoL⟩ := Kd.S_slice ho; subst eoL; have HL := Aside0.mk ho; have HLG := Aside0.mk hgl; have HLU := Aside0.mk hul; have HS17 := Aside0.mk ((HS1.out.below hb).self); have HB17 := Aside0.mk (below_step (hb_) hb); clear ho hb hgl hul HS1 HB))
    go_loopg [19] k (fun kq v19 w' => ∃ (x3_1 : List (List Int)) (vO : Value) (x19_1 : Int), v19 = .int .i64 x19_1 ∧ Aside0 (impl_allAround.l0 kq a0 x3_1 t1 x19_1 = some r) ∧ Aside0 (kq ≤ k) ∧ Aside0 (RowsSt w17 w' g w.heap.size (.slice Al 0 cl) vO x3_1))
    case atStart => exact ⟨[], .slice Al 0 cl, 0, (by first | rfl | (simp; done) | (simp [*]; done)), H', ⟨Nat.le_refl _⟩, ⟨HS17.out.below (by repeat (first | exact Below.refl _ _ | apply below_alloc | apply pw_below_drewN | apply below_drew1))⟩⟩
    case round =>
      clear H'
      obtain ⟨x3_1, vO, x19_1, rfl, HA, HK1, HST⟩ := hrel
      cases gk with
      | zero => exact absurd HA.out (by simp [impl_allAround.l0])
      | succ k1 =>
        have H := HA.out
        clear HA
        simp only [impl_allAround.l0] at H
        by_cases c3 : x19_1 < (t1.length : Int)
        · rw [if_pos c3] at H
          have c3b0 : decide (x19_1 < (t1.length : Int)) = true := decide_eq_true c3
          by_cases c4 : 0 ≤ x19_1
          · rw [if_pos c4] at H
            have H' := Aside0.mk H
            clear H
            obtain ⟨ad1, eA⟩ : ∃ ad, AoL = some ad := by
              obtain ⟨g_, cap_, e_, _⟩ := Kd.S_form HL.out (by omega)
              injection e_ with e1_ _ _
              exact ⟨_, e1_⟩
            subst eA
            obtain ⟨A6, c6, hl6, hx6, hr6⟩ := lent_row HL.out HLG.out HLU.out x19_1 c4 c3 HST.out.keep
            have HL6 := Aside0.mk hl6
            have HR6 := Aside0.mk hr6
            clear hl6 hr6
            generalize hrow : t1.getD x19_1.toNat ([] : List Int) = row6 at hx6 HL6 HR6 H'
            clear hrow
            have p6 := eq_true c4
            have q6 := eq_true c3
            clear c3 c4
            go_wp2
            go_loopg [24] k1 (fun kq v24 w' => ∃ (x3_2 : List (List Int)) (vO2 : Value) (x24_2 : Int), v24 = .int .i64 x24_2 ∧ Aside0 (impl_allAround.l1 kq a0 x3_2 t1 x19_1 row6 x24_2 = some r) ∧ Aside0 (kq ≤ k1) ∧ Aside0 (RowsSt w17 w' g w.heap.size (.slice Al 0 cl) vO2 x3_2))
            case atStart => exact ⟨x3_1, vO, 0, (by first | rfl | (simp; done) | (simp [*]; done)), H', ⟨Nat.le_refl _⟩, ⟨HST.out.below (by repeat (first | exact Below.refl _ _ | apply below_alloc | apply pw_below_drewN | apply below_drew1))⟩⟩
            case round =>
              clear H' p6 q6 c3b0 hx6 HST
              obtain ⟨x3_2, vO2, x24_2, rfl, HA, HK2, HST⟩ := hrel
              cases gk with
              | zero => exact absurd HA.out (by simp [impl_allAround.l1])
              | succ k2 =>
                have H := HA.out
                clear HA
                simp only [impl_allAround.l1] at H
                by_cases c7 : x24_2 < a0
                · rw [if_pos c7] at H
                  have c7b0 : decide (x24_2 < a0) = true := decide_eq_true c7
                  clear c7
                  replace H := Option.bind_eq_some_iff.mp H
                  obtain ⟨t3, A30, H⟩ := H
                  have A3 := Aside0.mk A30
                  clear A30
                  replace H := Option.bind_eq_some_iff.mp H
                  obtain ⟨t4, A40, H⟩ := H
                  have A4 := Aside0.mk A40
                  clear A40
                  have H' := Aside0.mk H
                  clear H
                  have HR6' := Aside0.mk (HR6.out wr HST.out.keep)
                  have HBW := Aside0.mk (Nat.le_trans HB17.out.size HST.out.keep.1)
                  have HB := Aside0.mk (Below.refl wr.heap.size wr)
                  go_wp2_with (first | ((with_reducible refine gate_callee (f := 45) rfl ?_); refine goesL_ (some 30) rfl rfl Try.func45 (by kernel_rfl) rfl #[.slice A6 row6.length c6, .int .i64 x24_2] rfl ga_ ?_; (refine (impl_withOne.calls _ _ row6 x24_2 t3 _ ?side1 ?side2 A3.out).mono ?_); (case side1 => exact Kd.C_below HR6'.out (hb_)); (case side2 => exact HL6.out); rintro e w30 ⟨v30, rfl, ho, hb⟩; refine ⟨_, rfl, ?_⟩; have n0_ := Aside0.mk (below_step (hb_) hb); clear HB; have HB := n0_; clear n0_ hb; have HO := Aside0.mk ho; clear ho; obtain ⟨A30_, c30_, e30_⟩ := Kd.R_slice HO.out; subst e30_) | ((with_reducible refine gate_via (s := 27) rfl ?_); refine goesD_ (some 31) rfl rfl (f := 40) Try.func40 (by kernel_rfl) rfl #[.slice A30_ t3.length c30_] #[.pointer (some ⟨g, 0, none⟩)] #[.slice A30_ t3.length c30_, .pointer (some ⟨g, 0, none⟩)] rfl rfl rfl (by (try simp only [List.map_toArray, List.map_cons, List.map_nil]); first | done | rfl) ?_; have HS1 := Aside0.mk (HST.out.below (hb_)); (refine (impl_allAround_1.calls k2 _ _ t3 g w.heap.size _ x3_2 t4 _ ?side1 ?side2 ?side3 HS1.out.self A4.out).mono ?_); (case side1 => exact Kd.C_below (Kd.R_reads' HO.out).2.2 (by repeat (first | exact Below.refl _ _ | apply below_alloc | apply pw_below_drewN | apply below_drew1))); (case side2 => exact (Kd.R_reads' HO.out).2.1); (case side3 => exact Nat.le_trans HBW.out (below_size (hb_))); rintro e w31 ⟨rfl, v301, hs⟩; refine ⟨_, rfl, ?_⟩; have HS3 := Aside0.mk (HS1.out.then_ hs); clear hs HB))
                  go_roundg k2
                  case measure => have := HK1.out; have := HK2.out; omega
                  case rel => exact ⟨t4, v301, (wrap64 (x24_2 + 1)), (by first | rfl | (simp; done) | (simp [*]; done)), H', ⟨by have := HK2.out; omega⟩, ⟨HS3.out.below (by repeat (first | exact Below.refl _ _ | apply below_alloc | apply pw_below_drewN | apply below_drew1))⟩⟩
                · rw [if_neg c7] at H
                  have c7b0 : decide (x24_2 < a0) = false := decide_eq_false c7
                  clear c7
                  have H' := Aside0.mk H
                  clear H
                  go_wp2
                  go_roundg k2
                  case measure => have := HK1.out; have := HK2.out; omega
                  case rel => exact ⟨x3_2, vO2, (wrap64 (x19_1 + 1)), (by first | rfl | (simp; done) | (simp [*]; done)), H', ⟨by have := HK1.out; have := HK2.out; omega⟩, ⟨HST.out.below (by repeat (first | exact Below.refl _ _ | apply below_alloc | apply pw_below_drewN | apply below_drew1))⟩⟩
          · rw [if_neg c4] at H
            cases H
        · rw [if_neg c3] at H
          have c3b0 : decide (x19_1 < (t1.length : Int)) = false := decide_eq_false c3
          clear c3
          by_cases c20 : 0 < x3_1.length
          · rw [if_pos c20] at H
            have c20 := Aside0.mk c20
            by_cases c21 : x3_1.length < 4611686018427387904
            · rw [if_pos c21] at H
              have c21 := Aside0.mk c21
              obtain rfl := Option.some.inj H
              clear H
              have HS5 := HST
              obtain ⟨AoW, coW, eoW⟩ := Kd.R_slice (Kd.S_R HS5.out.row)
              subst eoW
              have hcz5 : wr.cell? ⟨g, 0, none⟩ = some (.slice AoW x3_1.length coW) := (blk_cell HS5.out.blk 0).trans rfl
              have hfz5 := blk_frozen HS5.out.blk 0
              have HB := HB17
              go_wp2_with (first | ((with_reducible refine gate_callee (f := 46) rfl ?_); refine goesL_ (some 35) rfl rfl Try.func46 (by kernel_rfl) rfl #[.slice AoW x3_1.length coW, .func (.func 47) #[] #[]] rfl ga_ ?_; have HS6 := Aside0.mk (HS5.out.below (by repeat (first | exact Below.refl _ _ | apply below_alloc | apply pw_below_drewN | apply below_drew1))); (refine (sort_rows HS6.out.row c20.out c21.out).mono ?_); rintro e w8 ⟨rfl, hrow, hgr⟩; refine ⟨_, rfl, ?_⟩; have HROW := Aside0.mk hrow; have hb8 : w8.heap[g]? = some (.cells #[.slice AoW x3_1.length coW] 22 (0, 0)) := blk_grown HS6.out.blk hgr (Kd.S_ne HS6.out.row HS6.out.blk (by decide)); have HB8 := Aside0.mk (Below.grown (HS6.out.since HB.out GE2.out HU.out) hgr (Nat.le_trans HB.out.size HS6.out.keep.1) (fun k_ hk_ => Kd.S_base HS6.out.row k_ hk_)); have hcz8 : w8.cell? ⟨g, 0, none⟩ = some (.slice AoW x3_1.length coW) := (blk_cell hb8 0).trans rfl; have hfz8 := blk_frozen hb8 0; clear hrow hgr hb8))
              go_ret
              exact ⟨_, by first | rfl | (simp [errW_none, errW_some] <;> rfl) | (simp [*, errW_none, errW_some] <;> rfl), by (with_reducible repeat (first | apply Kd.S_alloc | apply Kd.S_drewN | apply Kd.S_drew)); exact HROW.out, by repeat (first | exact HB8.out | apply below_alloc | apply pw_below_drewN | apply below_drew1)⟩
            · rw [if_neg c21] at H
              cases H
          · rw [if_neg c20] at H
            cases H
/-! ### impl_AllAround: function 7 (a contract by hand) -/
def impl_AllAround.f (k : Nat) (a0 : Int) : Option (List (List Int) × Bool) := ((impl_within.f a0 3 9).bind fun t1 => (if t1 = true then ((impl_allAround.f k a0).bind fun t2 => (some (t2, true))) else (some ([], false))))
theorem impl_AllAround.mono : ∀ a0 k, LeO (impl_AllAround.f k a0) (impl_AllAround.f (k + 1) a0) := by
  intro a0 k
  unfold impl_AllAround.f
  repeat' first
      | (with_reducible exact impl_allAround.mono _ _)
      | (with_reducible exact LeO.refl _)
      | (with_reducible exact LeO.none _)
      | (with_reducible refine LeO.ite ?_ ?_)
      | (with_reducible refine LeO.bind ?_ (fun _ => ?_))
set_option maxHeartbeats 8000000 in
set_option maxRecDepth 100000 in
theorem impl_AllAround.calls (k : Nat) (a0 : Int) (r1 : List (List Int)) (r2 : Bool) (w : World) (h : impl_AllAround.f k a0 = some (r1, r2)) :
    Calls Try.prog 7 #[.int .i64 a0] w fun e w' => ∃ v0_ : Value, e = .returned (.tuple #[v0_, .bool r2]) ∧ Kd.S (Kd.slice 3 (Kd.int .i64)) 33 w' w.heap.size (fun _ => True) v0_ r1 ∧ Below w.heap.size w w' := by
  have HB := Aside0.mk (Below.refl w.heap.size w)
  have H : ((impl_within.f a0 3 9).bind fun t1 => (if t1 = true then ((impl_allAround.f k a0).bind fun t2 => (some (t2, true))) else (some ([], false)))) = some (r1, r2) := h
  clear h
  replace H := Option.bind_eq_some_iff.mp H
  obtain ⟨t1, A10, H⟩ := H
  have A1 := Aside0.mk A10
  clear A10
  by_cases c3 : t1 = true
  · subst c3
    rw [if_pos rfl] at H
    replace H := Option.bind_eq_some_iff.mp H
    obtain ⟨t2, A20, H⟩ := H
    have A2 := Aside0.mk A20
    clear A20
    simp only [Option.some.injEq, Prod.mk.injEq] at H
    obtain ⟨rfl, rfl⟩ := H
    go_enter Try.func7, Try.ntmps7
    go_wp2_with (first | ((with_reducible refine gate_callee (f := 25) rfl ?_); refine goesL_ (some 5) rfl rfl Try.func25 (by kernel_rfl) rfl #[.int .i64 a0, .int .i64 3, .int .i64 9] rfl ga_ ?_; (with_reducible refine (impl_within.calls a0 3 9 true _ A1.out).mono ?_); rintro e w5 ⟨rfl, hd⟩; refine ⟨_, rfl, ?_⟩; have hb := hd.below; clear hd; have n0_ := Aside0.mk (below_step (hb_) hb); clear HB; have HB := n0_; clear n0_; (try clear hb)) | ((with_reducible refine gate_callee (f := 26) rfl ?_); refine goesL_ (some 8) rfl rfl Try.func26 (by kernel_rfl) rfl #[.int .i64 a0] rfl ga_ ?_; (refine (impl_allAround.calls k a0 t2 _ A2.out).mono ?_); rintro e w6 ⟨v6, rfl, ho, hb⟩; refine ⟨_, rfl, ?_⟩; have n1_ := Aside0.mk (Kd.S_lower ho (below_size (hb_))); have n0_ := Aside0.mk (below_step (hb_) hb); clear HB; have HB := n0_; have HO := n1_; clear n0_ n1_ hb ho))
    go_ret2
    exact ⟨_, by first | rfl | (simp [errW_none, errW_some] <;> rfl) | (simp [*, errW_none, errW_some] <;> rfl), by (with_reducible repeat (first | apply Kd.S_alloc | apply Kd.S_drewN | apply Kd.S_drew)); exact HO.out, hb_⟩
  · replace c3 := Bool.eq_false_iff.mpr c3
    subst c3
    rw [if_neg (show ¬ (false = true) by decide)] at H
    simp only [Option.some.injEq, Prod.mk.injEq] at H
    obtain ⟨rfl, rfl⟩ := H
    go_enter Try.func7, Try.ntmps7
    go_wp2_with (first | ((with_reducible refine gate_callee (f := 25) rfl ?_); refine goesL_ (some 5) rfl rfl Try.func25 (by kernel_rfl) rfl #[.int .i64 a0, .int .i64 3, .int .i64 9] rfl ga_ ?_; (with_reducible refine (impl_within.calls a0 3 9 false _ A1.out).mono ?_); rintro e w5 ⟨rfl, hd⟩; refine ⟨_, rfl, ?_⟩; have hb := hd.below; clear hd; have n0_ := Aside0.mk (below_step (hb_) hb); clear HB; have HB := n0_; clear n0_; (try clear hb)))
    go_ret2
    exact ⟨_, by first | rfl | (simp [errW_none, errW_some] <;> rfl) | (simp [*, errW_none, errW_some] <;> rfl), Kd.S_nil _ _ _ _ _, hb_⟩

end Go.Proofs.Ytogafcjfaicpgaa.MC
