/- The program's FarthestApart returns what the reference's returns, for all arguments. No condition. -/
import Derived.Test.YtaclbccjcjdbpaaMFx0
import Derived.Test.YtaclbccjcjdbpaaMFx2
import Derived.Test.YtaclbccjcjdbpaaMFx3
import Derived.Test.YtaclbccjcjdbpaaMFx4
import Derived.Test.YtaclbccjcjdbpaaMFx5
import Derived.Test.YtaclbccjcjdbpaaMFx6
import Derived.Test.YtaclbccjcjdbpaaMFx7
import Derived.Test.YtaclbccjcjdbpaaMFx8
import Derived.Test.YtaclbccjcjdbpaaMFx9
import Derived.Test.YtaclbccjcjdbpaaMFx10
import Derived.Test.YtaclbccjcjdbpaaMFx11
import Derived.Test.YtaclbccjcjdbpaaMFx13
import Derived.Test.YtaclbccjcjdbpaaMFx14
import Derived.Test.YtaclbccjcjdbpaaMFx15
import Derived.Test.YtaclbccjcjdbpaaV
namespace Go.Proofs.Ytaclbccjcjdbpaa.Pure
open Go.RowKit Go.Proofs.YtaclbccjcjdbpaaV Go.Proofs.Ytaclbccjcjdbpaa.MF Go.Proofs.YtaclbccjcjdbpaaW.PrintWords Go.Proofs.YtaclbccjcjdbpaaW.PrintLast Go.Proofs.YtaclbccjcjdbpaaW.PrintMore

theorem in_eq (a lo hi : Int) : spec_l1In.f a lo hi = some (decide (lo ≤ a ∧ a ≤ hi)) := by
  unfold spec_l1In.f
  by_cases h : lo ≤ a
  · rw [if_pos h]; simp [h]
  · rw [if_neg h]; simp [h]

theorem within_eq (a lo hi : Int) : impl_within.f a lo hi = some (decide (lo ≤ a ∧ a ≤ hi)) := by
  unfold impl_within.f
  by_cases h : lo ≤ a
  · rw [if_pos h]; simp [h]
  · rw [if_neg h]; simp [h]

theorem w64 {x : Int} (h0 : -9223372036854775808 ≤ x) (h1 : x ≤ 9223372036854775807) : wrap64 x = x := by
  unfold wrap64
  omega

theorem mul_bd {x y : Int} (A B : Nat) (hx : -(A : Int) ≤ x ∧ x ≤ A) (hy : -(B : Int) ≤ y ∧ y ≤ B) : -((A * B : Nat) : Int) ≤ x * y ∧ x * y ≤ ((A * B : Nat) : Int) := by
  have h1 : x.natAbs ≤ A := by omega
  have h2 : y.natAbs ≤ B := by omega
  have h3 := Nat.mul_le_mul h1 h2
  rw [← Int.natAbs_mul] at h3
  omega

/-- A peg's numbers. -/
def pegP (x y : Int) : Prop := (-40 ≤ x ∧ x ≤ 40) ∧ (-40 ≤ y ∧ y ≤ 40)
instance (x y : Int) : Decidable (pegP x y) := by unfold pegP; infer_instance

theorem pgIs_eq (x y : Int) : spec_pgIs.f x y = some (decide (pegP x y)) := by
  unfold spec_pgIs.f pegP
  simp only [in_eq, Option.bind_some]
  by_cases c : -40 ≤ x ∧ x ≤ 40
  · simp [c]
  · simp [c]

theorem implIsPeg_eq (x y : Int) : impl_IsPeg.f x y = some (decide (pegP x y)) := by
  unfold impl_IsPeg.f pegP
  simp only [within_eq, Option.bind_some]
  by_cases c : -40 ≤ x ∧ x ≤ 40
  · simp [c]
  · simp [c]

theorem arePegs_loop (l : List S34) (hl : l.length ≤ 9223372036854775807) (d : Nat) : ∀ (k i : Nat), i + d = l.length → d < k →
    ∃ r, slices_IndexFunc_impl_Peg_impl_Peg.l0 k l (l.length : Int) (i : Int) = some r ∧ decide (r ≥ 0) = (l.drop i).any fun p => !decide (pegP p.f0 p.f1) := by
  induction d with
  | zero =>
    intro k i hi hk
    obtain ⟨k, rfl⟩ : ∃ m, k = m + 1 := ⟨k - 1, by omega⟩
    refine ⟨-1, ?_, ?_⟩
    · simp only [slices_IndexFunc_impl_Peg_impl_Peg.l0]; rw [if_neg (by omega)]
    · rw [List.drop_of_length_le (by omega)]; rfl
  | succ d ih =>
    intro k i hi hk
    obtain ⟨k, rfl⟩ : ∃ m, k = m + 1 := ⟨k - 1, by omega⟩
    have hlt : i < l.length := by omega
    have hd : l.drop i = l[i] :: l.drop (i + 1) := List.drop_eq_getElem_cons hlt
    have hr : rd_T34 l (i : Int) = l[i] := by
      unfold rd_T34
      simp [List.getD_eq_getElem?_getD, List.getElem?_eq_getElem hlt]
    simp only [slices_IndexFunc_impl_Peg_impl_Peg.l0]
    rw [if_pos (by omega), if_pos (by omega), if_pos (by omega), hr]
    unfold impl_arePegs_1.f
    simp only [implIsPeg_eq, Option.bind_some]
    by_cases c : pegP l[i].f0 l[i].f1
    · obtain ⟨r, h1, h2⟩ := ih k (i + 1) (by omega) (by omega)
      refine ⟨r, ?_, ?_⟩
      · rw [if_neg (by simp [c]), w64 (by omega) (by omega)]
        exact h1
      · rw [h2, hd, List.any_cons]; simp [c]
    · refine ⟨(i : Int), by rw [if_pos (by simp [c])], ?_⟩
      rw [hd, List.any_cons]
      simp [c]

theorem arePegs_eq (k : Nat) (l : List S34) (hl : l.length ≤ 9223372036854775807) (hk : l.length < k) : impl_arePegs.f k l = some (l.all fun p => decide (pegP p.f0 p.f1)) := by
  obtain ⟨r, h1, h2⟩ := arePegs_loop l hl l.length k 0 (by omega) hk
  unfold impl_arePegs.f slices_ContainsFunc_impl_Peg_impl_Peg.f slices_IndexFunc_impl_Peg_impl_Peg.f
  rw [show ((0 : Nat) : Int) = 0 from rfl] at h1
  rw [h1]
  simp only [Option.bind_some, h2, List.drop_zero]
  congr 1
  rw [List.all_eq_not_any_not]

def convPeg (p : S43) : S34 := ⟨p.f0, p.f1⟩

theorem toPegS_loop (l : List S43) (hl : l.length ≤ 1048576) (d : Nat) : ∀ (k i : Nat) (x : List S34), i + d = l.length → d < k → x.length = l.length → x.take i = (l.take i).map convPeg →
    laws_toPegS.l0 k l x (i : Int) = some (l.map convPeg) := by
  induction d with
  | zero =>
    intro k i x hi hk hx hp
    obtain ⟨k, rfl⟩ : ∃ m, k = m + 1 := ⟨k - 1, by omega⟩
    simp only [laws_toPegS.l0]
    rw [if_neg (by omega)]
    rw [List.take_of_length_le (by omega), List.take_of_length_le (by omega)] at hp
    rw [hp]
  | succ d ih =>
    intro k i x hi hk hx hp
    obtain ⟨k, rfl⟩ : ∃ m, k = m + 1 := ⟨k - 1, by omega⟩
    have hlt : i < l.length := by omega
    have hr : rd_T43 l (i : Int) = l[i] := by
      unfold rd_T43
      simp [List.getD_eq_getElem?_getD, List.getElem?_eq_getElem hlt]
    simp only [laws_toPegS.l0, laws_toPeg.f]
    rw [if_pos (by omega), if_pos (by omega), hr]
    simp only [Option.bind_some]
    rw [if_pos (by omega), w64 (by omega) (by omega)]
    refine ih k (i + 1) _ (by omega) (by omega) (by simpa using hx) ?_
    rw [Int.toNat_natCast, List.take_set, List.take_add_one, List.take_add_one, hp, List.getElem?_eq_getElem (by omega), List.getElem?_eq_getElem hlt]
    simp only [Option.toList_some, List.map_append, List.map_cons, List.map_nil]
    rw [List.set_append_right _ _ (by simp; omega)]
    simp [Nat.min_eq_left (Nat.le_of_lt hlt), convPeg]
theorem toPegS_eq (k : Nat) (l : List S43) (hl : l.length ≤ 1048576) (hk : l.length < k) : laws_toPegS.f k l = some (l.map convPeg) := by
  unfold laws_toPegS.f
  rw [if_pos (by omega), if_pos (by omega)]
  exact toPegS_loop l hl l.length k 0 _ (by omega) hk (by simp) (by simp)

theorem eqPegS_loop (l : List S34) (hl : l.length ≤ 1048576) (d : Nat) : ∀ (k i : Nat), i + d = l.length → d < k → laws_eqPegS.l0 k l l (i : Int) = some true := by
  induction d with
  | zero =>
    intro k i hi hk
    obtain ⟨k, rfl⟩ : ∃ m, k = m + 1 := ⟨k - 1, by omega⟩
    simp only [laws_eqPegS.l0]
    rw [if_neg (by omega)]
  | succ d ih =>
    intro k i hi hk
    obtain ⟨k, rfl⟩ : ∃ m, k = m + 1 := ⟨k - 1, by omega⟩
    simp only [laws_eqPegS.l0]
    rw [if_pos (by omega), if_pos (by omega), if_pos (by omega)]
    have e : ∀ a b : Int, laws_eqPeg.f a b a b = some true := fun a b => by simp [laws_eqPeg.f]
    rw [e, w64 (by omega) (by omega)]
    exact ih k (i + 1) (by omega) (by omega)
theorem eqPegS_self (k : Nat) (l : List S34) (hl : l.length ≤ 1048576) (hk : l.length < k) : laws_eqPegS.f k l l = some true := by
  unfold laws_eqPegS.f
  rw [if_pos rfl]
  exact eqPegS_loop l hl l.length k 0 (by omega) hk

def samePeg (p q : S34) : Bool := p.f0 == q.f0 && p.f1 == q.f1
def pegB (p : S34) : Bool := decide (pegP p.f0 p.f1)
def distFrom : List S34 → List S34 → Bool
  | _, [] => true
  | pre, p :: r => !(pre.any (samePeg p)) && distFrom (pre ++ [p]) r
/-- Different pegs, no more than 30 and at least one. -/
def goodB (l : List S34) : Bool := decide (1 ≤ l.length ∧ l.length ≤ 30) && (l.all pegB && distFrom [] l)
theorem rdPeg (pre r : List S34) (p : S34) : rd_T34 (pre ++ p :: r) (pre.length : Int) = p := by
  unfold rd_T34
  simp [List.getD_eq_getElem?_getD]

theorem bdGood_in (l : List S34) (n : Int) (p : S34) (pre : List S34) (hpre : pre.length ≤ 1048576) (K0 : Nat) (R : Bool) (i : Int)
    (hc : ∀ k, K0 ≤ k → spec_bdGood.l0 k l l n (wrap64 (i + 1)) = some R) (d : Nat) : ∀ (k j : Nat), j + d = pre.length → K0 + d + 1 ≤ k →
    spec_bdGood.l1 k l l n i pre (pre.length : Int) (j : Int) p.f0 p.f1 = some (!((pre.drop j).any (samePeg p)) && R) := by
  induction d with
  | zero =>
    intro k j hj hk
    obtain ⟨k, rfl⟩ : ∃ m, k = m + 1 := ⟨k - 1, by omega⟩
    simp only [spec_bdGood.l1]
    rw [if_neg (by omega), hc k (by omega), List.drop_of_length_le (by omega)]
    rfl
  | succ d ih =>
    intro k j hj hk
    obtain ⟨k, rfl⟩ : ∃ m, k = m + 1 := ⟨k - 1, by omega⟩
    have hlt : j < pre.length := by omega
    have hr : rd_T34 pre (j : Int) = pre[j] := by
      unfold rd_T34
      simp [List.getD_eq_getElem?_getD, List.getElem?_eq_getElem hlt]
    simp only [spec_bdGood.l1]
    rw [if_pos (by omega), if_pos (by omega), if_pos (by omega), hr, List.drop_eq_getElem_cons hlt, List.any_cons, show (p.f0 == pre[j].f0 && p.f1 == pre[j].f1) = samePeg p pre[j] from rfl]
    by_cases c : samePeg p pre[j] = true
    · rw [if_pos c, c]; rfl
    · rw [if_neg c, w64 (by omega) (by omega), Bool.eq_false_iff.mpr c, Bool.false_or]
      exact ih k (j + 1) (by omega) (by omega)
theorem bdGood_loop (L : Nat) (hL : L ≤ 30) (r : List S34) : ∀ (pre : List S34) (k : Nat), pre.length + r.length = L → r.length * (L + 2) + 1 ≤ k →
    spec_bdGood.l0 k (pre ++ r) (pre ++ r) (L : Int) (pre.length : Int) = some (r.all pegB && distFrom pre r) := by
  induction r with
  | nil =>
    intro pre k h hk
    obtain ⟨k, rfl⟩ : ∃ m, k = m + 1 := ⟨k - 1, by omega⟩
    simp only [spec_bdGood.l0]
    rw [if_neg (by simp at h; omega)]
    rfl
  | cons p r ih =>
    intro pre k h hk
    obtain ⟨k, rfl⟩ : ∃ m, k = m + 1 := ⟨k - 1, by omega⟩
    simp only [List.length_cons] at h hk
    rw [Nat.succ_mul] at hk
    simp only [spec_bdGood.l0]
    rw [if_pos (by omega), if_pos (by omega), if_pos (by simp; omega), rdPeg]
    simp only [pgIs_eq, Option.bind_some]
    by_cases c : pegP p.f0 p.f1
    · rw [if_pos (by simpa using c), if_pos (by simp; omega)]
      rw [Int.toNat_natCast, List.take_left]
      have hcont : ∀ k, r.length * (L + 2) + 1 ≤ k → spec_bdGood.l0 k (pre ++ p :: r) (pre ++ p :: r) (L : Int) (wrap64 ((pre.length : Int) + 1)) = some (r.all pegB && distFrom (pre ++ [p]) r) := by
        intro k hk
        have := ih (pre ++ [p]) k (by simp; omega) hk
        rw [w64 (by omega) (by omega)]
        simpa using this
      have := bdGood_in (pre ++ p :: r) (L : Int) p pre (by omega) _ _ (pre.length : Int) hcont pre.length k 0 (by omega) (by omega)
      rw [show ((0 : Nat) : Int) = 0 from rfl] at this
      rw [this]
      simp only [List.drop_zero, List.all_cons, distFrom, pegB, c, decide_true, Bool.true_and, Option.some.injEq]
      generalize pre.any (samePeg p) = b1
      generalize distFrom (pre ++ [p]) r = b2
      cases b1 <;> cases b2 <;> simp
    · rw [if_neg (by simpa using c)]
      simp [pegB, c]
theorem bdGood_eq (k : Nat) (hk : 1000 ≤ k) (l : List S34) : spec_bdGood.f k l = some (goodB l) := by
  unfold spec_bdGood.f goodB
  rw [in_eq]
  simp only [Option.bind_some]
  by_cases c : 1 ≤ l.length ∧ l.length ≤ 30
  · rw [if_pos (by rw [decide_eq_true_eq]; omega)]
    have hm : l.length * (l.length + 2) ≤ 30 * 32 := Nat.mul_le_mul (by omega) (by omega)
    have := bdGood_loop l.length c.2 l [] k (by simp) (by omega)
    simp only [List.nil_append, List.length_nil] at this
    rw [show ((0 : Nat) : Int) = 0 from rfl] at this
    rw [this]
    simp [c]
  · rw [if_neg (by rw [decide_eq_true_eq]; omega)]
    simp [c]

theorem contains_loop (x y : Int) (l : List S34) (hl : l.length ≤ 1048576) (d : Nat) : ∀ (k i : Nat), i + d = l.length → d < k →
    ∃ r, slices_Index_impl_Peg_impl_Peg.l0 k l (l.length : Int) (i : Int) x y = some r ∧ decide (r ≥ 0) = (l.drop i).any fun p => x == p.f0 && y == p.f1 := by
  induction d with
  | zero =>
    intro k i hi hk
    obtain ⟨k, rfl⟩ : ∃ m, k = m + 1 := ⟨k - 1, by omega⟩
    refine ⟨-1, ?_, ?_⟩
    · simp only [slices_Index_impl_Peg_impl_Peg.l0]; rw [if_neg (by omega)]
    · rw [List.drop_of_length_le (by omega)]; rfl
  | succ d ih =>
    intro k i hi hk
    obtain ⟨k, rfl⟩ : ∃ m, k = m + 1 := ⟨k - 1, by omega⟩
    have hlt : i < l.length := by omega
    have hr : rd_T34 l (i : Int) = l[i] := by
      unfold rd_T34
      simp [List.getD_eq_getElem?_getD, List.getElem?_eq_getElem hlt]
    simp only [slices_Index_impl_Peg_impl_Peg.l0]
    rw [if_pos (by omega), if_pos (by omega), if_pos (by omega), hr]
    rw [List.drop_eq_getElem_cons hlt, List.any_cons]
    by_cases c : (x == l[i].f0 && y == l[i].f1) = true
    · exact ⟨(i : Int), by rw [if_pos c], by simp [c]⟩
    · obtain ⟨r, h1, h2⟩ := ih k (i + 1) (by omega) (by omega)
      refine ⟨r, ?_, ?_⟩
      · rw [if_neg c, w64 (by omega) (by omega)]
        exact h1
      · rw [h2, Bool.eq_false_iff.mpr c, Bool.false_or]
theorem contains_eq (k : Nat) (l : List S34) (x y : Int) (hl : l.length ≤ 1048576) (hk : l.length < k) : slices_Contains_impl_Peg_impl_Peg.f k l x y = some (l.any fun p => x == p.f0 && y == p.f1) := by
  obtain ⟨r, h1, h2⟩ := contains_loop x y l hl l.length k 0 (by omega) hk
  unfold slices_Contains_impl_Peg_impl_Peg.f slices_Index_impl_Peg_impl_Peg.f
  rw [show ((0 : Nat) : Int) = 0 from rfl] at h1
  rw [h1]
  simp only [Option.bind_some, h2, List.drop_zero]

theorem areDiff_loop (L : Nat) (hL : L ≤ 30) (r : List S34) : ∀ (pre : List S34) (k : Nat), pre.length + r.length = L → r.length + 31 ≤ k →
    impl_AreDifferent.l0 k (pre ++ r) (pre ++ r) (L : Int) (pre.length : Int) = some (distFrom pre r) := by
  induction r with
  | nil =>
    intro pre k h hk
    obtain ⟨k, rfl⟩ : ∃ m, k = m + 1 := ⟨k - 1, by omega⟩
    simp only [impl_AreDifferent.l0]
    rw [if_neg (by simp at h; omega)]
    rfl
  | cons p r ih =>
    intro pre k h hk
    obtain ⟨k, rfl⟩ : ∃ m, k = m + 1 := ⟨k - 1, by omega⟩
    simp only [List.length_cons] at h hk
    simp only [impl_AreDifferent.l0]
    rw [if_pos (by omega), if_pos (by omega), if_pos (by simp; omega), if_pos (by simp; omega), rdPeg, Int.toNat_natCast, List.take_left, contains_eq k pre _ _ (by omega) (by omega)]
    simp only [Option.bind_some]
    rw [show (pre.any fun q => p.f0 == q.f0 && p.f1 == q.f1) = pre.any (samePeg p) from rfl]
    have := ih (pre ++ [p]) k (by simp; omega) (by omega)
    rw [w64 (by omega) (by omega)]
    simp only [distFrom]
    by_cases c : pre.any (samePeg p) = true
    · rw [if_pos c, c]; rfl
    · rw [if_neg c, Bool.eq_false_iff.mpr c]
      simpa using this
theorem areDiff_eq (k : Nat) (hk : 100 ≤ k) (l : List S34) : impl_AreDifferent.f k l = some (goodB l) := by
  obtain ⟨k, rfl⟩ : ∃ m, k = m + 1 := ⟨k - 1, by omega⟩
  unfold impl_AreDifferent.f goodB
  rw [within_eq]
  simp only [Option.bind_some, impl_AreDifferent.j0]
  by_cases c : 1 ≤ l.length ∧ l.length ≤ 30
  · rw [if_pos (by rw [decide_eq_true_eq]; omega), arePegs_eq (k + 1) l (by omega) (by omega)]
    have := areDiff_loop l.length c.2 l [] k (by simp) (by omega)
    simp only [List.nil_append, List.length_nil] at this
    rw [show ((0 : Nat) : Int) = 0 from rfl] at this
    simp only [Option.bind_some, this]
    have hp : (l.all fun p => decide (pegP p.f0 p.f1)) = l.all pegB := rfl
    rw [hp]
    by_cases c2 : l.all pegB = true
    · simp [c, c2]
    · have c3 := Bool.eq_false_iff.mpr c2
      rw [c3]
      simp
  · rw [if_neg (by rw [decide_eq_true_eq]; omega)]
    simp [c]

theorem szPegS_eq (l : List S43) (hl : l.length ≤ maxLen) : laws_szPegS.f l 1048576 = some (if 1048576 < l.length then -1 else 1048576 - (l.length : Int)) := by
  unfold maxLen at hl
  unfold laws_szPegS.f
  rw [w64 (by omega) (by omega)]
  by_cases c : 1048576 < l.length
  · rw [if_pos (by omega), if_pos c]
  · rw [if_neg (by omega), if_neg c]

theorem rdPegNat (l : List S34) (i : Nat) (h : i < l.length) : rd_T34 l (i : Int) = l[i] := by
  unfold rd_T34
  simp [List.getD_eq_getElem?_getD, List.getElem?_eq_getElem h]

def allP (l : List S34) : Prop := ∀ q ∈ l, pegP q.f0 q.f1

theorem sortP_length (l : List S34) : (sortP l).length = l.length := (sortP_perm l).length_eq

theorem pgLess_eq (x y : S34) : spec_pgLess.f x.f0 x.f1 y.f0 y.f1 = some (ltP x y) := by
  unfold spec_pgLess.f ltP
  by_cases c1 : x.f0 < y.f0
  · simp [c1]
  · by_cases c2 : x.f0 = y.f0
    · simp [c2]
    · simp [c1, c2]

theorem insP_length (x : S34) (l : List S34) : (insP x l).length = l.length + 1 := (insP_perm x l).length_eq

theorem bdSorted_in (l : List S34) (n i : Int) (p : S34) (R : List S34) (K0 : Nat) (suf : List S34) : ∀ (pre : List S34) (k : Nat), K0 + 2 * suf.length + 2 ≤ k → pre.length + suf.length ≤ 100000 →
    (∀ k, K0 ≤ k → spec_bdSorted.l0 k (pre ++ insP p suf) l n (wrap64 (i + 1)) = some R) →
    spec_bdSorted.l1 k (pre ++ suf) (pre.length : Int) l n i p.f0 p.f1 = some R := by
  induction suf with
  | nil =>
    intro pre k hk hl hc
    simp only [List.length_nil] at hk hl
    obtain ⟨k, rfl⟩ : ∃ m, k = m + 1 := ⟨k - 1, by omega⟩
    simp only [spec_bdSorted.l1]
    rw [if_neg (by simp)]
    simp only [Option.bind_some, List.append_nil, List.nil_append, Int.toNat_natCast]
    rw [if_pos (by omega), if_pos (by omega), List.take_of_length_le (Nat.le_refl _), if_pos (by simp; omega), if_pos (by simp; omega), List.drop_of_length_le (Nat.le_refl _), if_pos (by simp; omega)]
    have := hc k (by omega)
    simpa [insP] using this
  | cons q r ih =>
    intro pre k hk hl hc
    simp only [List.length_cons] at hk hl
    obtain ⟨k, rfl⟩ : ∃ m, k = m + 1 := ⟨k - 1, by omega⟩
    simp only [spec_bdSorted.l1]
    rw [if_pos (by simp; omega), if_pos (by omega), rdPeg, pgLess_eq, Option.bind_some]
    by_cases c : ltP q p = true
    · rw [if_pos c, w64 (by omega) (by omega)]
      have h1 := ih (pre ++ [q]) k (by omega) (by simp; omega) (fun k hk => by
        have := hc k hk
        unfold insP at this
        rw [if_pos c] at this
        simpa using this)
      simpa using h1
    · rw [if_neg c]
      simp only [Option.bind_some, List.nil_append, Int.toNat_natCast]
      rw [if_pos (by simp; omega), List.take_left, if_pos (by simp; omega), if_pos (by simp; omega), List.drop_left, if_pos (by simp; omega)]
      have := hc k (by omega)
      unfold insP at this
      rw [if_neg c] at this
      simpa using this

/-- The reference's order: each one put in. -/
def foldP (acc : List S34) : List S34 → List S34
  | [] => acc
  | p :: l => foldP (insP p acc) l
theorem bdSorted_loop (L : Nat) (hL : L ≤ 10000) (r : List S34) : ∀ (pre acc : List S34) (k : Nat), pre.length + r.length = L → acc.length = pre.length → r.length * (2 * L + 4) + 1 ≤ k →
    spec_bdSorted.l0 k acc (pre ++ r) (L : Int) (pre.length : Int) = some (foldP acc r) := by
  induction r with
  | nil =>
    intro pre acc k h ha hk
    obtain ⟨k, rfl⟩ : ∃ m, k = m + 1 := ⟨k - 1, by omega⟩
    simp only [spec_bdSorted.l0]
    rw [if_neg (by simp at h; omega)]
    rfl
  | cons p r ih =>
    intro pre acc k h ha hk
    obtain ⟨k, rfl⟩ : ∃ m, k = m + 1 := ⟨k - 1, by omega⟩
    simp only [List.length_cons] at h hk
    rw [Nat.succ_mul] at hk
    simp only [spec_bdSorted.l0]
    rw [if_pos (by omega), if_pos (by omega), if_pos (by simp; omega), rdPeg]
    have h1 := bdSorted_in (pre ++ p :: r) (L : Int) (pre.length : Int) p (foldP (insP p acc) r) (r.length * (2 * L + 4) + 1) acc [] k (by omega) (by simp; omega) (fun k hk => by
      have := ih (pre ++ [p]) (insP p acc) k (by simp; omega) (by rw [insP_length]; simp; omega) hk
      rw [w64 (by omega) (by omega)]
      simpa using this)
    simpa [foldP] using h1
theorem foldP_perm (l : List S34) : ∀ acc, (foldP acc l).Perm (acc ++ l) := by
  induction l with
  | nil => intro acc; simp [foldP]
  | cons p l ih =>
    intro acc
    unfold foldP
    refine (ih (insP p acc)).trans ?_
    refine ((insP_perm p acc).append_right l).trans ?_
    exact (List.perm_middle (a := p) (l₁ := acc) (l₂ := l)).symm
theorem foldP_sorted (l : List S34) : ∀ acc : List S34, (acc.Pairwise fun a b => ltP b a = false) → (foldP acc l).Pairwise fun a b => ltP b a = false := by
  induction l with
  | nil => intro acc h; exact h
  | cons p l ih => intro acc h; exact ih _ (insP_sorted p acc h)
theorem foldP_eq (l : List S34) : foldP [] l = sortP l :=
  sorted_one ((foldP_perm l []).trans (by simpa using (sortP_perm l).symm)) (foldP_sorted l [] List.Pairwise.nil) (sortP_sorted l)
theorem bdSorted_eq (k : Nat) (l : List S34) (hl : l.length ≤ 100) (hk : 21000 ≤ k) : spec_bdSorted.f k l = some (sortP l) := by
  unfold spec_bdSorted.f
  have hm : l.length * (2 * l.length + 4) ≤ 100 * 204 := Nat.mul_le_mul (by omega) (by omega)
  have := bdSorted_loop l.length (by omega) l [] [] k (by simp) rfl (by omega)
  rw [foldP_eq] at this
  simpa using this

theorem sorted_eq (l : List S34) (hl : l.length ≤ 100000) : impl_sorted.f l = some (sortP l) := by
  unfold impl_sorted.f slices_Clone_impl_Peg_impl_Peg.f slices_SortFunc_impl_Peg_impl_Peg.f
  simp only [Option.bind_some, List.nil_append, List.length_nil]
  rw [if_pos (by omega), Option.bind_some, if_pos (by omega), Option.bind_some]

theorem samePeg_iff (p q : S34) : samePeg p q = true ↔ p = q := by
  unfold samePeg
  rw [Bool.and_eq_true, beq_iff_eq, beq_iff_eq]
  constructor
  · rintro ⟨h1, h2⟩
    cases p; cases q
    simp only at h1 h2
    rw [h1, h2]
  · rintro rfl
    exact ⟨rfl, rfl⟩
theorem distFrom_iff (l : List S34) : ∀ pre : List S34, distFrom pre l = true ↔ (∀ q ∈ l, q ∉ pre) ∧ l.Nodup := by
  induction l with
  | nil => intro pre; simp [distFrom]
  | cons p r ih =>
    intro pre
    have hany : pre.any (samePeg p) = true ↔ p ∈ pre := by
      rw [List.any_eq_true]
      constructor
      · rintro ⟨q, hq, hs⟩
        rw [samePeg_iff] at hs
        subst hs
        exact hq
      · intro h
        exact ⟨p, h, (samePeg_iff p p).2 rfl⟩
    unfold distFrom
    rw [Bool.and_eq_true, ih, Bool.not_eq_true', ← Bool.not_eq_true, hany, List.nodup_cons]
    constructor
    · rintro ⟨h1, h2, h3⟩
      refine ⟨fun q hq => ?_, ?_, h3⟩
      · rcases List.mem_cons.1 hq with rfl | hq
        · exact h1
        · exact fun h => h2 q hq (List.mem_append_left _ h)
      · exact fun h => h2 p h (by simp)
    · rintro ⟨h1, h2, h3⟩
      refine ⟨h1 p (by simp), fun q hq h => ?_, h3⟩
      rcases List.mem_append.1 h with h | h
      · exact h1 q (List.mem_cons_of_mem _ hq) h
      · obtain rfl := List.mem_singleton.1 h
        exact h2 hq
theorem goodB_iff (l : List S34) : goodB l = true ↔ (1 ≤ l.length ∧ l.length ≤ 30) ∧ allP l ∧ l.Nodup := by
  unfold goodB
  rw [Bool.and_eq_true, Bool.and_eq_true, decide_eq_true_eq, List.all_eq_true, distFrom_iff]
  have e : (∀ x ∈ l, pegB x = true) ↔ allP l := by
    unfold allP pegB
    simp
  rw [e]
  simp

/-- The square of how far two pegs are apart. -/
def sqF (a b : S34) : Int := (a.f0 - b.f0) * (a.f0 - b.f0) + (a.f1 - b.f1) * (a.f1 - b.f1)
theorem sq_nonneg (x : Int) : 0 ≤ x * x := by
  rcases Int.le_total 0 x with h | h
  · exact Int.mul_nonneg h h
  · exact Int.mul_nonneg_of_nonpos_of_nonpos h h
theorem sq_pos {x : Int} (h : x ≠ 0) : 0 < x * x := by
  rcases Int.lt_trichotomy x 0 with h1 | h1 | h1
  · exact Int.mul_pos_of_neg_of_neg h1 h1
  · exact absurd h1 h
  · exact Int.mul_pos h1 h1
theorem sqF_pos {a b : S34} (h : a ≠ b) : 0 < sqF a b := by
  unfold sqF
  have h1 := sq_nonneg (a.f0 - b.f0)
  have h2 := sq_nonneg (a.f1 - b.f1)
  by_cases e0 : a.f0 - b.f0 = 0
  · have e1 : a.f1 - b.f1 ≠ 0 := fun e1 => h (by
      obtain ⟨a0, a1⟩ := a
      obtain ⟨b0, b1⟩ := b
      simp only at e0 e1
      rw [show a0 = b0 by omega, show a1 = b1 by omega])
    have := sq_pos e1
    omega
  · have := sq_pos e0
    omega
theorem sqF_w {a b : S34} (ha : pegP a.f0 a.f1) (hb : pegP b.f0 b.f1) : wrap64 (a.f0 - b.f0) = a.f0 - b.f0 ∧ wrap64 (a.f1 - b.f1) = a.f1 - b.f1 ∧ wrap64 (wrap64 ((a.f0 - b.f0) * (a.f0 - b.f0)) + wrap64 ((a.f1 - b.f1) * (a.f1 - b.f1))) = sqF a b := by
  unfold pegP at ha hb
  have q1 := mul_bd 100 100 (x := a.f0 - b.f0) (y := a.f0 - b.f0) (by omega) (by omega)
  have q2 := mul_bd 100 100 (x := a.f1 - b.f1) (y := a.f1 - b.f1) (by omega) (by omega)
  refine ⟨w64 (by omega) (by omega), w64 (by omega) (by omega), ?_⟩
  rw [w64 (x := (a.f0 - b.f0) * (a.f0 - b.f0)) (by omega) (by omega), w64 (x := (a.f1 - b.f1) * (a.f1 - b.f1)) (by omega) (by omega), w64 (by omega) (by omega)]
  rfl
theorem bdFar_eq {a b : S34} (ha : pegP a.f0 a.f1) (hb : pegP b.f0 b.f1) : spec_bdFar.f a.f0 a.f1 b.f0 b.f1 = some (sqF a b) := by
  obtain ⟨e1, e2, e3⟩ := sqF_w ha hb
  unfold spec_bdFar.f
  rw [e1, e2, e3]
theorem lessSq_eq {β : Type} {a b : S34} (ha : pegP a.f0 a.f1) (hb : pegP b.f0 b.f1) (F : Int → Option β) : ((impl_Peg_less.f a.f0 a.f1 b.f0 b.f1).bind fun t => (impl_Peg_square.f t.1 t.2).bind F) = F (sqF a b) := by
  obtain ⟨e1, e2, e3⟩ := sqF_w ha hb
  unfold impl_Peg_less.f impl_Peg_square.f
  rw [Option.bind_some, e1, e2]
  simp only []
  rw [e3, Option.bind_some]

theorem far_l1 (s : List S34) (_hp : ∀ q ∈ s, pegP q.f0 q.f1) (_hl : s.length ≤ 100) (i : Nat) (p : S34) (hpp : pegP p.f0 p.f1) (t : List S34) (ht : ∀ q ∈ t, pegP q.f0 q.f1) (htl : t.length ≤ 100) (K0 : Nat)
    (hc : ∀ a b : S34, pegP a.f0 a.f1 → pegP b.f0 b.f1 → ∃ R, ∀ k, K0 ≤ k → spec_FarthestApart.l0 k s s (s.length : Int) (wrap64 ((i : Int) + 1)) a.f0 a.f1 b.f0 b.f1 = some R ∧ impl_FarthestApart.l0 k (sqF a b) s s (s.length : Int) (wrap64 ((i : Int) + 1)) a.f0 a.f1 b.f0 b.f1 = some R) (e : Nat) :
    ∀ (j : Nat) (a b : S34), pegP a.f0 a.f1 → pegP b.f0 b.f1 → j + e = t.length →
    ∃ R, ∀ k, K0 + e + 1 ≤ k → spec_FarthestApart.l1 k s s (s.length : Int) (i : Int) t (t.length : Int) (j : Int) a.f0 a.f1 b.f0 b.f1 p.f0 p.f1 = some R ∧ impl_FarthestApart.l1 k (sqF a b) s s (s.length : Int) (i : Int) t (t.length : Int) (j : Int) a.f0 a.f1 b.f0 b.f1 p.f0 p.f1 = some R := by
  induction e with
  | zero =>
    intro j a b ha hb hj
    obtain ⟨R, hR⟩ := hc a b ha hb
    refine ⟨R, fun k hk => ?_⟩
    obtain ⟨k, rfl⟩ : ∃ m, k = m + 1 := ⟨k - 1, by omega⟩
    simp only [spec_FarthestApart.l1, impl_FarthestApart.l1]
    rw [if_neg (by omega), if_neg (by omega)]
    exact hR k (by omega)
  | succ e ih =>
    intro j a b ha hb hj
    have hlt : j < t.length := by omega
    have hq := ht _ (List.getElem_mem hlt)
    by_cases c : sqF p t[j] > sqF a b
    · obtain ⟨R, hR⟩ := ih (j + 1) p t[j] hpp hq (by omega)
      refine ⟨R, fun k hk => ?_⟩
      obtain ⟨k, rfl⟩ : ∃ m, k = m + 1 := ⟨k - 1, by omega⟩
      simp only [spec_FarthestApart.l1, impl_FarthestApart.l1]
      rw [rdPegNat t j hlt, bdFar_eq hpp hq, bdFar_eq ha hb, lessSq_eq hpp hq, Option.bind_some, Option.bind_some, if_pos c, if_pos c, w64 (x := (j : Int) + 1) (by omega) (by omega)]
      constructor
      · rw [if_pos (by omega), if_pos (by omega), if_pos (by omega)]
        exact (hR k (by omega)).1
      · rw [if_pos (by omega), if_pos (by omega), if_pos (by omega)]
        exact (hR k (by omega)).2
    · obtain ⟨R, hR⟩ := ih (j + 1) a b ha hb (by omega)
      refine ⟨R, fun k hk => ?_⟩
      obtain ⟨k, rfl⟩ : ∃ m, k = m + 1 := ⟨k - 1, by omega⟩
      simp only [spec_FarthestApart.l1, impl_FarthestApart.l1]
      rw [rdPegNat t j hlt, bdFar_eq hpp hq, bdFar_eq ha hb, lessSq_eq hpp hq, Option.bind_some, Option.bind_some, if_neg c, if_neg c, w64 (x := (j : Int) + 1) (by omega) (by omega)]
      constructor
      · rw [if_pos (by omega), if_pos (by omega), if_pos (by omega)]
        exact (hR k (by omega)).1
      · rw [if_pos (by omega), if_pos (by omega), if_pos (by omega)]
        exact (hR k (by omega)).2
theorem far_l0 (s : List S34) (hp : ∀ q ∈ s, pegP q.f0 q.f1) (hl : s.length ≤ 100) (d : Nat) : ∀ (i : Nat) (a b : S34), pegP a.f0 a.f1 → pegP b.f0 b.f1 → i + d = s.length →
    ∃ R, ∀ k, 1 + d * 200 ≤ k → spec_FarthestApart.l0 k s s (s.length : Int) (i : Int) a.f0 a.f1 b.f0 b.f1 = some R ∧ impl_FarthestApart.l0 k (sqF a b) s s (s.length : Int) (i : Int) a.f0 a.f1 b.f0 b.f1 = some R := by
  induction d with
  | zero =>
    intro i a b ha hb hi
    refine ⟨(a.f0, a.f1, b.f0, b.f1, sqF a b, true), fun k hk => ?_⟩
    obtain ⟨k, rfl⟩ : ∃ m, k = m + 1 := ⟨k - 1, by omega⟩
    simp only [spec_FarthestApart.l0, impl_FarthestApart.l0]
    rw [if_neg (by omega), if_neg (by omega), bdFar_eq ha hb, Option.bind_some]
    exact ⟨rfl, rfl⟩
  | succ d ih =>
    intro i a b ha hb hi
    have hlt : i < s.length := by omega
    obtain ⟨R, hR⟩ := far_l1 s hp hl i s[i] (hp _ (List.getElem_mem hlt)) (s.drop (i + 1)) (fun q hq => hp q (List.mem_of_mem_drop hq)) (by rw [List.length_drop]; omega) (1 + d * 200) (fun a b ha hb => by
      obtain ⟨R, hR⟩ := ih (i + 1) a b ha hb (by omega)
      refine ⟨R, fun k hk => ?_⟩
      rw [w64 (by omega) (by omega)]
      exact hR k hk) (s.drop (i + 1)).length 0 a b ha hb (by omega)
    refine ⟨R, fun k hk => ?_⟩
    obtain ⟨k, rfl⟩ : ∃ m, k = m + 1 := ⟨k - 1, by omega⟩
    rw [Nat.succ_mul] at hk
    have hlen : (s.drop (i + 1)).length ≤ 100 := by rw [List.length_drop]; omega
    simp only [spec_FarthestApart.l0, impl_FarthestApart.l0]
    rw [rdPegNat s i hlt, w64 (x := (i : Int) + 1) (by omega) (by omega), show (i : Int) + 1 = ((i + 1 : Nat) : Int) by omega, Int.toNat_natCast, Option.bind_some, Option.bind_some]
    constructor
    · rw [if_pos (by omega), if_pos (by omega), if_pos (by omega), if_pos (by omega), if_pos (by omega)]
      exact (hR k (by omega)).1
    · rw [if_pos (by omega), if_pos (by omega), if_pos (by omega), if_pos (by omega), if_pos (by omega)]
      exact (hR k (by omega)).2
/-- Both begin with the first two pegs. -/
theorem far_start (s : List S34) (hp : ∀ q ∈ s, pegP q.f0 q.f1) (hl : s.length ≤ 100) (h2 : 2 ≤ s.length) (h01 : s[0] ≠ s[1]) :
    ∃ R, ∀ k, 30000 ≤ k → spec_FarthestApart.l0 k s s (s.length : Int) 0 s[0].f0 s[0].f1 s[1].f0 s[1].f1 = some R ∧ impl_FarthestApart.l0 k 0 s s (s.length : Int) 0 0 0 0 0 = some R := by
  have hp0 := hp _ (List.getElem_mem (show 0 < s.length by omega))
  have hp1 := hp _ (List.getElem_mem (show 1 < s.length by omega))
  have hlen : (s.drop 1).length = s.length - 1 := List.length_drop
  have ht0 : (s.drop 1)[0]'(by omega) = s[1] := by rw [List.getElem_drop]
  obtain ⟨R, hR⟩ := far_l1 s hp hl 0 s[0] hp0 (s.drop 1) (fun q hq => hp q (List.mem_of_mem_drop hq)) (by omega) (1 + 100 * 200) (fun a b ha hb => by
    obtain ⟨R, hR⟩ := far_l0 s hp hl (s.length - 1) 1 a b ha hb (by omega)
    refine ⟨R, fun k hk => ?_⟩
    rw [w64 (by omega) (by omega)]
    exact hR k (by omega)) ((s.drop 1).length - 1) 1 s[0] s[1] hp0 hp1 (by omega)
  refine ⟨R, fun k hk => ?_⟩
  obtain ⟨k, rfl⟩ : ∃ m, k = m + 2 := ⟨k - 2, by omega⟩
  have r0 : rd_T34 s 0 = s[0] := rdPegNat s 0 (by omega)
  have r1 : rd_T34 (s.drop 1) 0 = s[1] := (rdPegNat (s.drop 1) 0 (by omega)).trans ht0
  have w1 : wrap64 (0 + 1) = 1 := (w64 (by omega) (by omega)).trans rfl
  simp only [spec_FarthestApart.l0, impl_FarthestApart.l0]
  rw [r0, w1, show (1 : Int).toNat = 1 from rfl, Option.bind_some, Option.bind_some]
  simp only [spec_FarthestApart.l1, impl_FarthestApart.l1]
  rw [r1, w1, bdFar_eq hp0 hp1, lessSq_eq hp0 hp1, Option.bind_some, Option.bind_some, if_neg (by omega : ¬ sqF s[0] s[1] > sqF s[0] s[1]), if_pos (show sqF s[0] s[1] > 0 from sqF_pos h01)]
  constructor
  · rw [if_pos (by omega), if_pos (by omega), if_pos (by omega), if_pos (by omega), if_pos (by omega), if_pos (by omega), if_pos (by omega), if_pos (by omega)]
    exact (hR k (by omega)).1
  · rw [if_pos (by omega), if_pos (by omega), if_pos (by omega), if_pos (by omega), if_pos (by omega), if_pos (by omega), if_pos (by omega), if_pos (by omega)]
    exact (hR k (by omega)).2
theorem far_both (l : List S34) : ∃ R, ∀ k, 100000 ≤ k → spec_FarthestApart.f k l = some R ∧ impl_FarthestApart.f k l = some R := by
  by_cases g : goodB l = true
  · obtain ⟨⟨g1, g2⟩, g3, g4⟩ := (goodB_iff l).1 g
    by_cases o : (l.length : Int) < 2
    · refine ⟨(0, 0, 0, 0, 0, false), fun k hk => ?_⟩
      obtain ⟨k, rfl⟩ : ∃ m, k = m + 1 := ⟨k - 1, by omega⟩
      unfold spec_FarthestApart.f impl_FarthestApart.f
      rw [bdGood_eq (k + 1) (by omega), areDiff_eq (k + 1) (by omega), Option.bind_some, Option.bind_some, if_pos g, if_pos g, decide_eq_true o]
      simp only [spec_FarthestApart.j0, impl_FarthestApart.j0]
      exact ⟨rfl, rfl⟩
    · have hsl : (sortP l).length = l.length := sortP_length l
      have hsn : (sortP l).Nodup := (sortP_perm l).nodup_iff.2 g4
      have h01 : (sortP l)[0]'(by omega) ≠ (sortP l)[1]'(by omega) := List.pairwise_iff_getElem.1 hsn 0 1 (by omega) (by omega) (by decide)
      obtain ⟨R, hR⟩ := far_start (sortP l) (fun q hq => g3 q ((sortP_perm l).mem_iff.1 hq)) (by omega) (by omega) h01
      refine ⟨R, fun k hk => ?_⟩
      obtain ⟨k, rfl⟩ : ∃ m, k = m + 1 := ⟨k - 1, by omega⟩
      have r0 : rd_T34 (sortP l) 0 = (sortP l)[0]'(by omega) := rdPegNat (sortP l) 0 (by omega)
      have r1 : rd_T34 (sortP l) 1 = (sortP l)[1]'(by omega) := rdPegNat (sortP l) 1 (by omega)
      unfold spec_FarthestApart.f impl_FarthestApart.f
      rw [bdGood_eq (k + 1) (by omega), areDiff_eq (k + 1) (by omega), Option.bind_some, Option.bind_some, if_pos g, if_pos g, decide_eq_false o]
      simp only [spec_FarthestApart.j0, impl_FarthestApart.j0]
      rw [bdSorted_eq k l (by omega) (by omega), sorted_eq l (by omega), Option.bind_some, Option.bind_some, r0, r1]
      constructor
      · rw [if_neg (by decide), if_pos (by omega), if_pos (by omega)]
        exact (hR k (by omega)).1
      · rw [if_neg (by decide)]
        exact (hR k (by omega)).2
  · refine ⟨(0, 0, 0, 0, 0, false), fun k hk => ?_⟩
    obtain ⟨k, rfl⟩ : ∃ m, k = m + 1 := ⟨k - 1, by omega⟩
    unfold spec_FarthestApart.f impl_FarthestApart.f
    rw [bdGood_eq (k + 1) (by omega), areDiff_eq (k + 1) (by omega), Option.bind_some, Option.bind_some, if_neg g, if_neg g]
    simp only [spec_FarthestApart.j0, impl_FarthestApart.j0]
    exact ⟨rfl, rfl⟩

/-- The one pure statement of the law FnExactFarthestApart. -/
def FnExactFarthestApart.Pure : Prop :=
  ∀ (l0 : List (S43)), l0.length ≤ maxLen → (∀ x ∈ l0, I64 x.f0 ∧ I64 x.f1) → ∃ k, laws_FnExactFarthestApart.f k l0 = some true

theorem FnExactFarthestApart : FnExactFarthestApart.Pure := by
  intro l hl _
  obtain ⟨k, hk⟩ : ∃ k : Nat, 1048600 ≤ k := ⟨1048600, Nat.le_refl _⟩
  refine ⟨k + 1, ?_⟩
  have he : ∀ a b : Int, laws_eqPeg.f a b a b = some true := fun a b => by simp [laws_eqPeg.f]
  unfold laws_FnExactFarthestApart.f
  rw [szPegS_eq l hl, Option.bind_some]
  by_cases c : 1048576 < l.length
  · rw [if_pos c, if_pos (by decide)]
  · obtain ⟨R, hR⟩ := far_both (l.map convPeg)
    rw [if_neg c, if_neg (by omega), toPegS_eq (k + 1) l (by omega) (by omega), Option.bind_some, (hR (k + 1) (by omega)).1, Option.bind_some, Option.bind_some, (hR (k + 1) (by omega)).2, Option.bind_some, he, Option.bind_some, if_pos rfl, he, Option.bind_some, if_pos rfl, if_pos rfl]
    simp only [laws_FnExactFarthestApart.j0]
    rw [if_neg (by simp), toPegS_eq k l (by omega) (by omega), Option.bind_some, eqPegS_self k _ (by simp; omega) (by simp; omega), Option.bind_some, if_pos rfl]

end Go.Proofs.Ytaclbccjcjdbpaa.Pure
