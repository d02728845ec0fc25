/- The program's HalvingLines returns what the reference's returns, for all arguments. No condition. -/
import Derived.Test.YtaclbccjcjdbpaaMHx0
import Derived.Test.YtaclbccjcjdbpaaMHx2
import Derived.Test.YtaclbccjcjdbpaaMHx3
import Derived.Test.YtaclbccjcjdbpaaMHx4
import Derived.Test.YtaclbccjcjdbpaaMHx5
import Derived.Test.YtaclbccjcjdbpaaMHx6
import Derived.Test.YtaclbccjcjdbpaaMHx7
import Derived.Test.YtaclbccjcjdbpaaMHx8
import Derived.Test.YtaclbccjcjdbpaaMHx9
import Derived.Test.YtaclbccjcjdbpaaMHx10
import Derived.Test.YtaclbccjcjdbpaaMHx11
import Derived.Test.YtaclbccjcjdbpaaV
namespace Go.Proofs.Ytaclbccjcjdbpaa.Pure
open Go.RowKit Go.Proofs.YtaclbccjcjdbpaaV Go.Proofs.Ytaclbccjcjdbpaa.MH Go.Proofs.YtaclbccjcjdbpaaW.PrintWords Go.Proofs.YtaclbccjcjdbpaaW.PrintLast Go.Proofs.YtaclbccjcjdbpaaW.PrintMore

theorem in_eq (a lo hi : Int) : spec_l1In.f a lo hi = some (decide (lo ≤ a ∧ a ≤ hi)) := by
  unfold spec_l1In.f
  by_cases h : lo ≤ a
  · rw [if_pos h]; simp [h]
  · rw [if_neg h]; simp [h]

theorem within_eq (a lo hi : Int) : impl_within.f a lo hi = some (decide (lo ≤ a ∧ a ≤ hi)) := by
  unfold impl_within.f
  by_cases h : lo ≤ a
  · rw [if_pos h]; simp [h]
  · rw [if_neg h]; simp [h]

theorem w64 {x : Int} (h0 : -9223372036854775808 ≤ x) (h1 : x ≤ 9223372036854775807) : wrap64 x = x := by
  unfold wrap64
  omega

theorem mul_bd {x y : Int} (A B : Nat) (hx : -(A : Int) ≤ x ∧ x ≤ A) (hy : -(B : Int) ≤ y ∧ y ≤ B) : -((A * B : Nat) : Int) ≤ x * y ∧ x * y ≤ ((A * B : Nat) : Int) := by
  have h1 : x.natAbs ≤ A := by omega
  have h2 : y.natAbs ≤ B := by omega
  have h3 := Nat.mul_le_mul h1 h2
  rw [← Int.natAbs_mul] at h3
  omega

/-- A peg's numbers. -/
def pegP (x y : Int) : Prop := (-40 ≤ x ∧ x ≤ 40) ∧ (-40 ≤ y ∧ y ≤ 40)
instance (x y : Int) : Decidable (pegP x y) := by unfold pegP; infer_instance

theorem pgIs_eq (x y : Int) : spec_pgIs.f x y = some (decide (pegP x y)) := by
  unfold spec_pgIs.f pegP
  simp only [in_eq, Option.bind_some]
  by_cases c : -40 ≤ x ∧ x ≤ 40
  · simp [c]
  · simp [c]

theorem implIsPeg_eq (x y : Int) : impl_IsPeg.f x y = some (decide (pegP x y)) := by
  unfold impl_IsPeg.f pegP
  simp only [within_eq, Option.bind_some]
  by_cases c : -40 ≤ x ∧ x ≤ 40
  · simp [c]
  · simp [c]

theorem arePegs_loop (l : List S34) (hl : l.length ≤ 9223372036854775807) (d : Nat) : ∀ (k i : Nat), i + d = l.length → d < k →
    ∃ r, slices_IndexFunc_impl_Peg_impl_Peg.l0 k l (l.length : Int) (i : Int) = some r ∧ decide (r ≥ 0) = (l.drop i).any fun p => !decide (pegP p.f0 p.f1) := by
  induction d with
  | zero =>
    intro k i hi hk
    obtain ⟨k, rfl⟩ : ∃ m, k = m + 1 := ⟨k - 1, by omega⟩
    refine ⟨-1, ?_, ?_⟩
    · simp only [slices_IndexFunc_impl_Peg_impl_Peg.l0]; rw [if_neg (by omega)]
    · rw [List.drop_of_length_le (by omega)]; rfl
  | succ d ih =>
    intro k i hi hk
    obtain ⟨k, rfl⟩ : ∃ m, k = m + 1 := ⟨k - 1, by omega⟩
    have hlt : i < l.length := by omega
    have hd : l.drop i = l[i] :: l.drop (i + 1) := List.drop_eq_getElem_cons hlt
    have hr : rd_T34 l (i : Int) = l[i] := by
      unfold rd_T34
      simp [List.getD_eq_getElem?_getD, List.getElem?_eq_getElem hlt]
    simp only [slices_IndexFunc_impl_Peg_impl_Peg.l0]
    rw [if_pos (by omega), if_pos (by omega), if_pos (by omega), hr]
    unfold impl_arePegs_1.f
    simp only [implIsPeg_eq, Option.bind_some]
    by_cases c : pegP l[i].f0 l[i].f1
    · obtain ⟨r, h1, h2⟩ := ih k (i + 1) (by omega) (by omega)
      refine ⟨r, ?_, ?_⟩
      · rw [if_neg (by simp [c]), w64 (by omega) (by omega)]
        exact h1
      · rw [h2, hd, List.any_cons]; simp [c]
    · refine ⟨(i : Int), by rw [if_pos (by simp [c])], ?_⟩
      rw [hd, List.any_cons]
      simp [c]

theorem arePegs_eq (k : Nat) (l : List S34) (hl : l.length ≤ 9223372036854775807) (hk : l.length < k) : impl_arePegs.f k l = some (l.all fun p => decide (pegP p.f0 p.f1)) := by
  obtain ⟨r, h1, h2⟩ := arePegs_loop l hl l.length k 0 (by omega) hk
  unfold impl_arePegs.f slices_ContainsFunc_impl_Peg_impl_Peg.f slices_IndexFunc_impl_Peg_impl_Peg.f
  rw [show ((0 : Nat) : Int) = 0 from rfl] at h1
  rw [h1]
  simp only [Option.bind_some, h2, List.drop_zero]
  congr 1
  rw [List.all_eq_not_any_not]

/-- Twice the area of three points. -/
def tri (ax ay bx by_ cx cy : Int) : Int := (bx - ax) * (cy - ay) - (by_ - ay) * (cx - ax)

theorem pgTurn_eq (M : Nat) (hM : M ≤ 1000000) {ax ay bx by_ cx cy : Int} (h1 : -(M : Int) ≤ ax ∧ ax ≤ M) (h2 : -(M : Int) ≤ ay ∧ ay ≤ M) (h3 : -(M : Int) ≤ bx ∧ bx ≤ M) (h4 : -(M : Int) ≤ by_ ∧ by_ ≤ M) (h5 : -(M : Int) ≤ cx ∧ cx ≤ M) (h6 : -(M : Int) ≤ cy ∧ cy ≤ M) :
    spec_pgTurn.f ax ay bx by_ cx cy = some (tri ax ay bx by_ cx cy) := by
  unfold spec_pgTurn.f tri
  rw [w64 (x := bx - ax) (by omega) (by omega), w64 (x := cy - ay) (by omega) (by omega), w64 (x := by_ - ay) (by omega) (by omega), w64 (x := cx - ax) (by omega) (by omega)]
  have q1 := mul_bd 2000000 2000000 (x := bx - ax) (y := cy - ay) (by omega) (by omega)
  have q2 := mul_bd 2000000 2000000 (x := by_ - ay) (y := cx - ax) (by omega) (by omega)
  rw [w64 (x := (bx - ax) * (cy - ay)) (by omega) (by omega), w64 (x := (by_ - ay) * (cx - ax)) (by omega) (by omega), w64 (by omega) (by omega)]

theorem turn_eq (M : Nat) (hM : M ≤ 1000000) {ax ay bx by_ cx cy : Int} (h1 : -(M : Int) ≤ ax ∧ ax ≤ M) (h2 : -(M : Int) ≤ ay ∧ ay ≤ M) (h3 : -(M : Int) ≤ bx ∧ bx ≤ M) (h4 : -(M : Int) ≤ by_ ∧ by_ ≤ M) (h5 : -(M : Int) ≤ cx ∧ cx ≤ M) (h6 : -(M : Int) ≤ cy ∧ cy ≤ M) :
    impl_turn.f ax ay bx by_ cx cy = some (tri ax ay bx by_ cx cy) := by
  unfold impl_turn.f impl_Peg_less.f impl_cross.f tri
  simp only [Option.bind_some]
  rw [w64 (x := bx - ax) (by omega) (by omega), w64 (x := cy - ay) (by omega) (by omega), w64 (x := by_ - ay) (by omega) (by omega), w64 (x := cx - ax) (by omega) (by omega)]
  have q1 := mul_bd 2000000 2000000 (x := bx - ax) (y := cy - ay) (by omega) (by omega)
  have q2 := mul_bd 2000000 2000000 (x := by_ - ay) (y := cx - ax) (by omega) (by omega)
  rw [w64 (x := (bx - ax) * (cy - ay)) (by omega) (by omega), w64 (x := (by_ - ay) * (cx - ax)) (by omega) (by omega), w64 (by omega) (by omega)]

/-- The sign of a number. -/
def sgn (x : Int) : Int := if 0 < x then 1 else if x < 0 then -1 else 0
theorem implSign_eq (x : Int) : impl_sign.f x = some (sgn x) := by
  unfold impl_sign.f sgn mn mx
  congr 1
  repeat' split
  all_goals omega

def convPeg (p : S43) : S34 := ⟨p.f0, p.f1⟩

theorem toPegS_loop (l : List S43) (hl : l.length ≤ 1048576) (d : Nat) : ∀ (k i : Nat) (x : List S34), i + d = l.length → d < k → x.length = l.length → x.take i = (l.take i).map convPeg →
    laws_toPegS.l0 k l x (i : Int) = some (l.map convPeg) := by
  induction d with
  | zero =>
    intro k i x hi hk hx hp
    obtain ⟨k, rfl⟩ : ∃ m, k = m + 1 := ⟨k - 1, by omega⟩
    simp only [laws_toPegS.l0]
    rw [if_neg (by omega)]
    rw [List.take_of_length_le (by omega), List.take_of_length_le (by omega)] at hp
    rw [hp]
  | succ d ih =>
    intro k i x hi hk hx hp
    obtain ⟨k, rfl⟩ : ∃ m, k = m + 1 := ⟨k - 1, by omega⟩
    have hlt : i < l.length := by omega
    have hr : rd_T43 l (i : Int) = l[i] := by
      unfold rd_T43
      simp [List.getD_eq_getElem?_getD, List.getElem?_eq_getElem hlt]
    simp only [laws_toPegS.l0, laws_toPeg.f]
    rw [if_pos (by omega), if_pos (by omega), hr]
    simp only [Option.bind_some]
    rw [if_pos (by omega), w64 (by omega) (by omega)]
    refine ih k (i + 1) _ (by omega) (by omega) (by simpa using hx) ?_
    rw [Int.toNat_natCast, List.take_set, List.take_add_one, List.take_add_one, hp, List.getElem?_eq_getElem (by omega), List.getElem?_eq_getElem hlt]
    simp only [Option.toList_some, List.map_append, List.map_cons, List.map_nil]
    rw [List.set_append_right _ _ (by simp; omega)]
    simp [Nat.min_eq_left (Nat.le_of_lt hlt), convPeg]
theorem toPegS_eq (k : Nat) (l : List S43) (hl : l.length ≤ 1048576) (hk : l.length < k) : laws_toPegS.f k l = some (l.map convPeg) := by
  unfold laws_toPegS.f
  rw [if_pos (by omega), if_pos (by omega)]
  exact toPegS_loop l hl l.length k 0 _ (by omega) hk (by simp) (by simp)

theorem eqPegS_loop (l : List S34) (hl : l.length ≤ 1048576) (d : Nat) : ∀ (k i : Nat), i + d = l.length → d < k → laws_eqPegS.l0 k l l (i : Int) = some true := by
  induction d with
  | zero =>
    intro k i hi hk
    obtain ⟨k, rfl⟩ : ∃ m, k = m + 1 := ⟨k - 1, by omega⟩
    simp only [laws_eqPegS.l0]
    rw [if_neg (by omega)]
  | succ d ih =>
    intro k i hi hk
    obtain ⟨k, rfl⟩ : ∃ m, k = m + 1 := ⟨k - 1, by omega⟩
    simp only [laws_eqPegS.l0]
    rw [if_pos (by omega), if_pos (by omega), if_pos (by omega)]
    have e : ∀ a b : Int, laws_eqPeg.f a b a b = some true := fun a b => by simp [laws_eqPeg.f]
    rw [e, w64 (by omega) (by omega)]
    exact ih k (i + 1) (by omega) (by omega)
theorem eqPegS_self (k : Nat) (l : List S34) (hl : l.length ≤ 1048576) (hk : l.length < k) : laws_eqPegS.f k l l = some true := by
  unfold laws_eqPegS.f
  rw [if_pos rfl]
  exact eqPegS_loop l hl l.length k 0 (by omega) hk

def samePeg (p q : S34) : Bool := p.f0 == q.f0 && p.f1 == q.f1
def pegB (p : S34) : Bool := decide (pegP p.f0 p.f1)
def distFrom : List S34 → List S34 → Bool
  | _, [] => true
  | pre, p :: r => !(pre.any (samePeg p)) && distFrom (pre ++ [p]) r
/-- Different pegs, no more than 30 and at least one. -/
def goodB (l : List S34) : Bool := decide (1 ≤ l.length ∧ l.length ≤ 30) && (l.all pegB && distFrom [] l)
theorem rdPeg (pre r : List S34) (p : S34) : rd_T34 (pre ++ p :: r) (pre.length : Int) = p := by
  unfold rd_T34
  simp [List.getD_eq_getElem?_getD]

theorem bdGood_in (l : List S34) (n : Int) (p : S34) (pre : List S34) (hpre : pre.length ≤ 1048576) (K0 : Nat) (R : Bool) (i : Int)
    (hc : ∀ k, K0 ≤ k → spec_bdGood.l0 k l l n (wrap64 (i + 1)) = some R) (d : Nat) : ∀ (k j : Nat), j + d = pre.length → K0 + d + 1 ≤ k →
    spec_bdGood.l1 k l l n i pre (pre.length : Int) (j : Int) p.f0 p.f1 = some (!((pre.drop j).any (samePeg p)) && R) := by
  induction d with
  | zero =>
    intro k j hj hk
    obtain ⟨k, rfl⟩ : ∃ m, k = m + 1 := ⟨k - 1, by omega⟩
    simp only [spec_bdGood.l1]
    rw [if_neg (by omega), hc k (by omega), List.drop_of_length_le (by omega)]
    rfl
  | succ d ih =>
    intro k j hj hk
    obtain ⟨k, rfl⟩ : ∃ m, k = m + 1 := ⟨k - 1, by omega⟩
    have hlt : j < pre.length := by omega
    have hr : rd_T34 pre (j : Int) = pre[j] := by
      unfold rd_T34
      simp [List.getD_eq_getElem?_getD, List.getElem?_eq_getElem hlt]
    simp only [spec_bdGood.l1]
    rw [if_pos (by omega), if_pos (by omega), if_pos (by omega), hr, List.drop_eq_getElem_cons hlt, List.any_cons, show (p.f0 == pre[j].f0 && p.f1 == pre[j].f1) = samePeg p pre[j] from rfl]
    by_cases c : samePeg p pre[j] = true
    · rw [if_pos c, c]; rfl
    · rw [if_neg c, w64 (by omega) (by omega), Bool.eq_false_iff.mpr c, Bool.false_or]
      exact ih k (j + 1) (by omega) (by omega)
theorem bdGood_loop (L : Nat) (hL : L ≤ 30) (r : List S34) : ∀ (pre : List S34) (k : Nat), pre.length + r.length = L → r.length * (L + 2) + 1 ≤ k →
    spec_bdGood.l0 k (pre ++ r) (pre ++ r) (L : Int) (pre.length : Int) = some (r.all pegB && distFrom pre r) := by
  induction r with
  | nil =>
    intro pre k h hk
    obtain ⟨k, rfl⟩ : ∃ m, k = m + 1 := ⟨k - 1, by omega⟩
    simp only [spec_bdGood.l0]
    rw [if_neg (by simp at h; omega)]
    rfl
  | cons p r ih =>
    intro pre k h hk
    obtain ⟨k, rfl⟩ : ∃ m, k = m + 1 := ⟨k - 1, by omega⟩
    simp only [List.length_cons] at h hk
    rw [Nat.succ_mul] at hk
    simp only [spec_bdGood.l0]
    rw [if_pos (by omega), if_pos (by omega), if_pos (by simp; omega), rdPeg]
    simp only [pgIs_eq, Option.bind_some]
    by_cases c : pegP p.f0 p.f1
    · rw [if_pos (by simpa using c), if_pos (by simp; omega)]
      rw [Int.toNat_natCast, List.take_left]
      have hcont : ∀ k, r.length * (L + 2) + 1 ≤ k → spec_bdGood.l0 k (pre ++ p :: r) (pre ++ p :: r) (L : Int) (wrap64 ((pre.length : Int) + 1)) = some (r.all pegB && distFrom (pre ++ [p]) r) := by
        intro k hk
        have := ih (pre ++ [p]) k (by simp; omega) hk
        rw [w64 (by omega) (by omega)]
        simpa using this
      have := bdGood_in (pre ++ p :: r) (L : Int) p pre (by omega) _ _ (pre.length : Int) hcont pre.length k 0 (by omega) (by omega)
      rw [show ((0 : Nat) : Int) = 0 from rfl] at this
      rw [this]
      simp only [List.drop_zero, List.all_cons, distFrom, pegB, c, decide_true, Bool.true_and, Option.some.injEq]
      generalize pre.any (samePeg p) = b1
      generalize distFrom (pre ++ [p]) r = b2
      cases b1 <;> cases b2 <;> simp
    · rw [if_neg (by simpa using c)]
      simp [pegB, c]
theorem bdGood_eq (k : Nat) (hk : 1000 ≤ k) (l : List S34) : spec_bdGood.f k l = some (goodB l) := by
  unfold spec_bdGood.f goodB
  rw [in_eq]
  simp only [Option.bind_some]
  by_cases c : 1 ≤ l.length ∧ l.length ≤ 30
  · rw [if_pos (by rw [decide_eq_true_eq]; omega)]
    have hm : l.length * (l.length + 2) ≤ 30 * 32 := Nat.mul_le_mul (by omega) (by omega)
    have := bdGood_loop l.length c.2 l [] k (by simp) (by omega)
    simp only [List.nil_append, List.length_nil] at this
    rw [show ((0 : Nat) : Int) = 0 from rfl] at this
    rw [this]
    simp [c]
  · rw [if_neg (by rw [decide_eq_true_eq]; omega)]
    simp [c]

theorem contains_loop (x y : Int) (l : List S34) (hl : l.length ≤ 1048576) (d : Nat) : ∀ (k i : Nat), i + d = l.length → d < k →
    ∃ r, slices_Index_impl_Peg_impl_Peg.l0 k l (l.length : Int) (i : Int) x y = some r ∧ decide (r ≥ 0) = (l.drop i).any fun p => x == p.f0 && y == p.f1 := by
  induction d with
  | zero =>
    intro k i hi hk
    obtain ⟨k, rfl⟩ : ∃ m, k = m + 1 := ⟨k - 1, by omega⟩
    refine ⟨-1, ?_, ?_⟩
    · simp only [slices_Index_impl_Peg_impl_Peg.l0]; rw [if_neg (by omega)]
    · rw [List.drop_of_length_le (by omega)]; rfl
  | succ d ih =>
    intro k i hi hk
    obtain ⟨k, rfl⟩ : ∃ m, k = m + 1 := ⟨k - 1, by omega⟩
    have hlt : i < l.length := by omega
    have hr : rd_T34 l (i : Int) = l[i] := by
      unfold rd_T34
      simp [List.getD_eq_getElem?_getD, List.getElem?_eq_getElem hlt]
    simp only [slices_Index_impl_Peg_impl_Peg.l0]
    rw [if_pos (by omega), if_pos (by omega), if_pos (by omega), hr]
    rw [List.drop_eq_getElem_cons hlt, List.any_cons]
    by_cases c : (x == l[i].f0 && y == l[i].f1) = true
    · exact ⟨(i : Int), by rw [if_pos c], by simp [c]⟩
    · obtain ⟨r, h1, h2⟩ := ih k (i + 1) (by omega) (by omega)
      refine ⟨r, ?_, ?_⟩
      · rw [if_neg c, w64 (by omega) (by omega)]
        exact h1
      · rw [h2, Bool.eq_false_iff.mpr c, Bool.false_or]
theorem contains_eq (k : Nat) (l : List S34) (x y : Int) (hl : l.length ≤ 1048576) (hk : l.length < k) : slices_Contains_impl_Peg_impl_Peg.f k l x y = some (l.any fun p => x == p.f0 && y == p.f1) := by
  obtain ⟨r, h1, h2⟩ := contains_loop x y l hl l.length k 0 (by omega) hk
  unfold slices_Contains_impl_Peg_impl_Peg.f slices_Index_impl_Peg_impl_Peg.f
  rw [show ((0 : Nat) : Int) = 0 from rfl] at h1
  rw [h1]
  simp only [Option.bind_some, h2, List.drop_zero]

theorem areDiff_loop (L : Nat) (hL : L ≤ 30) (r : List S34) : ∀ (pre : List S34) (k : Nat), pre.length + r.length = L → r.length + 31 ≤ k →
    impl_AreDifferent.l0 k (pre ++ r) (pre ++ r) (L : Int) (pre.length : Int) = some (distFrom pre r) := by
  induction r with
  | nil =>
    intro pre k h hk
    obtain ⟨k, rfl⟩ : ∃ m, k = m + 1 := ⟨k - 1, by omega⟩
    simp only [impl_AreDifferent.l0]
    rw [if_neg (by simp at h; omega)]
    rfl
  | cons p r ih =>
    intro pre k h hk
    obtain ⟨k, rfl⟩ : ∃ m, k = m + 1 := ⟨k - 1, by omega⟩
    simp only [List.length_cons] at h hk
    simp only [impl_AreDifferent.l0]
    rw [if_pos (by omega), if_pos (by omega), if_pos (by simp; omega), if_pos (by simp; omega), rdPeg, Int.toNat_natCast, List.take_left, contains_eq k pre _ _ (by omega) (by omega)]
    simp only [Option.bind_some]
    rw [show (pre.any fun q => p.f0 == q.f0 && p.f1 == q.f1) = pre.any (samePeg p) from rfl]
    have := ih (pre ++ [p]) k (by simp; omega) (by omega)
    rw [w64 (by omega) (by omega)]
    simp only [distFrom]
    by_cases c : pre.any (samePeg p) = true
    · rw [if_pos c, c]; rfl
    · rw [if_neg c, Bool.eq_false_iff.mpr c]
      simpa using this
theorem areDiff_eq (k : Nat) (hk : 100 ≤ k) (l : List S34) : impl_AreDifferent.f k l = some (goodB l) := by
  obtain ⟨k, rfl⟩ : ∃ m, k = m + 1 := ⟨k - 1, by omega⟩
  unfold impl_AreDifferent.f goodB
  rw [within_eq]
  simp only [Option.bind_some, impl_AreDifferent.j0]
  by_cases c : 1 ≤ l.length ∧ l.length ≤ 30
  · rw [if_pos (by rw [decide_eq_true_eq]; omega), arePegs_eq (k + 1) l (by omega) (by omega)]
    have := areDiff_loop l.length c.2 l [] k (by simp) (by omega)
    simp only [List.nil_append, List.length_nil] at this
    rw [show ((0 : Nat) : Int) = 0 from rfl] at this
    simp only [Option.bind_some, this]
    have hp : (l.all fun p => decide (pegP p.f0 p.f1)) = l.all pegB := rfl
    rw [hp]
    by_cases c2 : l.all pegB = true
    · simp [c, c2]
    · have c3 := Bool.eq_false_iff.mpr c2
      rw [c3]
      simp
  · rw [if_neg (by rw [decide_eq_true_eq]; omega)]
    simp [c]

theorem szPegS_eq (l : List S43) (hl : l.length ≤ maxLen) : laws_szPegS.f l 1048576 = some (if 1048576 < l.length then -1 else 1048576 - (l.length : Int)) := by
  unfold maxLen at hl
  unfold laws_szPegS.f
  rw [w64 (by omega) (by omega)]
  by_cases c : 1048576 < l.length
  · rw [if_pos (by omega), if_pos c]
  · rw [if_neg (by omega), if_neg c]

theorem rdPegNat (l : List S34) (i : Nat) (h : i < l.length) : rd_T34 l (i : Int) = l[i] := by
  unfold rd_T34
  simp [List.getD_eq_getElem?_getD, List.getElem?_eq_getElem h]

def allP (l : List S34) : Prop := ∀ q ∈ l, pegP q.f0 q.f1

/-- Which way three pegs turn. -/
def turnP (a b c : S34) : Int := tri a.f0 a.f1 b.f0 b.f1 c.f0 c.f1
theorem pgTurnP_eq {a b c : S34} (ha : pegP a.f0 a.f1) (hb : pegP b.f0 b.f1) (hc : pegP c.f0 c.f1) : spec_pgTurn.f a.f0 a.f1 b.f0 b.f1 c.f0 c.f1 = some (turnP a b c) :=
  pgTurn_eq 40 (by omega) ha.1 ha.2 hb.1 hb.2 hc.1 hc.2
theorem turnP_eq {a b c : S34} (ha : pegP a.f0 a.f1) (hb : pegP b.f0 b.f1) (hc : pegP c.f0 c.f1) : impl_turn.f a.f0 a.f1 b.f0 b.f1 c.f0 c.f1 = some (turnP a b c) :=
  turn_eq 40 (by omega) ha.1 ha.2 hb.1 hb.2 hc.1 hc.2

theorem samePeg_iff (p q : S34) : samePeg p q = true ↔ p = q := by
  unfold samePeg
  rw [Bool.and_eq_true, beq_iff_eq, beq_iff_eq]
  constructor
  · rintro ⟨h1, h2⟩
    cases p; cases q
    simp only at h1 h2
    rw [h1, h2]
  · rintro rfl
    exact ⟨rfl, rfl⟩
theorem distFrom_iff (l : List S34) : ∀ pre : List S34, distFrom pre l = true ↔ (∀ q ∈ l, q ∉ pre) ∧ l.Nodup := by
  induction l with
  | nil => intro pre; simp [distFrom]
  | cons p r ih =>
    intro pre
    have hany : pre.any (samePeg p) = true ↔ p ∈ pre := by
      rw [List.any_eq_true]
      constructor
      · rintro ⟨q, hq, hs⟩
        rw [samePeg_iff] at hs
        subst hs
        exact hq
      · intro h
        exact ⟨p, h, (samePeg_iff p p).2 rfl⟩
    unfold distFrom
    rw [Bool.and_eq_true, ih, Bool.not_eq_true', ← Bool.not_eq_true, hany, List.nodup_cons]
    constructor
    · rintro ⟨h1, h2, h3⟩
      refine ⟨fun q hq => ?_, ?_, h3⟩
      · rcases List.mem_cons.1 hq with rfl | hq
        · exact h1
        · exact fun h => h2 q hq (List.mem_append_left _ h)
      · exact fun h => h2 p h (by simp)
    · rintro ⟨h1, h2, h3⟩
      refine ⟨h1 p (by simp), fun q hq h => ?_, h3⟩
      rcases List.mem_append.1 h with h | h
      · exact h1 q (List.mem_cons_of_mem _ hq) h
      · obtain rfl := List.mem_singleton.1 h
        exact h2 hq
theorem goodB_iff (l : List S34) : goodB l = true ↔ (1 ≤ l.length ∧ l.length ≤ 30) ∧ allP l ∧ l.Nodup := by
  unfold goodB
  rw [Bool.and_eq_true, Bool.and_eq_true, decide_eq_true_eq, List.all_eq_true, distFrom_iff]
  have e : (∀ x ∈ l, pegB x = true) ↔ allP l := by
    unfold allP pegB
    simp
  rw [e]
  simp

theorem sgn_cases (x : Int) : (0 < x ∧ sgn x = 1) ∨ (x < 0 ∧ sgn x = -1) ∨ (x = 0 ∧ sgn x = 0) := by
  unfold sgn
  rcases Int.lt_trichotomy x 0 with h | h | h
  · exact .inr (.inl ⟨h, by rw [if_neg (by omega), if_pos h]⟩)
  · exact .inr (.inr ⟨h, by rw [if_neg (by omega), if_neg (by omega)]⟩)
  · exact .inl ⟨h, by rw [if_pos h]⟩

/-- How many pegs lie to each side of a line, and on it. -/
def cntL (a b : S34) (l : List S34) : Nat := l.countP fun c => decide (0 < turnP a b c)
def cntR (a b : S34) (l : List S34) : Nat := l.countP fun c => decide (turnP a b c < 0)
def cntO (a b : S34) (l : List S34) : Nat := l.countP fun c => turnP a b c == 0
theorem sidesOf_loop (a b : S34) (ha : pegP a.f0 a.f1) (hb : pegP b.f0 b.f1) (l : List S34) (hp : ∀ q ∈ l, pegP q.f0 q.f1) (hl : l.length ≤ 100) (d : Nat) : ∀ (k i : Nat) (x y z : Nat), i + d = l.length → d < k → x ≤ 1000 + i → y ≤ 1000 + i → z ≤ 1000 + i →
    impl_sidesOfLine.l0 k l (l.length : Int) (i : Int) a.f0 a.f1 b.f0 b.f1 (x : Int) (y : Int) (z : Int) = some (((z + cntL a b (l.drop i) : Nat) : Int), ((x + cntR a b (l.drop i) : Nat) : Int), ((y + cntO a b (l.drop i) : Nat) : Int)) := by
  induction d with
  | zero =>
    intro k i x y z hi hk _ _ _
    obtain ⟨k, rfl⟩ : ∃ m, k = m + 1 := ⟨k - 1, by omega⟩
    simp only [impl_sidesOfLine.l0]
    rw [if_neg (by omega), List.drop_of_length_le (by omega)]
    rfl
  | succ d ih =>
    intro k i x y z hi hk hx hy hz
    obtain ⟨k, rfl⟩ : ∃ m, k = m + 1 := ⟨k - 1, by omega⟩
    have hlt : i < l.length := by omega
    simp only [impl_sidesOfLine.l0]
    rw [if_pos (by omega), if_pos (by omega), if_pos (by omega), rdPegNat l i hlt, turnP_eq ha hb (hp _ (List.getElem_mem hlt)), Option.bind_some, implSign_eq, Option.bind_some, List.drop_eq_getElem_cons hlt, w64 (x := (i : Int) + 1) (by omega) (by omega), show (i : Int) + 1 = ((i + 1 : Nat) : Int) by omega]
    unfold cntL cntR cntO
    rw [List.countP_cons, List.countP_cons, List.countP_cons]
    rcases sgn_cases (turnP a b l[i]) with ⟨h, e⟩ | ⟨h, e⟩ | ⟨h, e⟩
    · rw [e, show wrap64 (1 + 1) = 2 from (w64 (by omega) (by omega)).trans rfl, if_neg (by decide), if_neg (by decide), if_pos rfl, w64 (x := (z : Int) + 1) (by omega) (by omega), show (z : Int) + 1 = ((z + 1 : Nat) : Int) by omega, ih k (i + 1) x y (z + 1) (by omega) (by omega) (by omega) (by omega) (by omega),
        if_pos (decide_eq_true h), if_neg (by rw [decide_eq_true_eq]; omega), if_neg (by rw [beq_iff_eq]; omega)]
      unfold cntL cntR cntO
      congr 2
      omega
    · rw [e, show wrap64 (-1 + 1) = 0 from (w64 (by omega) (by omega)).trans rfl, if_pos rfl, w64 (x := (x : Int) + 1) (by omega) (by omega), show (x : Int) + 1 = ((x + 1 : Nat) : Int) by omega, ih k (i + 1) (x + 1) y z (by omega) (by omega) (by omega) (by omega) (by omega),
        if_neg (by rw [decide_eq_true_eq]; omega), if_pos (decide_eq_true h), if_neg (by rw [beq_iff_eq]; omega)]
      unfold cntL cntR cntO
      congr 3
      omega
    · rw [e, show wrap64 (0 + 1) = 1 from (w64 (by omega) (by omega)).trans rfl, if_neg (by decide), if_pos rfl, w64 (x := (y : Int) + 1) (by omega) (by omega), show (y : Int) + 1 = ((y + 1 : Nat) : Int) by omega, ih k (i + 1) x (y + 1) z (by omega) (by omega) (by omega) (by omega) (by omega),
        if_neg (by rw [decide_eq_true_eq]; omega), if_neg (by rw [decide_eq_true_eq]; omega), if_pos (by rw [beq_iff_eq]; exact h)]
      unfold cntL cntR cntO
      congr 3
      omega
theorem sidesOf_eq (k : Nat) (a b : S34) (ha : pegP a.f0 a.f1) (hb : pegP b.f0 b.f1) (l : List S34) (hp : ∀ q ∈ l, pegP q.f0 q.f1) (hl : l.length ≤ 100) (hk : 101 ≤ k) : impl_sidesOfLine.f k l a.f0 a.f1 b.f0 b.f1 = some ((cntL a b l : Int), (cntR a b l : Int), (cntO a b l : Int)) := by
  unfold impl_sidesOfLine.f
  have := sidesOf_loop a b ha hb l hp hl l.length k 0 0 0 0 (by omega) (by omega) (by omega) (by omega) (by omega)
  rw [show ((0 : Nat) : Int) = 0 from rfl, List.drop_zero, Nat.zero_add, Nat.zero_add, Nat.zero_add] at this
  exact this

/-- A third peg on a line. -/
def thirdB (a b c : S34) : Bool := turnP a b c == 0 && ((!(c.f0 == a.f0) || !(c.f1 == a.f1)) && (!(c.f0 == b.f0) || !(c.f1 == b.f1)))
theorem halveS_l2 (a b : S34) (ha : pegP a.f0 a.f1) (hb : pegP b.f0 b.f1) (l : List S34) (hp : ∀ q ∈ l, pegP q.f0 q.f1) (hl : l.length ≤ 100) (x4 x24 x25 x33 x34 : Int) (x0 x23 x32 : List S34) (K1 : Nat) (R1 R2 : Int × Bool)
    (hT : ∀ k, K1 ≤ k → spec_HalvingLines.l1 k x0 (wrap64 (x4 + 1)) x23 x24 x25 x32 x33 (wrap64 (x34 + 1)) a.f0 a.f1 = some R1) (hF : ∀ k, K1 ≤ k → spec_HalvingLines.l1 k x0 x4 x23 x24 x25 x32 x33 (wrap64 (x34 + 1)) a.f0 a.f1 = some R2) (d : Nat) :
    ∀ (k i x y : Nat), i + d = l.length → K1 + d + 1 ≤ k → x ≤ 1000 + i → y ≤ 1000 + i →
    spec_HalvingLines.l2 k x0 x4 (x : Int) (y : Int) x23 x24 x25 x32 x33 x34 l (l.length : Int) (i : Int) a.f0 a.f1 b.f0 b.f1 = some (if (l.drop i).any (thirdB a b) = true then (0, false) else if x + cntL a b (l.drop i) = y + cntR a b (l.drop i) then R1 else R2) := by
  induction d with
  | zero =>
    intro k i x y hi hk _ _
    obtain ⟨k, rfl⟩ : ∃ m, k = m + 1 := ⟨k - 1, by omega⟩
    simp only [spec_HalvingLines.l2]
    rw [if_neg (by omega), List.drop_of_length_le (by omega)]
    by_cases e : x = y
    · rw [if_pos (by omega), hT k (by omega)]
      simp [cntL, cntR, e]
    · rw [if_neg (by omega), hF k (by omega)]
      simp [cntL, cntR, e]
  | succ d ih =>
    intro k i x y hi hk hx hy
    obtain ⟨k, rfl⟩ : ∃ m, k = m + 1 := ⟨k - 1, by omega⟩
    have hlt : i < l.length := by omega
    simp only [spec_HalvingLines.l2]
    rw [if_pos (by omega), if_pos (by omega), if_pos (by omega), rdPegNat l i hlt, pgTurnP_eq ha hb (hp _ (List.getElem_mem hlt)), Option.bind_some, List.drop_eq_getElem_cons hlt, List.any_cons, w64 (x := (i : Int) + 1) (by omega) (by omega), show (i : Int) + 1 = ((i + 1 : Nat) : Int) by omega]
    unfold cntL cntR
    rw [List.countP_cons, List.countP_cons]
    by_cases p1 : turnP a b l[i] > 0
    · have ht : thirdB a b l[i] = false := by
        unfold thirdB
        rw [show (turnP a b l[i] == 0) = false from by rw [beq_eq_false_iff_ne]; omega]
        rfl
      rw [if_pos p1, w64 (x := (x : Int) + 1) (by omega) (by omega), show (x : Int) + 1 = ((x + 1 : Nat) : Int) by omega, ih k (i + 1) (x + 1) y (by omega) (by omega) (by omega) (by omega), ht, Bool.false_or, if_pos (show decide (0 < turnP a b l[i]) = true from decide_eq_true p1), if_neg (show ¬ decide (turnP a b l[i] < 0) = true from by rw [decide_eq_true_eq]; omega)]
      unfold cntL cntR
      rw [show x + 1 + List.countP (fun c => decide (0 < turnP a b c)) (l.drop (i + 1)) = x + (List.countP (fun c => decide (0 < turnP a b c)) (l.drop (i + 1)) + 1) by omega]
      rfl
    · by_cases p2 : turnP a b l[i] < 0
      · have ht : thirdB a b l[i] = false := by
          unfold thirdB
          rw [show (turnP a b l[i] == 0) = false from by rw [beq_eq_false_iff_ne]; omega]
          rfl
        rw [if_neg p1, if_pos p2, w64 (x := (y : Int) + 1) (by omega) (by omega), show (y : Int) + 1 = ((y + 1 : Nat) : Int) by omega, ih k (i + 1) x (y + 1) (by omega) (by omega) (by omega) (by omega), ht, Bool.false_or, if_neg (show ¬ decide (0 < turnP a b l[i]) = true from by rw [decide_eq_true_eq]; omega), if_pos (show decide (turnP a b l[i] < 0) = true from decide_eq_true p2)]
        unfold cntL cntR
        rw [show y + 1 + List.countP (fun c => decide (turnP a b c < 0)) (l.drop (i + 1)) = y + (List.countP (fun c => decide (turnP a b c < 0)) (l.drop (i + 1)) + 1) by omega]
        rfl
      · have h0 : turnP a b l[i] = 0 := by omega
        rw [if_neg p1, if_neg p2, if_neg (show ¬ decide (0 < turnP a b l[i]) = true from by rw [decide_eq_true_eq]; omega), if_neg (show ¬ decide (turnP a b l[i] < 0) = true from by rw [decide_eq_true_eq]; omega), Nat.add_zero, Nat.add_zero, ih k (i + 1) x y (by omega) (by omega) (by omega) (by omega)]
        unfold thirdB cntL cntR
        rw [h0]
        by_cases q1 : (!(l[i].f0 == a.f0) || !(l[i].f1 == a.f1)) = true
        · rw [if_pos q1, q1]
          by_cases q2 : (!(l[i].f0 == b.f0) || !(l[i].f1 == b.f1)) = true
          · rw [if_pos q2, q2]
            rfl
          · rw [if_neg q2, Bool.eq_false_iff.mpr q2]
            rfl
        · rw [if_neg q1, Bool.eq_false_iff.mpr q1]
          rfl

theorem count_one (l : List S34) (hn : l.Nodup) (a : S34) (ha : a ∈ l) : l.countP (samePeg a) = 1 := by
  induction l with
  | nil => cases ha
  | cons x r ih =>
    rw [List.nodup_cons] at hn
    rw [List.countP_cons]
    by_cases e : a = x
    · subst e
      have h0 : r.countP (samePeg a) = 0 := by
        rw [List.countP_eq_zero]
        intro q hq h
        rw [samePeg_iff] at h
        exact hn.1 (h ▸ hq)
      rw [h0, if_pos ((samePeg_iff a a).2 rfl)]
    · rw [if_neg (fun h => e ((samePeg_iff a x).1 h)), ih hn.2 ((List.mem_cons.1 ha).resolve_left e)]
theorem third_split (a b : S34) (hab : a ≠ b) (h1 : turnP a b a = 0) (h2 : turnP a b b = 0) (l : List S34) : cntO a b l = l.countP (thirdB a b) + l.countP (samePeg a) + l.countP (samePeg b) := by
  unfold cntO
  induction l with
  | nil => rfl
  | cons c r ih =>
    rw [List.countP_cons, List.countP_cons, List.countP_cons, List.countP_cons, ih]
    have hsym : ∀ p q : S34, (!(p.f0 == q.f0) || !(p.f1 == q.f1)) = !(samePeg q p) := by
      intro p q
      unfold samePeg
      rw [← Bool.not_and, BEq.comm (a := p.f0), BEq.comm (a := p.f1)]
    by_cases e1 : a = c
    · subst e1
      have n2 : samePeg b a = false := Bool.eq_false_iff.mpr fun h => hab ((samePeg_iff b a).1 h).symm
      have s1 : samePeg a a = true := (samePeg_iff a a).2 rfl
      have ht : thirdB a b a = false := by
        unfold thirdB
        rw [hsym a a, s1]
        simp
      rw [h1, ht, n2, s1]
      simp
      omega
    · have n1 : samePeg a c = false := Bool.eq_false_iff.mpr fun h => e1 ((samePeg_iff a c).1 h)
      by_cases e2 : b = c
      · subst e2
        have s2 : samePeg b b = true := (samePeg_iff b b).2 rfl
        have ht : thirdB a b b = false := by
          unfold thirdB
          rw [hsym b b, s2]
          simp
        rw [h2, ht, n1, s2]
        simp
        omega
      · have n2 : samePeg b c = false := Bool.eq_false_iff.mpr fun h => e2 ((samePeg_iff b c).1 h)
        have ht : thirdB a b c = (turnP a b c == 0) := by
          unfold thirdB
          rw [hsym c a, hsym c b, n1, n2]
          simp
        rw [ht, n1, n2]
        simp
        omega
theorem turn_self (a b : S34) : turnP a b a = 0 ∧ turnP a b b = 0 := by
  unfold turnP tri
  constructor
  · simp
  · rw [Int.mul_comm]
    omega
theorem third_iff (l : List S34) (hn : l.Nodup) (a b : S34) (ha : a ∈ l) (hb : b ∈ l) (hab : a ≠ b) : ((cntO a b l : Int) > 2 ↔ l.any (thirdB a b) = true) := by
  rw [third_split a b hab (turn_self a b).1 (turn_self a b).2 l, count_one l hn a ha, count_one l hn b hb, List.any_eq_true]
  have : 0 < l.countP (thirdB a b) ↔ ∃ x ∈ l, thirdB a b x = true := List.countP_pos_iff
  rw [← this]
  omega

theorem halve_l1 (l : List S34) (hn : l.Nodup) (hp : ∀ q ∈ l, pegP q.f0 q.f1) (hl : l.length ≤ 30) (i : Nat) (hi : i < l.length) (K0 : Nat) (hK0 : 200 ≤ K0)
    (hc : ∀ c : Int, ∃ R, ∀ k, K0 ≤ k → spec_HalvingLines.l0 k l c l (l.length : Int) (wrap64 ((i : Int) + 1)) = some R ∧ impl_HalvingLines.l0 k l c l (l.length : Int) (wrap64 ((i : Int) + 1)) = some R) (e : Nat) : ∀ (j : Nat) (c : Int), j + e = i →
    ∃ R, ∀ k, K0 + e * 200 + 1 ≤ k → spec_HalvingLines.l1 k l c l (l.length : Int) (i : Int) (l.take i) ((l.take i).length : Int) (j : Int) l[i].f0 l[i].f1 = some R ∧ impl_HalvingLines.l1 k l c l (l.length : Int) (i : Int) (l.take i) ((l.take i).length : Int) (j : Int) l[i].f0 l[i].f1 = some R := by
  have htl : (l.take i).length = i := by rw [List.length_take]; omega
  rw [htl]
  induction e with
  | zero =>
    intro j c hj
    obtain ⟨R, hR⟩ := hc c
    refine ⟨R, fun k hk => ?_⟩
    obtain ⟨k, rfl⟩ : ∃ m, k = m + 1 := ⟨k - 1, by omega⟩
    simp only [spec_HalvingLines.l1, impl_HalvingLines.l1]
    rw [if_neg (by omega), if_neg (by omega)]
    exact hR k (by omega)
  | succ e ih =>
    intro j c hj
    have hjl : j < l.length := by omega
    have hjt : j < (l.take i).length := by omega
    have hrd : rd_T34 (l.take i) (j : Int) = l[j] := by
      rw [rdPegNat _ j hjt, List.getElem_take]
    have hai := List.getElem_mem hi
    have hbj := List.getElem_mem hjl
    have hab : l[i] ≠ l[j] := fun h => (List.pairwise_iff_getElem.1 hn j i hjl hi (by omega)) h.symm
    obtain ⟨R1, h1⟩ := ih (j + 1) (wrap64 (c + 1)) (by omega)
    obtain ⟨R2, h2⟩ := ih (j + 1) c (by omega)
    have hside := third_iff l hn l[i] l[j] hai hbj hab
    have hs := fun k hk => halveS_l2 l[i] l[j] (hp _ hai) (hp _ hbj) l hp (by omega) c (l.length : Int) (i : Int) (i : Int) (j : Int) l l (l.take i) (K0 + e * 200 + 1) R1 R2 (fun k hk => by rw [w64 (x := (j : Int) + 1) (by omega) (by omega)]; exact (h1 k hk).1) (fun k hk => by rw [w64 (x := (j : Int) + 1) (by omega) (by omega)]; exact (h2 k hk).1) l.length k 0 0 0 (by omega) hk (by omega) (by omega)
    simp only [List.drop_zero, Nat.zero_add, Int.ofNat_zero] at hs
    refine ⟨if l.any (thirdB l[i] l[j]) = true then (0, false) else if cntL l[i] l[j] l = cntR l[i] l[j] l then R1 else R2, fun k hk => ?_⟩
    · obtain ⟨k, rfl⟩ : ∃ m, k = m + 1 := ⟨k - 1, by omega⟩
      rw [Nat.succ_mul] at hk
      simp only [spec_HalvingLines.l1, impl_HalvingLines.l1]
      rw [if_pos (by omega), if_pos (by omega), if_pos (by rw [htl]; omega), hrd]
      refine ⟨hs k (by omega), ?_⟩
      rw [if_pos (by omega), if_pos (by omega), if_pos (by rw [htl]; omega), sidesOf_eq k l[i] l[j] (hp _ hai) (hp _ hbj) l hp (by omega) (by omega), Option.bind_some]
      simp only []
      by_cases t : l.any (thirdB l[i] l[j]) = true
      · rw [if_pos (hside.2 t), if_pos t]
      · rw [if_neg (fun h => t (hside.1 h)), if_neg t, w64 (x := (j : Int) + 1) (by omega) (by omega)]
        by_cases q : cntL l[i] l[j] l = cntR l[i] l[j] l
        · rw [if_pos (by omega), if_pos q]
          exact (h1 k (by omega)).2
        · rw [if_neg (by omega), if_neg q]
          exact (h2 k (by omega)).2
theorem halve_l0 (l : List S34) (hn : l.Nodup) (hp : ∀ q ∈ l, pegP q.f0 q.f1) (hl : l.length ≤ 30) (d : Nat) : ∀ (i : Nat) (c : Int), i + d = l.length →
    ∃ R, ∀ k, 201 + d * 7000 ≤ k → spec_HalvingLines.l0 k l c l (l.length : Int) (i : Int) = some R ∧ impl_HalvingLines.l0 k l c l (l.length : Int) (i : Int) = some R := by
  induction d with
  | zero =>
    intro i c hi
    refine ⟨(c, true), fun k hk => ?_⟩
    obtain ⟨k, rfl⟩ : ∃ m, k = m + 1 := ⟨k - 1, by omega⟩
    simp only [spec_HalvingLines.l0, impl_HalvingLines.l0]
    rw [if_neg (by omega), if_neg (by omega)]
    exact ⟨rfl, rfl⟩
  | succ d ih =>
    intro i c hi
    have hlt : i < l.length := by omega
    obtain ⟨R, hR⟩ := halve_l1 l hn hp hl i hlt (201 + d * 7000) (by omega) (fun c => by
      obtain ⟨R, hR⟩ := ih (i + 1) c (by omega)
      refine ⟨R, fun k hk => ?_⟩
      rw [w64 (by omega) (by omega)]
      exact hR k hk) i 0 c (by omega)
    refine ⟨R, fun k hk => ?_⟩
    obtain ⟨k, rfl⟩ : ∃ m, k = m + 1 := ⟨k - 1, by omega⟩
    rw [Nat.succ_mul] at hk
    simp only [spec_HalvingLines.l0, impl_HalvingLines.l0]
    rw [if_pos (by omega), if_pos (by omega), if_pos (by omega), if_pos (by omega), if_pos (by omega), if_pos (by omega), if_pos (by omega), if_pos (by omega), rdPegNat l i hlt, Option.bind_some, Option.bind_some, Int.toNat_natCast]
    exact hR k (by omega)
theorem halve_both (l : List S34) : ∃ R, ∀ k, 300000 ≤ k → spec_HalvingLines.f k l = some R ∧ impl_HalvingLines.f k l = some R := by
  by_cases g : goodB l = true
  · obtain ⟨⟨g1, g2⟩, g3, g4⟩ := (goodB_iff l).1 g
    by_cases o : (((l.length : Int) % 2) == 1) = true
    · refine ⟨(0, false), fun k hk => ?_⟩
      obtain ⟨k, rfl⟩ : ∃ m, k = m + 1 := ⟨k - 1, by omega⟩
      unfold spec_HalvingLines.f impl_HalvingLines.f
      rw [bdGood_eq (k + 1) (by omega), areDiff_eq (k + 1) (by omega), Option.bind_some, Option.bind_some, if_pos g, if_pos g]
      simp only [spec_HalvingLines.j0, impl_HalvingLines.j0]
      rw [if_pos o, if_pos o]
      exact ⟨rfl, rfl⟩
    · obtain ⟨R, hR⟩ := halve_l0 l g4 (fun q hq => g3 q hq) g2 l.length 0 0 (by omega)
      refine ⟨R, fun k hk => ?_⟩
      obtain ⟨k, rfl⟩ : ∃ m, k = m + 1 := ⟨k - 1, by omega⟩
      unfold spec_HalvingLines.f impl_HalvingLines.f
      rw [bdGood_eq (k + 1) (by omega), areDiff_eq (k + 1) (by omega), Option.bind_some, Option.bind_some, if_pos g, if_pos g]
      simp only [spec_HalvingLines.j0, impl_HalvingLines.j0]
      rw [if_neg o, if_neg o]
      exact hR k (by omega)
  · refine ⟨(0, false), fun k hk => ?_⟩
    obtain ⟨k, rfl⟩ : ∃ m, k = m + 1 := ⟨k - 1, by omega⟩
    unfold spec_HalvingLines.f impl_HalvingLines.f
    rw [bdGood_eq (k + 1) (by omega), areDiff_eq (k + 1) (by omega), Option.bind_some, Option.bind_some, if_neg g, if_neg g]
    simp only [spec_HalvingLines.j0, impl_HalvingLines.j0]
    exact ⟨rfl, rfl⟩

/-- The one pure statement of the law FnExactHalvingLines. -/
def FnExactHalvingLines.Pure : Prop :=
  ∀ (l0 : List (S43)), l0.length ≤ maxLen → (∀ x ∈ l0, I64 x.f0 ∧ I64 x.f1) → ∃ k, laws_FnExactHalvingLines.f k l0 = some true

theorem FnExactHalvingLines : FnExactHalvingLines.Pure := by
  intro l hl _
  obtain ⟨k, hk⟩ : ∃ k : Nat, 1048600 ≤ k := ⟨1048600, Nat.le_refl _⟩
  refine ⟨k + 1, ?_⟩
  unfold laws_FnExactHalvingLines.f
  rw [szPegS_eq l hl, Option.bind_some]
  by_cases c : 1048576 < l.length
  · rw [if_pos c, if_pos (by decide)]
  · obtain ⟨R, hR⟩ := halve_both (l.map convPeg)
    rw [if_neg c, if_neg (by omega), toPegS_eq (k + 1) l (by omega) (by omega), Option.bind_some, (hR (k + 1) (by omega)).1, Option.bind_some, Option.bind_some, (hR (k + 1) (by omega)).2, Option.bind_some, if_pos rfl]
    simp only [laws_FnExactHalvingLines.j0]
    rw [if_neg (by simp), toPegS_eq k l (by omega) (by omega), Option.bind_some, eqPegS_self k _ (by simp; omega) (by simp; omega), Option.bind_some, if_pos rfl]

end Go.Proofs.Ytaclbccjcjdbpaa.Pure
