/- The program's JoinBands returns what the reference's returns, for all arguments. No condition. -/
import Derived.Test.YtaclbccjcjdbpaaMYx0
import Derived.Test.YtaclbccjcjdbpaaMYx2
import Derived.Test.YtaclbccjcjdbpaaMYx3
import Derived.Test.YtaclbccjcjdbpaaMYx4
import Derived.Test.YtaclbccjcjdbpaaMYx5
import Derived.Test.YtaclbccjcjdbpaaMYx6
import Derived.Test.YtaclbccjcjdbpaaMYx7
import Derived.Test.YtaclbccjcjdbpaaMYx8
import Derived.Test.YtaclbccjcjdbpaaMYx9
import Derived.Test.YtaclbccjcjdbpaaMYx10
import Derived.Test.YtaclbccjcjdbpaaMYx11
import Derived.Test.YtaclbccjcjdbpaaMYx12
import Derived.Test.YtaclbccjcjdbpaaMYx15
import Derived.Test.YtaclbccjcjdbpaaMYx16
import Derived.Test.YtaclbccjcjdbpaaMYx17
import Derived.Test.YtaclbccjcjdbpaaMYx18
import Derived.Test.YtaclbccjcjdbpaaMYx19
import Derived.Test.YtaclbccjcjdbpaaMYx20
import Derived.Test.YtaclbccjcjdbpaaMYx21
import Derived.Test.YtaclbccjcjdbpaaV
namespace Go.Proofs.Ytaclbccjcjdbpaa.Pure
open Go.RowKit Go.Proofs.YtaclbccjcjdbpaaV Go.Proofs.Ytaclbccjcjdbpaa.MY Go.Proofs.YtaclbccjcjdbpaaW.PrintWords Go.Proofs.YtaclbccjcjdbpaaW.PrintLast Go.Proofs.YtaclbccjcjdbpaaW.PrintMore

theorem in_eq (a lo hi : Int) : spec_l1In.f a lo hi = some (decide (lo ≤ a ∧ a ≤ hi)) := by
  unfold spec_l1In.f
  by_cases h : lo ≤ a
  · rw [if_pos h]; simp [h]
  · rw [if_neg h]; simp [h]

theorem within_eq (a lo hi : Int) : impl_within.f a lo hi = some (decide (lo ≤ a ∧ a ≤ hi)) := by
  unfold impl_within.f
  by_cases h : lo ≤ a
  · rw [if_pos h]; simp [h]
  · rw [if_neg h]; simp [h]

theorem w64 {x : Int} (h0 : -9223372036854775808 ≤ x) (h1 : x ≤ 9223372036854775807) : wrap64 x = x := by
  unfold wrap64
  omega

theorem mul_bd {x y : Int} (A B : Nat) (hx : -(A : Int) ≤ x ∧ x ≤ A) (hy : -(B : Int) ≤ y ∧ y ≤ B) : -((A * B : Nat) : Int) ≤ x * y ∧ x * y ≤ ((A * B : Nat) : Int) := by
  have h1 : x.natAbs ≤ A := by omega
  have h2 : y.natAbs ≤ B := by omega
  have h3 := Nat.mul_le_mul h1 h2
  rw [← Int.natAbs_mul] at h3
  omega

/-- A peg's numbers. -/
def pegP (x y : Int) : Prop := (-40 ≤ x ∧ x ≤ 40) ∧ (-40 ≤ y ∧ y ≤ 40)
instance (x y : Int) : Decidable (pegP x y) := by unfold pegP; infer_instance

theorem pgIs_eq (x y : Int) : spec_pgIs.f x y = some (decide (pegP x y)) := by
  unfold spec_pgIs.f pegP
  simp only [in_eq, Option.bind_some]
  by_cases c : -40 ≤ x ∧ x ≤ 40
  · simp [c]
  · simp [c]

theorem implIsPeg_eq (x y : Int) : impl_IsPeg.f x y = some (decide (pegP x y)) := by
  unfold impl_IsPeg.f pegP
  simp only [within_eq, Option.bind_some]
  by_cases c : -40 ≤ x ∧ x ≤ 40
  · simp [c]
  · simp [c]

theorem arePegs_loop (l : List S34) (hl : l.length ≤ 9223372036854775807) (d : Nat) : ∀ (k i : Nat), i + d = l.length → d < k →
    ∃ r, slices_IndexFunc_impl_Peg_impl_Peg.l0 k l (l.length : Int) (i : Int) = some r ∧ decide (r ≥ 0) = (l.drop i).any fun p => !decide (pegP p.f0 p.f1) := by
  induction d with
  | zero =>
    intro k i hi hk
    obtain ⟨k, rfl⟩ : ∃ m, k = m + 1 := ⟨k - 1, by omega⟩
    refine ⟨-1, ?_, ?_⟩
    · simp only [slices_IndexFunc_impl_Peg_impl_Peg.l0]; rw [if_neg (by omega)]
    · rw [List.drop_of_length_le (by omega)]; rfl
  | succ d ih =>
    intro k i hi hk
    obtain ⟨k, rfl⟩ : ∃ m, k = m + 1 := ⟨k - 1, by omega⟩
    have hlt : i < l.length := by omega
    have hd : l.drop i = l[i] :: l.drop (i + 1) := List.drop_eq_getElem_cons hlt
    have hr : rd_T34 l (i : Int) = l[i] := by
      unfold rd_T34
      simp [List.getD_eq_getElem?_getD, List.getElem?_eq_getElem hlt]
    simp only [slices_IndexFunc_impl_Peg_impl_Peg.l0]
    rw [if_pos (by omega), if_pos (by omega), if_pos (by omega), hr]
    unfold impl_arePegs_1.f
    simp only [implIsPeg_eq, Option.bind_some]
    by_cases c : pegP l[i].f0 l[i].f1
    · obtain ⟨r, h1, h2⟩ := ih k (i + 1) (by omega) (by omega)
      refine ⟨r, ?_, ?_⟩
      · rw [if_neg (by simp [c]), w64 (by omega) (by omega)]
        exact h1
      · rw [h2, hd, List.any_cons]; simp [c]
    · refine ⟨(i : Int), by rw [if_pos (by simp [c])], ?_⟩
      rw [hd, List.any_cons]
      simp [c]

theorem arePegs_eq (k : Nat) (l : List S34) (hl : l.length ≤ 9223372036854775807) (hk : l.length < k) : impl_arePegs.f k l = some (l.all fun p => decide (pegP p.f0 p.f1)) := by
  obtain ⟨r, h1, h2⟩ := arePegs_loop l hl l.length k 0 (by omega) hk
  unfold impl_arePegs.f slices_ContainsFunc_impl_Peg_impl_Peg.f slices_IndexFunc_impl_Peg_impl_Peg.f
  rw [show ((0 : Nat) : Int) = 0 from rfl] at h1
  rw [h1]
  simp only [Option.bind_some, h2, List.drop_zero]
  congr 1
  rw [List.all_eq_not_any_not]

/-- Twice the area of three points. -/
def tri (ax ay bx by_ cx cy : Int) : Int := (bx - ax) * (cy - ay) - (by_ - ay) * (cx - ax)

theorem pgTurn_eq (M : Nat) (hM : M ≤ 1000000) {ax ay bx by_ cx cy : Int} (h1 : -(M : Int) ≤ ax ∧ ax ≤ M) (h2 : -(M : Int) ≤ ay ∧ ay ≤ M) (h3 : -(M : Int) ≤ bx ∧ bx ≤ M) (h4 : -(M : Int) ≤ by_ ∧ by_ ≤ M) (h5 : -(M : Int) ≤ cx ∧ cx ≤ M) (h6 : -(M : Int) ≤ cy ∧ cy ≤ M) :
    spec_pgTurn.f ax ay bx by_ cx cy = some (tri ax ay bx by_ cx cy) := by
  unfold spec_pgTurn.f tri
  rw [w64 (x := bx - ax) (by omega) (by omega), w64 (x := cy - ay) (by omega) (by omega), w64 (x := by_ - ay) (by omega) (by omega), w64 (x := cx - ax) (by omega) (by omega)]
  have q1 := mul_bd 2000000 2000000 (x := bx - ax) (y := cy - ay) (by omega) (by omega)
  have q2 := mul_bd 2000000 2000000 (x := by_ - ay) (y := cx - ax) (by omega) (by omega)
  rw [w64 (x := (bx - ax) * (cy - ay)) (by omega) (by omega), w64 (x := (by_ - ay) * (cx - ax)) (by omega) (by omega), w64 (by omega) (by omega)]

theorem turn_eq (M : Nat) (hM : M ≤ 1000000) {ax ay bx by_ cx cy : Int} (h1 : -(M : Int) ≤ ax ∧ ax ≤ M) (h2 : -(M : Int) ≤ ay ∧ ay ≤ M) (h3 : -(M : Int) ≤ bx ∧ bx ≤ M) (h4 : -(M : Int) ≤ by_ ∧ by_ ≤ M) (h5 : -(M : Int) ≤ cx ∧ cx ≤ M) (h6 : -(M : Int) ≤ cy ∧ cy ≤ M) :
    impl_turn.f ax ay bx by_ cx cy = some (tri ax ay bx by_ cx cy) := by
  unfold impl_turn.f impl_Peg_less.f impl_cross.f tri
  simp only [Option.bind_some]
  rw [w64 (x := bx - ax) (by omega) (by omega), w64 (x := cy - ay) (by omega) (by omega), w64 (x := by_ - ay) (by omega) (by omega), w64 (x := cx - ax) (by omega) (by omega)]
  have q1 := mul_bd 2000000 2000000 (x := bx - ax) (y := cy - ay) (by omega) (by omega)
  have q2 := mul_bd 2000000 2000000 (x := by_ - ay) (y := cx - ax) (by omega) (by omega)
  rw [w64 (x := (bx - ax) * (cy - ay)) (by omega) (by omega), w64 (x := (by_ - ay) * (cx - ax)) (by omega) (by omega), w64 (by omega) (by omega)]

def convPeg (p : S43) : S34 := ⟨p.f0, p.f1⟩

theorem toPegS_loop (l : List S43) (hl : l.length ≤ 1048576) (d : Nat) : ∀ (k i : Nat) (x : List S34), i + d = l.length → d < k → x.length = l.length → x.take i = (l.take i).map convPeg →
    laws_toPegS.l0 k l x (i : Int) = some (l.map convPeg) := by
  induction d with
  | zero =>
    intro k i x hi hk hx hp
    obtain ⟨k, rfl⟩ : ∃ m, k = m + 1 := ⟨k - 1, by omega⟩
    simp only [laws_toPegS.l0]
    rw [if_neg (by omega)]
    rw [List.take_of_length_le (by omega), List.take_of_length_le (by omega)] at hp
    rw [hp]
  | succ d ih =>
    intro k i x hi hk hx hp
    obtain ⟨k, rfl⟩ : ∃ m, k = m + 1 := ⟨k - 1, by omega⟩
    have hlt : i < l.length := by omega
    have hr : rd_T43 l (i : Int) = l[i] := by
      unfold rd_T43
      simp [List.getD_eq_getElem?_getD, List.getElem?_eq_getElem hlt]
    simp only [laws_toPegS.l0, laws_toPeg.f]
    rw [if_pos (by omega), if_pos (by omega), hr]
    simp only [Option.bind_some]
    rw [if_pos (by omega), w64 (by omega) (by omega)]
    refine ih k (i + 1) _ (by omega) (by omega) (by simpa using hx) ?_
    rw [Int.toNat_natCast, List.take_set, List.take_add_one, List.take_add_one, hp, List.getElem?_eq_getElem (by omega), List.getElem?_eq_getElem hlt]
    simp only [Option.toList_some, List.map_append, List.map_cons, List.map_nil]
    rw [List.set_append_right _ _ (by simp; omega)]
    simp [Nat.min_eq_left (Nat.le_of_lt hlt), convPeg]
theorem toPegS_eq (k : Nat) (l : List S43) (hl : l.length ≤ 1048576) (hk : l.length < k) : laws_toPegS.f k l = some (l.map convPeg) := by
  unfold laws_toPegS.f
  rw [if_pos (by omega), if_pos (by omega)]
  exact toPegS_loop l hl l.length k 0 _ (by omega) hk (by simp) (by simp)

theorem eqPegS_loop (l : List S34) (hl : l.length ≤ 1048576) (d : Nat) : ∀ (k i : Nat), i + d = l.length → d < k → laws_eqPegS.l0 k l l (i : Int) = some true := by
  induction d with
  | zero =>
    intro k i hi hk
    obtain ⟨k, rfl⟩ : ∃ m, k = m + 1 := ⟨k - 1, by omega⟩
    simp only [laws_eqPegS.l0]
    rw [if_neg (by omega)]
  | succ d ih =>
    intro k i hi hk
    obtain ⟨k, rfl⟩ : ∃ m, k = m + 1 := ⟨k - 1, by omega⟩
    simp only [laws_eqPegS.l0]
    rw [if_pos (by omega), if_pos (by omega), if_pos (by omega)]
    have e : ∀ a b : Int, laws_eqPeg.f a b a b = some true := fun a b => by simp [laws_eqPeg.f]
    rw [e, w64 (by omega) (by omega)]
    exact ih k (i + 1) (by omega) (by omega)
theorem eqPegS_self (k : Nat) (l : List S34) (hl : l.length ≤ 1048576) (hk : l.length < k) : laws_eqPegS.f k l l = some true := by
  unfold laws_eqPegS.f
  rw [if_pos rfl]
  exact eqPegS_loop l hl l.length k 0 (by omega) hk

def samePeg (p q : S34) : Bool := p.f0 == q.f0 && p.f1 == q.f1
def pegB (p : S34) : Bool := decide (pegP p.f0 p.f1)
def distFrom : List S34 → List S34 → Bool
  | _, [] => true
  | pre, p :: r => !(pre.any (samePeg p)) && distFrom (pre ++ [p]) r
/-- Different pegs, no more than 30 and at least one. -/
def goodB (l : List S34) : Bool := decide (1 ≤ l.length ∧ l.length ≤ 30) && (l.all pegB && distFrom [] l)
theorem rdPeg (pre r : List S34) (p : S34) : rd_T34 (pre ++ p :: r) (pre.length : Int) = p := by
  unfold rd_T34
  simp [List.getD_eq_getElem?_getD]

theorem bdGood_in (l : List S34) (n : Int) (p : S34) (pre : List S34) (hpre : pre.length ≤ 1048576) (K0 : Nat) (R : Bool) (i : Int)
    (hc : ∀ k, K0 ≤ k → spec_bdGood.l0 k l l n (wrap64 (i + 1)) = some R) (d : Nat) : ∀ (k j : Nat), j + d = pre.length → K0 + d + 1 ≤ k →
    spec_bdGood.l1 k l l n i pre (pre.length : Int) (j : Int) p.f0 p.f1 = some (!((pre.drop j).any (samePeg p)) && R) := by
  induction d with
  | zero =>
    intro k j hj hk
    obtain ⟨k, rfl⟩ : ∃ m, k = m + 1 := ⟨k - 1, by omega⟩
    simp only [spec_bdGood.l1]
    rw [if_neg (by omega), hc k (by omega), List.drop_of_length_le (by omega)]
    rfl
  | succ d ih =>
    intro k j hj hk
    obtain ⟨k, rfl⟩ : ∃ m, k = m + 1 := ⟨k - 1, by omega⟩
    have hlt : j < pre.length := by omega
    have hr : rd_T34 pre (j : Int) = pre[j] := by
      unfold rd_T34
      simp [List.getD_eq_getElem?_getD, List.getElem?_eq_getElem hlt]
    simp only [spec_bdGood.l1]
    rw [if_pos (by omega), if_pos (by omega), if_pos (by omega), hr, List.drop_eq_getElem_cons hlt, List.any_cons, show (p.f0 == pre[j].f0 && p.f1 == pre[j].f1) = samePeg p pre[j] from rfl]
    by_cases c : samePeg p pre[j] = true
    · rw [if_pos c, c]; rfl
    · rw [if_neg c, w64 (by omega) (by omega), Bool.eq_false_iff.mpr c, Bool.false_or]
      exact ih k (j + 1) (by omega) (by omega)
theorem bdGood_loop (L : Nat) (hL : L ≤ 30) (r : List S34) : ∀ (pre : List S34) (k : Nat), pre.length + r.length = L → r.length * (L + 2) + 1 ≤ k →
    spec_bdGood.l0 k (pre ++ r) (pre ++ r) (L : Int) (pre.length : Int) = some (r.all pegB && distFrom pre r) := by
  induction r with
  | nil =>
    intro pre k h hk
    obtain ⟨k, rfl⟩ : ∃ m, k = m + 1 := ⟨k - 1, by omega⟩
    simp only [spec_bdGood.l0]
    rw [if_neg (by simp at h; omega)]
    rfl
  | cons p r ih =>
    intro pre k h hk
    obtain ⟨k, rfl⟩ : ∃ m, k = m + 1 := ⟨k - 1, by omega⟩
    simp only [List.length_cons] at h hk
    rw [Nat.succ_mul] at hk
    simp only [spec_bdGood.l0]
    rw [if_pos (by omega), if_pos (by omega), if_pos (by simp; omega), rdPeg]
    simp only [pgIs_eq, Option.bind_some]
    by_cases c : pegP p.f0 p.f1
    · rw [if_pos (by simpa using c), if_pos (by simp; omega)]
      rw [Int.toNat_natCast, List.take_left]
      have hcont : ∀ k, r.length * (L + 2) + 1 ≤ k → spec_bdGood.l0 k (pre ++ p :: r) (pre ++ p :: r) (L : Int) (wrap64 ((pre.length : Int) + 1)) = some (r.all pegB && distFrom (pre ++ [p]) r) := by
        intro k hk
        have := ih (pre ++ [p]) k (by simp; omega) hk
        rw [w64 (by omega) (by omega)]
        simpa using this
      have := bdGood_in (pre ++ p :: r) (L : Int) p pre (by omega) _ _ (pre.length : Int) hcont pre.length k 0 (by omega) (by omega)
      rw [show ((0 : Nat) : Int) = 0 from rfl] at this
      rw [this]
      simp only [List.drop_zero, List.all_cons, distFrom, pegB, c, decide_true, Bool.true_and, Option.some.injEq]
      generalize pre.any (samePeg p) = b1
      generalize distFrom (pre ++ [p]) r = b2
      cases b1 <;> cases b2 <;> simp
    · rw [if_neg (by simpa using c)]
      simp [pegB, c]
theorem bdGood_eq (k : Nat) (hk : 1000 ≤ k) (l : List S34) : spec_bdGood.f k l = some (goodB l) := by
  unfold spec_bdGood.f goodB
  rw [in_eq]
  simp only [Option.bind_some]
  by_cases c : 1 ≤ l.length ∧ l.length ≤ 30
  · rw [if_pos (by rw [decide_eq_true_eq]; omega)]
    have hm : l.length * (l.length + 2) ≤ 30 * 32 := Nat.mul_le_mul (by omega) (by omega)
    have := bdGood_loop l.length c.2 l [] k (by simp) (by omega)
    simp only [List.nil_append, List.length_nil] at this
    rw [show ((0 : Nat) : Int) = 0 from rfl] at this
    rw [this]
    simp [c]
  · rw [if_neg (by rw [decide_eq_true_eq]; omega)]
    simp [c]

theorem contains_loop (x y : Int) (l : List S34) (hl : l.length ≤ 1048576) (d : Nat) : ∀ (k i : Nat), i + d = l.length → d < k →
    ∃ r, slices_Index_impl_Peg_impl_Peg.l0 k l (l.length : Int) (i : Int) x y = some r ∧ decide (r ≥ 0) = (l.drop i).any fun p => x == p.f0 && y == p.f1 := by
  induction d with
  | zero =>
    intro k i hi hk
    obtain ⟨k, rfl⟩ : ∃ m, k = m + 1 := ⟨k - 1, by omega⟩
    refine ⟨-1, ?_, ?_⟩
    · simp only [slices_Index_impl_Peg_impl_Peg.l0]; rw [if_neg (by omega)]
    · rw [List.drop_of_length_le (by omega)]; rfl
  | succ d ih =>
    intro k i hi hk
    obtain ⟨k, rfl⟩ : ∃ m, k = m + 1 := ⟨k - 1, by omega⟩
    have hlt : i < l.length := by omega
    have hr : rd_T34 l (i : Int) = l[i] := by
      unfold rd_T34
      simp [List.getD_eq_getElem?_getD, List.getElem?_eq_getElem hlt]
    simp only [slices_Index_impl_Peg_impl_Peg.l0]
    rw [if_pos (by omega), if_pos (by omega), if_pos (by omega), hr]
    rw [List.drop_eq_getElem_cons hlt, List.any_cons]
    by_cases c : (x == l[i].f0 && y == l[i].f1) = true
    · exact ⟨(i : Int), by rw [if_pos c], by simp [c]⟩
    · obtain ⟨r, h1, h2⟩ := ih k (i + 1) (by omega) (by omega)
      refine ⟨r, ?_, ?_⟩
      · rw [if_neg c, w64 (by omega) (by omega)]
        exact h1
      · rw [h2, Bool.eq_false_iff.mpr c, Bool.false_or]
theorem contains_eq (k : Nat) (l : List S34) (x y : Int) (hl : l.length ≤ 1048576) (hk : l.length < k) : slices_Contains_impl_Peg_impl_Peg.f k l x y = some (l.any fun p => x == p.f0 && y == p.f1) := by
  obtain ⟨r, h1, h2⟩ := contains_loop x y l hl l.length k 0 (by omega) hk
  unfold slices_Contains_impl_Peg_impl_Peg.f slices_Index_impl_Peg_impl_Peg.f
  rw [show ((0 : Nat) : Int) = 0 from rfl] at h1
  rw [h1]
  simp only [Option.bind_some, h2, List.drop_zero]

theorem areDiff_loop (L : Nat) (hL : L ≤ 30) (r : List S34) : ∀ (pre : List S34) (k : Nat), pre.length + r.length = L → r.length + 31 ≤ k →
    impl_AreDifferent.l0 k (pre ++ r) (pre ++ r) (L : Int) (pre.length : Int) = some (distFrom pre r) := by
  induction r with
  | nil =>
    intro pre k h hk
    obtain ⟨k, rfl⟩ : ∃ m, k = m + 1 := ⟨k - 1, by omega⟩
    simp only [impl_AreDifferent.l0]
    rw [if_neg (by simp at h; omega)]
    rfl
  | cons p r ih =>
    intro pre k h hk
    obtain ⟨k, rfl⟩ : ∃ m, k = m + 1 := ⟨k - 1, by omega⟩
    simp only [List.length_cons] at h hk
    simp only [impl_AreDifferent.l0]
    rw [if_pos (by omega), if_pos (by omega), if_pos (by simp; omega), if_pos (by simp; omega), rdPeg, Int.toNat_natCast, List.take_left, contains_eq k pre _ _ (by omega) (by omega)]
    simp only [Option.bind_some]
    rw [show (pre.any fun q => p.f0 == q.f0 && p.f1 == q.f1) = pre.any (samePeg p) from rfl]
    have := ih (pre ++ [p]) k (by simp; omega) (by omega)
    rw [w64 (by omega) (by omega)]
    simp only [distFrom]
    by_cases c : pre.any (samePeg p) = true
    · rw [if_pos c, c]; rfl
    · rw [if_neg c, Bool.eq_false_iff.mpr c]
      simpa using this
theorem areDiff_eq (k : Nat) (hk : 100 ≤ k) (l : List S34) : impl_AreDifferent.f k l = some (goodB l) := by
  obtain ⟨k, rfl⟩ : ∃ m, k = m + 1 := ⟨k - 1, by omega⟩
  unfold impl_AreDifferent.f goodB
  rw [within_eq]
  simp only [Option.bind_some, impl_AreDifferent.j0]
  by_cases c : 1 ≤ l.length ∧ l.length ≤ 30
  · rw [if_pos (by rw [decide_eq_true_eq]; omega), arePegs_eq (k + 1) l (by omega) (by omega)]
    have := areDiff_loop l.length c.2 l [] k (by simp) (by omega)
    simp only [List.nil_append, List.length_nil] at this
    rw [show ((0 : Nat) : Int) = 0 from rfl] at this
    simp only [Option.bind_some, this]
    have hp : (l.all fun p => decide (pegP p.f0 p.f1)) = l.all pegB := rfl
    rw [hp]
    by_cases c2 : l.all pegB = true
    · simp [c, c2]
    · have c3 := Bool.eq_false_iff.mpr c2
      rw [c3]
      simp
  · rw [if_neg (by rw [decide_eq_true_eq]; omega)]
    simp [c]

theorem szPegS_eq (l : List S43) (hl : l.length ≤ maxLen) : laws_szPegS.f l 1048576 = some (if 1048576 < l.length then -1 else 1048576 - (l.length : Int)) := by
  unfold maxLen at hl
  unfold laws_szPegS.f
  rw [w64 (by omega) (by omega)]
  by_cases c : 1048576 < l.length
  · rw [if_pos (by omega), if_pos c]
  · rw [if_neg (by omega), if_neg c]

/-- What marking makes of n pegs, from number a on. -/
def markedPegs (a n : Nat) : List S34 := (List.range' 0 n).map fun (i : Nat) => (⟨((a + 2 * i : Nat) : Int), ((a + 2 * i + 1 : Nat) : Int)⟩ : S34)
theorem markedPegs_length (a n : Nat) : (markedPegs a n).length = n := by simp [markedPegs]
theorem rdPegNat (l : List S34) (i : Nat) (h : i < l.length) : rd_T34 l (i : Int) = l[i] := by
  unfold rd_T34
  simp [List.getD_eq_getElem?_getD, List.getElem?_eq_getElem h]
theorem markPegS_loop (a : Nat) (ha : a ≤ 1000) (n : Nat) (hn : n ≤ 1048576) (d : Nat) : ∀ (k i : Nat) (x : List S34), i + d = n → d < k → x.length = n → x.take i = (markedPegs a n).take i →
    laws_markPegS.l0 k x ((a + 2 * i : Nat) : Int) (i : Int) = some (((a + 2 * n : Nat) : Int), markedPegs a n) := by
  induction d with
  | zero =>
    intro k i x hi hk hx hp
    obtain ⟨k, rfl⟩ : ∃ m, k = m + 1 := ⟨k - 1, by omega⟩
    simp only [laws_markPegS.l0]
    rw [if_neg (by omega)]
    have hl := markedPegs_length a n
    rw [List.take_of_length_le (by omega), List.take_of_length_le (by omega)] at hp
    rw [hp, show i = n by omega]
  | succ d ih =>
    intro k i x hi hk hx hp
    obtain ⟨k, rfl⟩ : ∃ m, k = m + 1 := ⟨k - 1, by omega⟩
    have hlt : i < x.length := by omega
    have hl := markedPegs_length a n
    simp only [laws_markPegS.l0]
    rw [if_pos (by omega), if_pos (by omega), Option.bind_some, Int.toNat_natCast, w64 (x := ((a + 2 * i : Nat) : Int) + 1) (by omega) (by omega), w64 (by omega) (by omega), w64 (by omega) (by omega),
      show ((a + 2 * i : Nat) : Int) + 1 + 1 = ((a + 2 * (i + 1) : Nat) : Int) by omega, show (i : Int) + 1 = ((i + 1 : Nat) : Int) by omega]
    refine ih k (i + 1) _ (by omega) (by omega) (by simpa using hx) ?_
    have hr : (rd_T34 (x.set i (⟨((a + 2 * i : Nat) : Int), (rd_T34 x (i : Int)).f1⟩ : S34)) (i : Int)).f0 = ((a + 2 * i : Nat) : Int) := by
      rw [rdPegNat _ i (by simpa using hlt), List.getElem_set_self]
    rw [hr]
    simp only [List.set_set]
    have hm : (markedPegs a n)[i]? = some ⟨((a + 2 * i : Nat) : Int), ((a + 2 * i + 1 : Nat) : Int)⟩ := by
      unfold markedPegs
      rw [List.getElem?_map, List.getElem?_range' (by omega)]
      simp
    rw [List.take_set, List.take_add_one, List.take_add_one, hp, hm, List.getElem?_eq_getElem hlt]
    simp only [Option.toList_some]
    rw [List.set_append_right _ _ (by simp; omega)]
    simp [hl, Nat.min_eq_left (show i ≤ n by omega)]
theorem markPegS_eq (k : Nat) (a : Nat) (ha : a ≤ 1000) (l : List S34) (hl : l.length ≤ 1048576) (hk : l.length < k) : laws_markPegS.f k l (a : Int) = some (((a + 2 * l.length : Nat) : Int), markedPegs a l.length) :=
  markPegS_loop a ha l.length hl l.length k 0 l (by omega) hk rfl (by simp)
theorem heldPegS_loop (a : Nat) (ha : a ≤ 1000) (n : Nat) (hn : n ≤ 1048576) (d : Nat) : ∀ (k i : Nat), i + d = n → d < k →
    laws_heldPegS.l0 k (markedPegs a n) ((a + 2 * i : Nat) : Int) (i : Int) = some ((a + 2 * n : Nat) : Int) := by
  induction d with
  | zero =>
    intro k i hi hk
    obtain ⟨k, rfl⟩ : ∃ m, k = m + 1 := ⟨k - 1, by omega⟩
    have hl := markedPegs_length a n
    simp only [laws_heldPegS.l0]
    rw [if_neg (by omega), show i = n by omega]
  | succ d ih =>
    intro k i hi hk
    obtain ⟨k, rfl⟩ : ∃ m, k = m + 1 := ⟨k - 1, by omega⟩
    have hl := markedPegs_length a n
    have hm : (markedPegs a n)[i]'(by omega) = ⟨((a + 2 * i : Nat) : Int), ((a + 2 * i + 1 : Nat) : Int)⟩ := by
      unfold markedPegs
      simp
    simp only [laws_heldPegS.l0]
    rw [if_pos (by omega), if_pos (by omega), rdPegNat _ i (by omega), hm, w64 (x := ((a + 2 * i : Nat) : Int) + 1) (by omega) (by omega), w64 (by omega) (by omega), w64 (by omega) (by omega), if_pos rfl, if_pos (by simp),
      show ((a + 2 * i : Nat) : Int) + 1 + 1 = ((a + 2 * (i + 1) : Nat) : Int) by omega, show (i : Int) + 1 = ((i + 1 : Nat) : Int) by omega]
    exact ih k (i + 1) (by omega) (by omega)
theorem heldPegS_eq (k : Nat) (a : Nat) (ha : a ≤ 1000) (n : Nat) (hn : n ≤ 1048576) (hk : n < k) : laws_heldPegS.f k (markedPegs a n) (a : Int) = some ((a + 2 * n : Nat) : Int) :=
  heldPegS_loop a ha n hn n k 0 (by omega) hk

theorem pgLess_eq (x y : S34) : spec_pgLess.f x.f0 x.f1 y.f0 y.f1 = some (ltP x y) := by
  unfold spec_pgLess.f ltP
  by_cases c1 : x.f0 < y.f0
  · simp [c1]
  · by_cases c2 : x.f0 = y.f0
    · simp [c2]
    · simp [c1, c2]

theorem insP_length (x : S34) (l : List S34) : (insP x l).length = l.length + 1 := (insP_perm x l).length_eq

theorem bdSorted_in (l : List S34) (n i : Int) (p : S34) (R : List S34) (K0 : Nat) (suf : List S34) : ∀ (pre : List S34) (k : Nat), K0 + 2 * suf.length + 2 ≤ k → pre.length + suf.length ≤ 100000 →
    (∀ k, K0 ≤ k → spec_bdSorted.l0 k (pre ++ insP p suf) l n (wrap64 (i + 1)) = some R) →
    spec_bdSorted.l1 k (pre ++ suf) (pre.length : Int) l n i p.f0 p.f1 = some R := by
  induction suf with
  | nil =>
    intro pre k hk hl hc
    simp only [List.length_nil] at hk hl
    obtain ⟨k, rfl⟩ : ∃ m, k = m + 2 := ⟨k - 2, by omega⟩
    simp only [spec_bdSorted.l1, spec_bdSorted.j2]
    rw [if_neg (by simp), if_neg (by decide)]
    simp only [Option.bind_some, List.append_nil, List.nil_append, Int.toNat_natCast]
    rw [if_pos (by omega), if_pos (by omega), List.take_of_length_le (Nat.le_refl _), if_pos (by simp; omega), if_pos (by simp; omega), List.drop_of_length_le (Nat.le_refl _), if_pos (by simp; omega)]
    have := hc k (by omega)
    simpa [insP] using this
  | cons q r ih =>
    intro pre k hk hl hc
    simp only [List.length_cons] at hk hl
    obtain ⟨k, rfl⟩ : ∃ m, k = m + 2 := ⟨k - 2, by omega⟩
    simp only [spec_bdSorted.l1, spec_bdSorted.j2]
    rw [if_pos (by simp; omega), if_pos (by omega), rdPeg, pgLess_eq, Option.bind_some]
    by_cases c : ltP q p = true
    · rw [if_pos c, w64 (by omega) (by omega)]
      have h1 := ih (pre ++ [q]) k (by omega) (by simp; omega) (fun k hk => by
        have := hc k hk
        unfold insP at this
        rw [if_pos c] at this
        simpa using this)
      simpa using h1
    · rw [if_neg c]
      simp only [Option.bind_some, List.nil_append, Int.toNat_natCast]
      rw [if_pos (by omega), if_pos (by simp; omega), List.take_left, if_pos (by simp; omega), if_pos (by simp; omega), List.drop_left, if_pos (by simp; omega)]
      have := hc k (by omega)
      unfold insP at this
      rw [if_neg c] at this
      simpa using this

/-- The reference's order: each one put in. -/
def foldP (acc : List S34) : List S34 → List S34
  | [] => acc
  | p :: l => foldP (insP p acc) l
theorem bdSorted_loop (L : Nat) (hL : L ≤ 10000) (r : List S34) : ∀ (pre acc : List S34) (k : Nat), pre.length + r.length = L → acc.length = pre.length → r.length * (2 * L + 4) + 1 ≤ k →
    spec_bdSorted.l0 k acc (pre ++ r) (L : Int) (pre.length : Int) = some (foldP acc r) := by
  induction r with
  | nil =>
    intro pre acc k h ha hk
    obtain ⟨k, rfl⟩ : ∃ m, k = m + 1 := ⟨k - 1, by omega⟩
    simp only [spec_bdSorted.l0]
    rw [if_neg (by simp at h; omega)]
    rfl
  | cons p r ih =>
    intro pre acc k h ha hk
    obtain ⟨k, rfl⟩ : ∃ m, k = m + 1 := ⟨k - 1, by omega⟩
    simp only [List.length_cons] at h hk
    rw [Nat.succ_mul] at hk
    simp only [spec_bdSorted.l0]
    rw [if_pos (by omega), if_pos (by omega), if_pos (by simp; omega), rdPeg]
    have h1 := bdSorted_in (pre ++ p :: r) (L : Int) (pre.length : Int) p (foldP (insP p acc) r) (r.length * (2 * L + 4) + 1) acc [] k (by omega) (by simp; omega) (fun k hk => by
      have := ih (pre ++ [p]) (insP p acc) k (by simp; omega) (by rw [insP_length]; simp; omega) hk
      rw [w64 (by omega) (by omega)]
      simpa using this)
    simpa [foldP] using h1
theorem foldP_perm (l : List S34) : ∀ acc, (foldP acc l).Perm (acc ++ l) := by
  induction l with
  | nil => intro acc; simp [foldP]
  | cons p l ih =>
    intro acc
    unfold foldP
    refine (ih (insP p acc)).trans ?_
    refine ((insP_perm p acc).append_right l).trans ?_
    exact (List.perm_middle (a := p) (l₁ := acc) (l₂ := l)).symm
theorem foldP_sorted (l : List S34) : ∀ acc : List S34, (acc.Pairwise fun a b => ltP b a = false) → (foldP acc l).Pairwise fun a b => ltP b a = false := by
  induction l with
  | nil => intro acc h; exact h
  | cons p l ih => intro acc h; exact ih _ (insP_sorted p acc h)
theorem foldP_eq (l : List S34) : foldP [] l = sortP l :=
  sorted_one ((foldP_perm l []).trans (by simpa using (sortP_perm l).symm)) (foldP_sorted l [] List.Pairwise.nil) (sortP_sorted l)
theorem bdSorted_eq (k : Nat) (l : List S34) (hl : l.length ≤ 100) (hk : 21000 ≤ k) : spec_bdSorted.f k l = some (sortP l) := by
  unfold spec_bdSorted.f
  have hm : l.length * (2 * l.length + 4) ≤ 100 * 204 := Nat.mul_le_mul (by omega) (by omega)
  have := bdSorted_loop l.length (by omega) l [] [] k (by simp) rfl (by omega)
  rw [foldP_eq] at this
  simpa using this
theorem sortP_length (l : List S34) : (sortP l).length = l.length := (sortP_perm l).length_eq

theorem sorted_eq (l : List S34) (hl : l.length ≤ 100000) : impl_sorted.f l = some (sortP l) := by
  unfold impl_sorted.f slices_Clone_impl_Peg_impl_Peg.f slices_SortFunc_impl_Peg_impl_Peg.f
  simp only [Option.bind_some, List.nil_append, List.length_nil]
  rw [if_pos (by omega), Option.bind_some, if_pos (by omega), Option.bind_some]

/-- Which way three pegs turn. -/
def turnP (a b c : S34) : Int := tri a.f0 a.f1 b.f0 b.f1 c.f0 c.f1
theorem pgTurnP_eq {a b c : S34} (ha : pegP a.f0 a.f1) (hb : pegP b.f0 b.f1) (hc : pegP c.f0 c.f1) : spec_pgTurn.f a.f0 a.f1 b.f0 b.f1 c.f0 c.f1 = some (turnP a b c) :=
  pgTurn_eq 40 (by omega) ha.1 ha.2 hb.1 hb.2 hc.1 hc.2
theorem turnP_eq {a b c : S34} (ha : pegP a.f0 a.f1) (hb : pegP b.f0 b.f1) (hc : pegP c.f0 c.f1) : impl_turn.f a.f0 a.f1 b.f0 b.f1 c.f0 c.f1 = some (turnP a b c) :=
  turn_eq 40 (by omega) ha.1 ha.2 hb.1 hb.2 hc.1 hc.2

/-- The stack, its top first, without those that a new peg throws out. -/
def popR (p : S34) : List S34 → List S34
  | b :: a :: r => if turnP a b p ≤ 0 then popR p (a :: r) else b :: a :: r
  | l => l
def chainR : List S34 → List S34 → List S34
  | st, [] => st
  | st, p :: r => chainR (p :: popR p st) r
def allP (l : List S34) : Prop := ∀ q ∈ l, pegP q.f0 q.f1
theorem popR_sub (p : S34) : ∀ (st : List S34), ∀ q ∈ popR p st, q ∈ st
  | b :: a :: r => by
    intro q hq
    unfold popR at hq
    split at hq
    · exact List.mem_cons_of_mem _ (popR_sub p (a :: r) q hq)
    · exact hq
  | [] => fun q hq => by simp [popR] at hq
  | [a] => fun q hq => by simpa [popR] using hq
theorem popR_length (p : S34) : ∀ (st : List S34), (popR p st).length ≤ st.length
  | b :: a :: r => by
    unfold popR
    split
    · have := popR_length p (a :: r)
      simp only [List.length_cons] at this ⊢
      omega
    · exact Nat.le_refl _
  | [] => by simp [popR]
  | [a] => by simp [popR]
theorem rev2 (b a : S34) (r : List S34) : (b :: a :: r).reverse = r.reverse ++ a :: [b] := by simp
theorem rev2' (b a : S34) (r : List S34) : (b :: a :: r).reverse = (r.reverse ++ [a]) ++ b :: [] := by simp
theorem chain_in (l : List S34) (n i : Int) (p : S34) (hp : pegP p.f0 p.f1) (R : List S34) (K0 : Nat) : ∀ (st : List S34) (k : Nat), allP st → K0 + st.length + 1 ≤ k → st.length ≤ 100000 →
    (∀ k, K0 ≤ k → impl_chain.l0 k (p :: popR p st).reverse l n (wrap64 (i + 1)) = some R) →
    impl_chain.l1 k st.reverse l n i p.f0 p.f1 = some R
  | b :: a :: r, k, hall, hk, hl, hc => by
    simp only [List.length_cons] at hk hl
    obtain ⟨k, rfl⟩ : ∃ m, k = m + 1 := ⟨k - 1, by omega⟩
    have hlen : (b :: a :: r).reverse.length = r.length + 2 := by simp
    have r1 : rd_T34 (b :: a :: r).reverse ((r.length : Int)) = a := by rw [rev2, show (r.length : Int) = (r.reverse.length : Int) by simp]; exact rdPeg _ _ _
    have r2 : rd_T34 (b :: a :: r).reverse ((r.length : Int) + 1) = b := by rw [rev2', show (r.length : Int) + 1 = ((r.reverse ++ [a]).length : Int) by simp]; exact rdPeg _ _ _
    simp only [impl_chain.l1]
    rw [hlen, w64 (x := ((r.length + 2 : Nat) : Int) - 2) (by omega) (by omega), w64 (x := ((r.length + 2 : Nat) : Int) - 1) (by omega) (by omega), show ((r.length + 2 : Nat) : Int) - 2 = (r.length : Int) by omega, show ((r.length + 2 : Nat) : Int) - 1 = (r.length : Int) + 1 by omega, r1, r2]
    rw [if_pos (by omega), if_pos (by omega), if_pos (by omega), if_pos (by omega), if_pos (by omega), turnP_eq (hall a (by simp)) (hall b (by simp)) hp, Option.bind_some]
    by_cases c : turnP a b p ≤ 0
    · rw [if_pos c, if_pos (by omega), show ((r.length : Int) + 1).toNat = r.length + 1 by omega]
      have h1 : (b :: a :: r).reverse.take (r.length + 1) = (a :: r).reverse := by rw [rev2', List.take_left' (by simp)]; simp
      rw [h1]
      refine chain_in l n i p hp R K0 (a :: r) k (fun q hq => hall q (List.mem_cons_of_mem _ hq)) (by simp only [List.length_cons]; omega) (by simp only [List.length_cons]; omega) (fun k hk => ?_)
      have := hc k hk
      unfold popR at this
      rw [if_pos c] at this
      exact this
    · rw [if_neg c, if_pos (by omega)]
      have := hc k (by omega)
      unfold popR at this
      rw [if_neg c, List.reverse_cons] at this
      exact this
  | [], k, hall, hk, hl, hc => by
    obtain ⟨k, rfl⟩ : ∃ m, k = m + 1 := ⟨k - 1, by omega⟩
    simp only [impl_chain.l1]
    rw [if_neg (by simp), if_pos (by simp)]
    have := hc k (by simp at hk; omega)
    simpa [popR] using this
  | [a], k, hall, hk, hl, hc => by
    obtain ⟨k, rfl⟩ : ∃ m, k = m + 1 := ⟨k - 1, by omega⟩
    simp only [impl_chain.l1]
    rw [if_neg (by simp), if_pos (by simp)]
    have := hc k (by simp at hk; omega)
    simpa [popR] using this
theorem chain_loop (L : Nat) (hL : L ≤ 1000) (r : List S34) : ∀ (pre st : List S34) (k : Nat), allP r → allP st → pre.length + r.length = L → st.length ≤ pre.length → r.length * (L + 2) + 1 ≤ k →
    impl_chain.l0 k st.reverse (pre ++ r) (L : Int) (pre.length : Int) = some (chainR st r).reverse := by
  induction r with
  | nil =>
    intro pre st k _ _ h ha hk
    obtain ⟨k, rfl⟩ : ∃ m, k = m + 1 := ⟨k - 1, by omega⟩
    simp only [impl_chain.l0]
    rw [if_neg (by simp at h; omega)]
    rfl
  | cons p r ih =>
    intro pre st k hr hs h ha hk
    obtain ⟨k, rfl⟩ : ∃ m, k = m + 1 := ⟨k - 1, by omega⟩
    simp only [List.length_cons] at h hk
    rw [Nat.succ_mul] at hk
    simp only [impl_chain.l0]
    rw [if_pos (by omega), if_pos (by omega), if_pos (by simp; omega), rdPeg]
    have hq := popR_length p st
    refine chain_in (pre ++ p :: r) (L : Int) (pre.length : Int) p (hr p (by simp)) _ (r.length * (L + 2) + 1) st k hs (by omega) (by omega) (fun k hk => ?_)
    have := ih (pre ++ [p]) (p :: popR p st) k (fun q hq => hr q (List.mem_cons_of_mem _ hq)) (fun q hq => by
      rcases List.mem_cons.1 hq with rfl | hq
      · exact hr _ (by simp)
      · exact hs q (popR_sub p st q hq)) (by simp; omega) (by simp; omega) hk
    rw [w64 (by omega) (by omega)]
    simpa [chainR] using this
theorem chain_eq (k : Nat) (l : List S34) (hl : l.length ≤ 100) (hp : allP l) (hk : 20000 ≤ k) : impl_chain.f k l = some (chainR [] l).reverse := by
  unfold impl_chain.f
  have hm : l.length * (l.length + 2) ≤ 100 * 102 := Nat.mul_le_mul (by omega) (by omega)
  have := chain_loop l.length (by omega) l [] [] k hp (by intro q hq; simp at hq) (by simp) (by simp) (by omega)
  simpa using this
theorem chainR_length (l : List S34) : ∀ st, (chainR st l).length ≤ st.length + l.length := by
  induction l with
  | nil => intro st; simp [chainR]
  | cons p l ih =>
    intro st
    unfold chainR
    have h1 := ih (p :: popR p st)
    have h2 := popR_length p st
    simp only [List.length_cons] at h1 ⊢
    omega
theorem chainR_pos (l : List S34) : ∀ st, 0 < st.length → 0 < (chainR st l).length := by
  induction l with
  | nil => intro st h; exact h
  | cons p l ih => intro st h; exact ih _ (by simp)

/-- The band of pegs in order, of at least two. -/
def hullP (s : List S34) : List S34 := (chainR [] s).reverse.dropLast ++ (chainR [] s.reverse).reverse.dropLast
theorem concat_eq (k : Nat) (a b : List S34) (ha : a.length ≤ 100000) (hb : b.length ≤ 100000) (hk : 10 ≤ k) : slices_Concat_impl_Peg_impl_Peg.f k [a, b] = some (a ++ b) := by
  obtain ⟨k, rfl⟩ : ∃ m, k = m + 3 := ⟨k - 3, by omega⟩
  have hg : ∀ n : Int, 0 ≤ n → n ≤ 1000000 → slices_Grow_impl_Peg_impl_Peg.f n = some [] := by
    intro n h0 h1
    unfold slices_Grow_impl_Peg_impl_Peg.f
    rw [w64 (by omega) (by omega), if_neg (by omega)]
    by_cases c : n > 0
    · rw [if_pos c, if_pos h0, if_pos (by simp; omega), Option.bind_some, if_pos (by omega)]
      rfl
    · rw [if_neg c]
  have r0 : rd_L3 [a, b] 0 = a := rfl
  have r1 : rd_L3 [a, b] 1 = b := rfl
  unfold slices_Concat_impl_Peg_impl_Peg.f
  simp only [slices_Concat_impl_Peg_impl_Peg.l0, List.length_cons, List.length_nil, Nat.zero_add, Nat.reduceAdd]
  rw [r0, w64 (x := 0 + (a.length : Int)) (by omega) (by omega), w64 (x := (0 : Int) + 1) (by omega) (by omega)]
  simp only [Int.zero_add]
  rw [r1, w64 (x := (a.length : Int) + (b.length : Int)) (by omega) (by omega), w64 (x := (1 : Int) + 1) (by omega) (by omega)]
  rw [if_pos (by decide), if_pos (by decide), if_pos (by decide), if_neg (by omega), if_pos (by decide), if_pos (by decide), if_pos (by decide), if_neg (by omega), if_neg (by decide), hg _ (by omega) (by omega), Option.bind_some]
  obtain ⟨k, rfl⟩ : ∃ m, k = m + 3 := ⟨k - 3, by omega⟩
  simp only [slices_Concat_impl_Peg_impl_Peg.l1, List.length_cons, List.length_nil, Nat.zero_add, Nat.reduceAdd]
  rw [r0, w64 (x := (0 : Int) + 1) (by omega) (by omega)]
  simp only [List.nil_append, Int.zero_add]
  rw [r1, w64 (x := (1 : Int) + 1) (by omega) (by omega)]
  rw [if_pos (by decide), if_pos (by decide), if_pos (by decide), if_pos (by omega), if_pos (by decide), if_pos (by decide), if_pos (by decide), if_pos (by omega), if_neg (by decide)]
theorem reverse_eq (_k : Nat) (l : List S34) (hl : l.length ≤ 100000) : slices_Reverse_impl_Peg_impl_Peg.f l = some l.reverse := by
  unfold slices_Reverse_impl_Peg_impl_Peg.f
  rw [if_pos (by omega)]
theorem band_eq (k : Nat) (l : List S34) (h1 : 1 ≤ l.length) (hl : l.length ≤ 100) (hp : allP l) (hk : 20000 ≤ k) :
    impl_band.f k l = some (if l.length = 1 then sortP l else hullP (sortP l)) := by
  have hs : allP (sortP l) := fun q hq => hp q ((sortP_perm l).subset hq)
  have hn := sortP_length l
  unfold impl_band.f
  rw [sorted_eq l (by omega), Option.bind_some, hn]
  by_cases c : l.length = 1
  · rw [if_pos (by omega), if_pos c]
  · rw [if_neg (by omega), if_neg c, chain_eq k (sortP l) (by omega) hs hk, Option.bind_some, reverse_eq k _ (by omega), Option.bind_some, chain_eq k (sortP l).reverse (by simp; omega) (fun q hq => hs q (by simpa using hq)) hk, Option.bind_some]
    have e1 := chainR_length (sortP l) []
    have e2 := chainR_length (sortP l).reverse []
    have e3 : 0 < (chainR [] (sortP l)).length := by
      cases hc : sortP l with
      | nil => rw [hc] at hn; simp at hn; omega
      | cons a r => exact chainR_pos r _ (by simp)
    have e4 : 0 < (chainR [] (sortP l).reverse).length := by
      cases hc : (sortP l).reverse with
      | nil =>
        have h9 := congrArg List.length hc
        rw [List.length_reverse] at h9
        simp only [List.length_nil] at h9
        omega
      | cons a r => exact chainR_pos r _ (by simp)
    simp only [List.length_nil, List.length_reverse, Nat.zero_add] at e1 e2
    rw [List.length_reverse, List.length_reverse, w64 (x := ((chainR [] (sortP l)).length : Int) - 1) (by omega) (by omega), w64 (x := ((chainR [] (sortP l).reverse).length : Int) - 1) (by omega) (by omega)]
    rw [if_pos (by omega), if_pos (by omega), if_pos (by omega), if_pos (by omega)]
    rw [show (((chainR [] (sortP l)).length : Int) - 1).toNat = (chainR [] (sortP l)).length - 1 by omega, show (((chainR [] (sortP l).reverse).length : Int) - 1).toNat = (chainR [] (sortP l).reverse).length - 1 by omega]
    rw [concat_eq k _ _ (by simp; omega) (by simp; omega) (by omega), Option.bind_some]
    unfold hullP
    rw [List.dropLast_eq_take, List.dropLast_eq_take, List.length_reverse, List.length_reverse]

theorem bdBand_in (s : List S34) (sd n i : Int) (base : List S34) (hb : base.length ≤ 100000) (p : S34) (hp : pegP p.f0 p.f1) (R : List S34) (K0 : Nat) : ∀ (st : List S34) (k : Nat), allP st → K0 + st.length + 1 ≤ k → st.length ≤ 100000 →
    (∀ k, K0 ≤ k → spec_bdBand.l1 k s (base ++ (p :: popR p st).reverse) sd (base.length : Int) n (wrap64 (i + 1)) = some R) →
    spec_bdBand.l2 k s (base ++ st.reverse) sd (base.length : Int) n i p.f0 p.f1 = some R
  | b :: a :: r, k, hall, hk, hl, hc => by
    simp only [List.length_cons] at hk hl
    obtain ⟨k, rfl⟩ : ∃ m, k = m + 1 := ⟨k - 1, by omega⟩
    have hlen : (base ++ (b :: a :: r).reverse).length = base.length + r.length + 2 := by simp; omega
    have r1 : rd_T34 (base ++ (b :: a :: r).reverse) (((base.length + r.length : Nat) : Int)) = a := by rw [rev2, ← List.append_assoc, show ((base.length + r.length : Nat) : Int) = ((base ++ r.reverse).length : Int) by simp]; exact rdPeg _ _ _
    have r2 : rd_T34 (base ++ (b :: a :: r).reverse) (((base.length + r.length : Nat) : Int) + 1) = b := by rw [rev2', ← List.append_assoc, show ((base.length + r.length : Nat) : Int) + 1 = ((base ++ (r.reverse ++ [a])).length : Int) by simp; omega]; exact rdPeg _ _ _
    simp only [spec_bdBand.l2]
    rw [hlen, w64 (x := ((base.length + r.length + 2 : Nat) : Int) - 2) (by omega) (by omega), w64 (x := ((base.length + r.length + 2 : Nat) : Int) - 1) (by omega) (by omega), w64 (x := (base.length : Int) + 1) (by omega) (by omega), show ((base.length + r.length + 2 : Nat) : Int) - 2 = ((base.length + r.length : Nat) : Int) by omega, show ((base.length + r.length + 2 : Nat) : Int) - 1 = ((base.length + r.length : Nat) : Int) + 1 by omega, r1, r2]
    rw [if_pos (by omega), if_pos (by omega), if_pos (by omega), if_pos (by omega), if_pos (by omega), pgTurnP_eq (hall a (by simp)) (hall b (by simp)) hp, Option.bind_some]
    by_cases c : turnP a b p ≤ 0
    · rw [if_pos c, if_pos (by omega), show (((base.length + r.length : Nat) : Int) + 1).toNat = base.length + (r.length + 1) by omega]
      have h1 : (base ++ (b :: a :: r).reverse).take (base.length + (r.length + 1)) = base ++ (a :: r).reverse := by rw [rev2', ← List.append_assoc, List.take_left' (by simp)]; simp
      rw [h1]
      refine bdBand_in s sd n i base hb p hp R K0 (a :: r) k (fun q hq => hall q (List.mem_cons_of_mem _ hq)) (by simp only [List.length_cons]; omega) (by simp only [List.length_cons]; omega) (fun k hk => ?_)
      have := hc k hk
      unfold popR at this
      rw [if_pos c] at this
      exact this
    · rw [if_neg c, if_pos (by omega)]
      have := hc k (by omega)
      unfold popR at this
      rw [if_neg c, List.reverse_cons, ← List.append_assoc] at this
      exact this
  | [], k, hall, hk, hl, hc => by
    obtain ⟨k, rfl⟩ : ∃ m, k = m + 1 := ⟨k - 1, by omega⟩
    simp only [spec_bdBand.l2]
    rw [w64 (x := (base.length : Int) + 1) (by omega) (by omega), if_neg (by simp <;> omega), if_pos (by simp; omega)]
    have := hc k (by simp at hk; omega)
    simpa [popR] using this
  | [a], k, hall, hk, hl, hc => by
    obtain ⟨k, rfl⟩ : ∃ m, k = m + 1 := ⟨k - 1, by omega⟩
    simp only [spec_bdBand.l2]
    rw [w64 (x := (base.length : Int) + 1) (by omega) (by omega), if_neg (by simp <;> omega), if_pos (by simp; omega)]
    have := hc k (by simp at hk; omega)
    simpa [popR] using this
theorem bdBand_row (L : Nat) (hL : L ≤ 1000) (s : List S34) (hs : s.length = L) (sd : Int) (t : List S34) (ht : t.length = L) (base : List S34) (hb : base.length ≤ 1000)
    (hsd : (sd = 0 ∧ t = s) ∨ (sd = 1 ∧ t = s.reverse)) (R : List S34) (K0 : Nat) (r : List S34) : ∀ (pre st : List S34) (k : Nat), allP r → allP st → pre ++ r = t → st.length ≤ pre.length → 0 < st.length + r.length → K0 + r.length * (L + 4) + 1 ≤ k →
    (∀ k, K0 ≤ k → spec_bdBand.l0 k s (base ++ (chainR st r).reverse.dropLast) (wrap64 (sd + 1)) = some R) →
    spec_bdBand.l1 k s (base ++ st.reverse) sd (base.length : Int) (L : Int) (pre.length : Int) = some R := by
  induction r with
  | nil =>
    intro pre st k _ _ h ha hpos hk hc
    obtain ⟨k, rfl⟩ : ∃ m, k = m + 1 := ⟨k - 1, by omega⟩
    simp only [List.length_nil, Nat.add_zero] at hpos hk
    have hpre : pre.length = L := by rw [← ht, ← h]; simp
    simp only [spec_bdBand.l1]
    have hlen : (base ++ st.reverse).length = base.length + st.length := by simp
    rw [if_neg (by omega), hlen, w64 (x := ((base.length + st.length : Nat) : Int) - 1) (by omega) (by omega), if_pos (by omega), if_pos (by omega)]
    have h1 : (base ++ st.reverse).take (((base.length + st.length : Nat) : Int) - 1).toNat = base ++ st.reverse.dropLast := by
      rw [show (((base.length + st.length : Nat) : Int) - 1).toNat = base.length + (st.length - 1) by omega, List.take_length_add_append, List.dropLast_eq_take, List.length_reverse]
    rw [h1]
    exact hc k (by omega)
  | cons p r ih =>
    intro pre st k hr hst h ha hpos hk hc
    obtain ⟨k, rfl⟩ : ∃ m, k = m + 1 := ⟨k - 1, by omega⟩
    have hlen : pre.length + (r.length + 1) = L := by rw [← ht, ← h]; simp
    simp only [List.length_cons] at hk
    rw [Nat.succ_mul] at hk
    have hq := popR_length p st
    have hin : ∀ k, K0 + r.length * (L + 4) + 1 + st.length + 1 ≤ k → spec_bdBand.l2 k s (base ++ st.reverse) sd (base.length : Int) (L : Int) (pre.length : Int) p.f0 p.f1 = some R := fun k hk => by
      refine bdBand_in s sd (L : Int) (pre.length : Int) base (by omega) p (hr p (by simp)) R (K0 + r.length * (L + 4) + 1) st k hst (by omega) (by omega) (fun k hk => ?_)
      have := ih (pre ++ [p]) (p :: popR p st) k (fun q hq => hr q (List.mem_cons_of_mem _ hq)) (fun q hq => by
        rcases List.mem_cons.1 hq with rfl | hq
        · exact hr _ (by simp)
        · exact hst q (popR_sub p st q hq)) (by simpa using h) (by simp; omega) (by simp only [List.length_cons]; omega) hk (fun k hk => by
          have := hc k hk
          unfold chainR at this
          exact this)
      rw [w64 (by omega) (by omega)]
      simpa using this
    simp only [spec_bdBand.l1]
    rw [if_pos (by omega), if_pos (by omega), if_pos (by omega)]
    have hj : ∀ k, K0 + r.length * (L + 4) + 1 + st.length + 2 ≤ k → spec_bdBand.j2 k s (base ++ st.reverse) sd (base.length : Int) (L : Int) (pre.length : Int) p.f0 p.f1 = some R := fun k hk => by
      obtain ⟨k, rfl⟩ : ∃ m, k = m + 1 := ⟨k - 1, by omega⟩
      simp only [spec_bdBand.j2]
      exact hin k (by omega)
    rcases hsd with ⟨rfl, e⟩ | ⟨rfl, e⟩
    · rw [if_neg (by decide), show s = pre ++ p :: r by rw [h, e], rdPeg]
      have := hj k (by omega)
      rw [show s = pre ++ p :: r by rw [h, e]] at this
      exact this
    · have hrev : s = r.reverse ++ p :: pre.reverse := by
        have : s = t.reverse := by rw [e, List.reverse_reverse]
        rw [this, ← h]
        simp
      have hr2 : rd_T34 s (wrap64 (wrap64 ((s.length : Int) - 1) - (pre.length : Int))) = p := by
        rw [hs, w64 (x := (L : Int) - 1) (by omega) (by omega), w64 (by omega) (by omega), show (L : Int) - 1 - (pre.length : Int) = (r.reverse.length : Int) by simp; omega, hrev]
        exact rdPeg _ _ _
      rw [if_pos rfl, hr2, if_pos (by rw [hs, w64 (x := (L : Int) - 1) (by omega) (by omega), w64 (by omega) (by omega)]; omega), if_pos (by rw [hs, w64 (x := (L : Int) - 1) (by omega) (by omega), w64 (by omega) (by omega)]; omega)]
      exact hj k (by omega)
theorem bdBand_eq (k : Nat) (l : List S34) (h1 : 1 ≤ l.length) (hl : l.length ≤ 100) (hp : allP l) (hk : 40000 ≤ k) :
    spec_bdBand.f k l = some (if l.length < 3 then sortP l else hullP (sortP l)) := by
  have hs : allP (sortP l) := fun q hq => hp q ((sortP_perm l).subset hq)
  have hn := sortP_length l
  unfold spec_bdBand.f
  rw [bdSorted_eq k l (by omega) (by omega), Option.bind_some, hn]
  by_cases c : l.length < 3
  · rw [if_pos (by omega), if_pos c]
  · rw [if_neg (by omega), if_neg c]
    have hm : l.length * (l.length + 4) ≤ 100 * 104 := Nat.mul_le_mul (by omega) (by omega)
    have e1 := chainR_length (sortP l) []
    simp only [List.length_nil, Nat.zero_add] at e1
    generalize hsv : sortP l = s at *
    have hlast : ∀ k, 1 ≤ k → spec_bdBand.l0 k s (hullP s) (wrap64 (1 + 1)) = some (hullP s) := fun k hk => by
      obtain ⟨k, rfl⟩ : ∃ m, k = m + 1 := ⟨k - 1, by omega⟩
      simp only [spec_bdBand.l0]
      rw [w64 (by omega) (by omega), if_neg (by decide)]
    have hrow2 : ∀ k, 11000 ≤ k → spec_bdBand.l0 k s ((chainR [] s).reverse.dropLast) (wrap64 (0 + 1)) = some (hullP s) := fun k hk => by
      obtain ⟨k, rfl⟩ : ∃ m, k = m + 1 := ⟨k - 1, by omega⟩
      simp only [spec_bdBand.l0]
      rw [w64 (by omega) (by omega), if_pos (by decide), hn]
      have := bdBand_row l.length (by omega) s hn (0 + 1) s.reverse (by simpa using hn) ((chainR [] s).reverse.dropLast) (by simp; omega) (.inr ⟨by decide, rfl⟩) (hullP s) 1 s.reverse [] [] k (fun q hq => hs q (by simpa using hq)) (by intro q hq; simp at hq) (by simp) (by simp) (by simp; omega) (by rw [List.length_reverse, hn]; omega) (fun k hk => by rw [show (0 : Int) + 1 + 1 = 1 + 1 from rfl]; exact hlast k hk)
      simpa using this
    obtain ⟨k, rfl⟩ : ∃ m, k = m + 1 := ⟨k - 1, by omega⟩
    simp only [spec_bdBand.l0]
    rw [if_pos (by decide), hn]
    have := bdBand_row l.length (by omega) s hn 0 s hn [] (by simp) (.inl ⟨rfl, rfl⟩) (hullP s) 11000 s [] [] k hs (by intro q hq; simp at hq) (by simp) (by simp) (by simp; omega) (by rw [hn]; omega) (fun k hk => by simpa using hrow2 k hk)
    simpa using this

theorem hull_two (a b : S34) : hullP [a, b] = [a, b] := by
  unfold hullP
  simp [chainR, popR]
theorem bands_eq (k : Nat) (l : List S34) (h1 : 1 ≤ l.length) (hl : l.length ≤ 100) (hp : allP l) (hk : 40000 ≤ k) : ∃ r, spec_bdBand.f k l = some r ∧ impl_band.f k l = some r ∧ r.length ≤ 200 := by
  have hn := sortP_length l
  have q1 := chainR_length (sortP l) []
  have q2 := chainR_length (sortP l).reverse []
  simp only [List.length_nil, Nat.zero_add, List.length_reverse] at q1 q2
  have hh : (hullP (sortP l)).length ≤ 200 := by
    unfold hullP
    simp only [List.length_append, List.length_dropLast, List.length_reverse]
    omega
  refine ⟨_, bdBand_eq k l h1 hl hp hk, ?_, ?_⟩
  · rw [band_eq k l h1 hl hp (by omega)]
    by_cases c1 : l.length = 1
    · rw [if_pos c1, if_pos (by omega)]
    · rw [if_neg c1]
      by_cases c2 : l.length < 3
      · rw [if_pos c2]
        have h2 : (sortP l).length = 2 := by omega
        obtain ⟨a, b, e⟩ : ∃ a b, sortP l = [a, b] := by
          match hq : sortP l, h2 with
          | [a, b], _ => exact ⟨a, b, rfl⟩
        rw [e, hull_two]
      · rw [if_neg c2]
  · split
    · omega
    · exact hh

theorem ltP_trans {x y z : S34} (h1 : ltP x y = true) (h2 : ltP z y = false) : ltP x z = true := by
  unfold ltP at *
  rw [decide_eq_true_eq] at *
  rw [decide_eq_false_iff_not] at h2
  omega
theorem ltP_irrefl (x : S34) : ltP x x = false := by
  unfold ltP
  rw [decide_eq_false_iff_not]
  omega
theorem ltP_of_ne {x y : S34} (h : ltP y x = false) (hne : x ≠ y) : ltP x y = true := by
  cases h2 : ltP x y with
  | true => rfl
  | false => exact absurd (ltP_total h2 h) hne
theorem sorted_get (s : List S34) (hs : s.Pairwise fun a b => ltP b a = false) (i j : Nat) (hij : i ≤ j) (hj : j < s.length) : ltP s[j] (s[i]'(by omega)) = false := by
  rcases Nat.lt_or_ge i j with h | h
  · exact List.pairwise_iff_getElem.1 hs i j (by omega) hj h
  · have : i = j := by omega
    subst this
    exact ltP_irrefl _
theorem compact_facts (s : List S34) (hs : s.Pairwise fun a b => ltP b a = false) (m : Nat) : m ≤ s.length →
    (∀ x, x ∈ Go.Lib.compactUpTo s.toArray m ↔ x ∈ s.take m) ∧ ((Go.Lib.compactUpTo s.toArray m).Pairwise fun a b => ltP a b = true) := by
  induction m with
  | zero =>
    intro _
    refine ⟨fun x => ?_, ?_⟩
    · simp [Go.Lib.compactUpTo]
    · simp [Go.Lib.compactUpTo]
  | succ m ih =>
    intro hm
    obtain ⟨h1, h2⟩ := ih (by omega)
    have hg : s.toArray[m]! = s[m] := by rw [getElem!_pos s.toArray m (by simp; omega)]; simp
    rw [Go.Lib.compactUpTo_succ, List.take_add_one, List.getElem?_eq_getElem (by omega), Option.toList_some, hg]
    by_cases c : Go.Lib.keeps s.toArray m = true
    · rw [if_pos c]
      refine ⟨fun x => by rw [List.mem_append, List.mem_append, h1], ?_⟩
      rw [List.pairwise_append]
      refine ⟨h2, List.pairwise_singleton _ _, fun x hx y hy => ?_⟩
      obtain rfl := List.mem_singleton.1 hy
      obtain ⟨i, hi, rfl⟩ := List.getElem_of_mem ((h1 x).1 hx)
      rw [List.length_take] at hi
      rw [List.getElem_take]
      have hm0 : 0 < m := by omega
      have hne : s[m] ≠ s[m - 1] := by
        unfold Go.Lib.keeps at c
        rw [decide_eq_true_eq] at c
        rcases c with c | c
        · omega
        · rw [hg, getElem!_pos s.toArray (m - 1) (by simp; omega)] at c
          simpa using c
      have hlt : ltP s[m - 1] s[m] = true := ltP_of_ne (sorted_get s hs (m - 1) m (by omega) (by omega)) (Ne.symm hne)
      cases hq : ltP s[i] s[m] with
      | true => rfl
      | false =>
        have h3 := sorted_get s hs i (m - 1) (by omega) (by omega)
        have h4 := ltP_trans hlt hq
        rw [h3] at h4
        exact absurd h4 (by decide)
    · rw [if_neg c]
      have hm0 : m ≠ 0 := by
        rintro rfl
        exact c (by simp [Go.Lib.keeps])
      have he : s[m] = s[m - 1] := by
        unfold Go.Lib.keeps at c
        rw [decide_eq_true_eq, not_or, Classical.not_not, hg, getElem!_pos s.toArray (m - 1) (by simp; omega)] at c
        simpa using c.2
      refine ⟨fun x => ?_, by simpa using h2⟩
      rw [List.append_nil, h1, List.mem_append, List.mem_singleton]
      refine ⟨.inl, fun h => h.elim id fun h => ?_⟩
      rw [h, he, List.mem_take_iff_getElem]
      exact ⟨m - 1, by omega, rfl⟩
theorem strict_nodup (l : List S34) (h : l.Pairwise fun a b => ltP a b = true) : l.Nodup := by
  refine List.Pairwise.imp ?_ h
  intro a b hab he
  subst he
  rw [ltP_irrefl] at hab
  exact absurd hab (by decide)
theorem strict_sorted (l : List S34) (h : l.Pairwise fun a b => ltP a b = true) : l.Pairwise fun a b => ltP b a = false := by
  refine List.Pairwise.imp ?_ h
  intro a b hab
  unfold ltP at *
  rw [decide_eq_true_eq] at hab
  rw [decide_eq_false_iff_not]
  omega
/-- Pegs in order, each once. -/
def setP (l : List S34) : List S34 := Go.Lib.compactUpTo (sortP l).toArray (sortP l).length
theorem setP_mem (l : List S34) (x : S34) : x ∈ setP l ↔ x ∈ l := by
  have := (compact_facts (sortP l) (sortP_sorted l) (sortP l).length (Nat.le_refl _)).1 x
  rw [List.take_length] at this
  exact this.trans (sortP_perm l).mem_iff
theorem setP_nodup (l : List S34) : (setP l).Nodup := strict_nodup _ (compact_facts (sortP l) (sortP_sorted l) (sortP l).length (Nat.le_refl _)).2
theorem setP_sorted (l : List S34) : (setP l).Pairwise fun a b => ltP b a = false := strict_sorted _ (compact_facts (sortP l) (sortP_sorted l) (sortP l).length (Nat.le_refl _)).2
theorem setP_eq (l m : List S34) (hm : m.Nodup) (h : ∀ x, x ∈ m ↔ x ∈ l) : setP l = sortP m :=
  sorted_one (((List.perm_ext_iff_of_nodup (setP_nodup l) hm).2 fun x => (setP_mem l x).trans (h x).symm).trans (sortP_perm m).symm) (setP_sorted l) (sortP_sorted m)
theorem setP_length (l : List S34) : (setP l).length = l.length ↔ l.Nodup := by
  constructor
  · intro h
    have hle : ∀ n, n ≤ (sortP l).length → (∃ j, j < n ∧ Go.Lib.keeps (sortP l).toArray j = false) → (Go.Lib.compactUpTo (sortP l).toArray n).length < n := by
      intro n
      induction n with
      | zero => rintro _ ⟨j, hj, _⟩; omega
      | succ n ih =>
        rintro hn ⟨j, hj, hk⟩
        rw [Go.Lib.compactUpTo_succ, List.length_append]
        have hc : (Go.Lib.compactUpTo (sortP l).toArray n).length ≤ n := by
          unfold Go.Lib.compactUpTo
          rw [List.length_map]
          exact Nat.le_trans (List.length_filter_le _ _) (by simp)
        by_cases e : j = n
        · subst e
          rw [hk]
          simp
          omega
        · have := ih (by omega) ⟨j, by omega, hk⟩
          split <;> simp <;> omega
    have hall : ∀ j, j < (sortP l).length → Go.Lib.keeps (sortP l).toArray j = true := by
      intro j hj
      cases hk : Go.Lib.keeps (sortP l).toArray j with
      | true => rfl
      | false =>
        have := hle (sortP l).length (Nat.le_refl _) ⟨j, hj, hk⟩
        unfold setP at h
        rw [h, sortP_length] at this
        omega
    have he : setP l = sortP l := by
      unfold setP
      have := Go.Lib.compact_all (sortP l) hall
      exact this
    have := setP_nodup l
    rw [he] at this
    exact (sortP_perm l).nodup_iff.1 this
  · intro h
    rw [setP_eq l l h (fun _ => Iff.rfl), sortP_length]

theorem samePeg_iff (p q : S34) : samePeg p q = true ↔ p = q := by
  unfold samePeg
  rw [Bool.and_eq_true, beq_iff_eq, beq_iff_eq]
  constructor
  · rintro ⟨h1, h2⟩
    cases p; cases q
    simp only at h1 h2
    rw [h1, h2]
  · rintro rfl
    exact ⟨rfl, rfl⟩
theorem distFrom_iff (l : List S34) : ∀ pre : List S34, distFrom pre l = true ↔ (∀ q ∈ l, q ∉ pre) ∧ l.Nodup := by
  induction l with
  | nil => intro pre; simp [distFrom]
  | cons p r ih =>
    intro pre
    have hany : pre.any (samePeg p) = true ↔ p ∈ pre := by
      rw [List.any_eq_true]
      constructor
      · rintro ⟨q, hq, hs⟩
        rw [samePeg_iff] at hs
        subst hs
        exact hq
      · intro h
        exact ⟨p, h, (samePeg_iff p p).2 rfl⟩
    unfold distFrom
    rw [Bool.and_eq_true, ih, Bool.not_eq_true', ← Bool.not_eq_true, hany, List.nodup_cons]
    constructor
    · rintro ⟨h1, h2, h3⟩
      refine ⟨fun q hq => ?_, ?_, h3⟩
      · rcases List.mem_cons.1 hq with rfl | hq
        · exact h1
        · exact fun h => h2 q hq (List.mem_append_left _ h)
      · exact fun h => h2 p h (by simp)
    · rintro ⟨h1, h2, h3⟩
      refine ⟨h1 p (by simp), fun q hq h => ?_, h3⟩
      rcases List.mem_append.1 h with h | h
      · exact h1 q (List.mem_cons_of_mem _ hq) h
      · obtain rfl := List.mem_singleton.1 h
        exact h2 hq
theorem goodB_iff (l : List S34) : goodB l = true ↔ (1 ≤ l.length ∧ l.length ≤ 30) ∧ allP l ∧ l.Nodup := by
  unfold goodB
  rw [Bool.and_eq_true, Bool.and_eq_true, decide_eq_true_eq, List.all_eq_true, distFrom_iff]
  have e : (∀ x ∈ l, pegB x = true) ↔ allP l := by
    unfold allP pegB
    simp
  rw [e]
  simp

theorem bdHas_loop (x y : Int) (l : List S34) (hl : l.length ≤ 1048576) (d : Nat) : ∀ (k i : Nat), i + d = l.length → d < k →
    spec_bdHas.l0 k l (l.length : Int) (i : Int) x y = some ((l.drop i).any fun p => x == p.f0 && y == p.f1) := by
  induction d with
  | zero =>
    intro k i hi hk
    obtain ⟨k, rfl⟩ : ∃ m, k = m + 1 := ⟨k - 1, by omega⟩
    simp only [spec_bdHas.l0]
    rw [if_neg (by omega), List.drop_of_length_le (by omega)]
    rfl
  | succ d ih =>
    intro k i hi hk
    obtain ⟨k, rfl⟩ : ∃ m, k = m + 1 := ⟨k - 1, by omega⟩
    have hlt : i < l.length := by omega
    have hr : rd_T34 l (i : Int) = l[i] := by
      unfold rd_T34
      simp [List.getD_eq_getElem?_getD, List.getElem?_eq_getElem hlt]
    simp only [spec_bdHas.l0]
    rw [if_pos (by omega), if_pos (by omega), if_pos (by omega), hr, List.drop_eq_getElem_cons hlt, List.any_cons]
    by_cases c : (x == l[i].f0 && y == l[i].f1) = true
    · rw [if_pos c, c]
      rfl
    · rw [if_neg c, w64 (by omega) (by omega), Bool.eq_false_iff.mpr c, Bool.false_or]
      exact ih k (i + 1) (by omega) (by omega)
theorem bdHas_eq (k : Nat) (l : List S34) (p : S34) (hl : l.length ≤ 1048576) (hk : l.length < k) : spec_bdHas.f k l p.f0 p.f1 = some (l.any (samePeg p)) := by
  unfold spec_bdHas.f
  have := bdHas_loop p.f0 p.f1 l hl l.length k 0 (by omega) hk
  rw [show ((0 : Nat) : Int) = 0 from rfl] at this
  rw [this, List.drop_zero]
  rfl

/-- What the reference puts together. -/
def uniP (acc : List S34) : List S34 → List S34
  | [] => acc
  | p :: r => if acc.any (samePeg p) then uniP acc r else uniP (acc ++ [p]) r
theorem any_same (acc : List S34) (p : S34) : acc.any (samePeg p) = true ↔ p ∈ acc := by
  rw [List.any_eq_true]
  constructor
  · rintro ⟨q, hq, hs⟩
    rw [samePeg_iff] at hs
    subst hs
    exact hq
  · intro h
    exact ⟨p, h, (samePeg_iff p p).2 rfl⟩
theorem uniP_mem (r : List S34) : ∀ (acc : List S34) (x : S34), x ∈ uniP acc r ↔ x ∈ acc ∨ x ∈ r := by
  induction r with
  | nil => intro acc x; simp [uniP]
  | cons p r ih =>
    intro acc x
    unfold uniP
    by_cases c : acc.any (samePeg p) = true
    · rw [if_pos c, ih, List.mem_cons]
      rw [any_same] at c
      constructor
      · rintro (h | h)
        · exact .inl h
        · exact .inr (.inr h)
      · rintro (h | rfl | h)
        · exact .inl h
        · exact .inl c
        · exact .inr h
    · rw [if_neg c, ih, List.mem_append, List.mem_singleton, List.mem_cons, or_assoc]
theorem uniP_nodup (r : List S34) : ∀ acc : List S34, acc.Nodup → (uniP acc r).Nodup := by
  induction r with
  | nil => intro acc h; exact h
  | cons p r ih =>
    intro acc h
    unfold uniP
    by_cases c : acc.any (samePeg p) = true
    · rw [if_pos c]
      exact ih acc h
    · rw [if_neg c]
      rw [any_same] at c
      refine ih _ ?_
      rw [List.nodup_append]
      refine ⟨h, by simp, fun a ha b hb => ?_⟩
      obtain rfl := List.mem_singleton.1 hb
      exact fun e => c (e ▸ ha)
theorem uniP_length (r : List S34) : ∀ acc : List S34, (uniP acc r).length ≤ acc.length + r.length := by
  induction r with
  | nil => intro acc; simp [uniP]
  | cons p r ih =>
    intro acc
    unfold uniP
    split
    · have := ih acc
      simp only [List.length_cons]
      omega
    · have := ih (acc ++ [p])
      simp only [List.length_append, List.length_cons, List.length_nil] at this ⊢
      omega
theorem joinS_loop (Lr : Nat) (hLr : Lr ≤ 100) (R : List S34 × Bool) (K0 : Nat) (r : List S34) : ∀ (pre acc : List S34) (k : Nat), pre.length + r.length = Lr → acc.length + r.length ≤ 200 → K0 + 300 + r.length + 1 ≤ k →
    (∀ k, K0 ≤ k → ((spec_bdGood.f k (uniP acc r)).bind fun t => if t = true then (spec_bdBand.f k (uniP acc r)).bind fun u => some (u, true) else some (([] : List S34), false)) = some R) →
    spec_JoinBands.l0 k acc (pre ++ r) (Lr : Int) (pre.length : Int) = some R := by
  induction r with
  | nil =>
    intro pre acc k h ha hk hc
    obtain ⟨k, rfl⟩ : ∃ m, k = m + 1 := ⟨k - 1, by omega⟩
    simp only [spec_JoinBands.l0]
    rw [if_neg (by simp at h; omega)]
    exact hc k (by omega)
  | cons p r ih =>
    intro pre acc k h ha hk hc
    obtain ⟨k, rfl⟩ : ∃ m, k = m + 1 := ⟨k - 1, by omega⟩
    simp only [List.length_cons] at h ha hk
    simp only [spec_JoinBands.l0]
    rw [if_pos (by omega), if_pos (by omega), if_pos (by simp; omega), rdPeg, bdHas_eq k acc p (by omega) (by omega), Option.bind_some]
    unfold uniP at hc
    by_cases c : acc.any (samePeg p) = true
    · rw [if_pos c] at hc
      rw [if_pos c, w64 (by omega) (by omega)]
      have := ih (pre ++ [p]) acc k (by simp; omega) (by omega) (by omega) hc
      simpa using this
    · rw [if_neg c] at hc
      rw [if_neg c, if_pos (by omega), w64 (by omega) (by omega)]
      have := ih (pre ++ [p]) (acc ++ [p]) k (by simp; omega) (by simp; omega) (by omega) hc
      simpa using this

theorem joins_eq (k : Nat) (hk : 50000 ≤ k) (a b : List S34) : ∃ r g, spec_JoinBands.f k a b = some (r, g) ∧ impl_JoinBands.f k a b = some (r, g) ∧ r.length ≤ 200 ∧ (r, g) = (if goodB a = true ∧ goodB b = true ∧ (setP (a ++ b)).length ≤ 30 then ((if (setP (a ++ b)).length < 3 then setP (a ++ b) else hullP (setP (a ++ b))), true) else ([], false)) := by
  obtain ⟨k, rfl⟩ : ∃ m, k = m + 1 := ⟨k - 1, by omega⟩
  unfold spec_JoinBands.f impl_JoinBands.f
  rw [bdGood_eq (k + 1) (by omega), areDiff_eq (k + 1) (by omega), Option.bind_some, Option.bind_some]
  by_cases g1 : goodB a = true
  · rw [if_pos g1, if_pos g1, bdGood_eq (k + 1) (by omega), areDiff_eq (k + 1) (by omega), Option.bind_some, Option.bind_some]
    by_cases g2 : goodB b = true
    · simp only [spec_JoinBands.j0, impl_JoinBands.j0]
      rw [if_neg (by simp [g2]), if_neg (by simp [g2])]
      obtain ⟨a1, a2, a3⟩ := (goodB_iff a).1 g1
      obtain ⟨b1, b2, b3⟩ := (goodB_iff b).1 g2
      have hu1 := uniP_nodup b a a3
      have hu2 := uniP_mem b a
      have hu3 := uniP_length b a
      have hset : setP (a ++ b) = sortP (uniP a b) := setP_eq (a ++ b) (uniP a b) hu1 (fun x => by rw [hu2, List.mem_append])
      have hlen : (setP (a ++ b)).length = (uniP a b).length := by rw [hset, sortP_length]
      have hsp : allP (uniP a b) := fun q hq => by
        rcases (hu2 q).1 hq with h | h
        · exact a2 q h
        · exact b2 q h
      have hpos : 1 ≤ (uniP a b).length := by
        cases ha : a with
        | nil => rw [ha] at a1; simp at a1
        | cons x r =>
          have : x ∈ uniP a b := (hu2 x).2 (.inl (by rw [ha]; simp))
          rw [ha] at this
          exact List.length_pos_of_mem this
      have himpl : ∀ k, 50000 - 1 ≤ k → ((slices_Concat_impl_Peg_impl_Peg.f k [a, b]).bind fun t => (impl_sorted.f t).bind fun t => (slices_Compact_impl_Peg_impl_Peg.f t).bind fun t => if (t.length : Int) > 30 then some (([] : List S34), false) else (impl_band.f k t).bind fun t => some (t, true)) = (if ((uniP a b).length : Int) > 30 then some (([] : List S34), false) else (impl_band.f k (setP (a ++ b))).bind fun t => some (t, true)) := fun k hk => by
        rw [concat_eq k a b (by omega) (by omega) (by omega), Option.bind_some, sorted_eq _ (by simp; omega), Option.bind_some]
        unfold slices_Compact_impl_Peg_impl_Peg.f
        rw [if_pos (by rw [sortP_length]; simp; omega), Option.bind_some]
        show (if ((setP (a ++ b)).length : Int) > 30 then _ else _) = _
        rw [hlen]
        rfl
      rw [himpl k (by omega), Option.bind_some, List.nil_append, if_pos (by simp; omega)]
      have hgood : goodB (uniP a b) = decide ((uniP a b).length ≤ 30) := by
        rw [Bool.eq_iff_iff, goodB_iff, decide_eq_true_eq]
        exact ⟨fun h => h.1.2, fun h => ⟨⟨hpos, h⟩, hsp, hu1⟩⟩
      have hss : sortP (setP (a ++ b)) = setP (a ++ b) := sorted_one (sortP_perm _) (sortP_sorted _) (setP_sorted _)
      by_cases c : (uniP a b).length ≤ 30
      · have hpA : allP (setP (a ++ b)) := fun q hq => hsp q ((hu2 q).2 (by rw [setP_mem, List.mem_append] at hq; exact hq))
        obtain ⟨r, h1, h2, h3⟩ := bands_eq k (setP (a ++ b)) (by omega) (by omega) hpA (by omega)
        have hr : r = (if (setP (a ++ b)).length < 3 then setP (a ++ b) else hullP (setP (a ++ b))) := by
          rw [bdBand_eq k _ (by omega) (by omega) hpA (by omega), hss] at h1
          exact (Option.some.inj h1).symm
        have hspec : ∀ k, 40000 ≤ k → spec_bdBand.f k (uniP a b) = some r := fun k hk => by
          rw [bdBand_eq k _ hpos (by omega) hsp hk, ← hset, hr, hlen]
        refine ⟨r, true, ?_, ?_, h3, ?_⟩
        · have := joinS_loop b.length (by omega) (r, true) 40000 b [] a k (by simp) (by omega) (by omega) (fun k hk => by
            rw [bdGood_eq k (by omega), Option.bind_some, hgood, if_pos (by simpa using c), hspec k hk, Option.bind_some])
          simpa using this
        · rw [if_neg (by omega), h2, Option.bind_some]
        · rw [if_pos ⟨g1, g2, by omega⟩, ← hr]
      · refine ⟨[], false, ?_, ?_, by simp, ?_⟩
        · have := joinS_loop b.length (by omega) ([], false) 40000 b [] a k (by simp) (by omega) (by omega) (fun k hk => by
            rw [bdGood_eq k (by omega), Option.bind_some, hgood, if_neg (by simpa using c)])
          simpa using this
        · rw [if_pos (by omega)]
        · rw [if_neg (fun h => c (by omega))]
    · simp only [spec_JoinBands.j0, impl_JoinBands.j0]
      rw [if_pos (by simp [g2]), if_pos (by simp [g2])]
      exact ⟨[], false, rfl, rfl, by simp, by rw [if_neg (fun h => g2 h.2.1)]⟩
  · rw [if_neg g1, if_neg g1]
    simp only [spec_JoinBands.j0, impl_JoinBands.j0]
    rw [if_pos trivial, if_pos trivial]
    exact ⟨[], false, rfl, rfl, by simp, by rw [if_neg (fun h => g1 h.1)]⟩

theorem szPegS_from (l : List S43) (hl : l.length ≤ maxLen) (n : Nat) (hn : n ≤ 1048576) : laws_szPegS.f l (n : Int) = some (if n < l.length then -1 else (n : Int) - (l.length : Int)) := by
  unfold maxLen at hl
  unfold laws_szPegS.f
  rw [w64 (by omega) (by omega)]
  by_cases c : n < l.length
  · rw [if_pos (by omega), if_pos c]
  · rw [if_neg (by omega), if_neg c]

theorem markAny_loop (a : Nat) (ha : a ≤ 4000000) (n : Nat) (hn : n ≤ 1048576) (d : Nat) : ∀ (k i : Nat) (x : List S34), i + d = n → d < k → x.length = n →
    ∃ l, laws_markPegS.l0 k x ((a + 2 * i : Nat) : Int) (i : Int) = some (((a + 2 * n : Nat) : Int), l) := by
  induction d with
  | zero =>
    intro k i x hi hk hx
    obtain ⟨k, rfl⟩ : ∃ m, k = m + 1 := ⟨k - 1, by omega⟩
    simp only [laws_markPegS.l0]
    rw [if_neg (by omega)]
    exact ⟨x, by rw [show i = n by omega]⟩
  | succ d ih =>
    intro k i x hi hk hx
    obtain ⟨k, rfl⟩ : ∃ m, k = m + 1 := ⟨k - 1, by omega⟩
    simp only [laws_markPegS.l0]
    rw [if_pos (by omega), if_pos (by omega), Option.bind_some, w64 (x := ((a + 2 * i : Nat) : Int) + 1) (by omega) (by omega), w64 (by omega) (by omega), w64 (by omega) (by omega),
      show ((a + 2 * i : Nat) : Int) + 1 + 1 = ((a + 2 * (i + 1) : Nat) : Int) by omega, show (i : Int) + 1 = ((i + 1 : Nat) : Int) by omega]
    exact ih k (i + 1) _ (by omega) (by omega) (by simpa using hx)
theorem markPegS_any (k : Nat) (a : Nat) (ha : a ≤ 4000000) (l : List S34) (hl : l.length ≤ 1048576) (hk : l.length < k) : ∃ m, laws_markPegS.f k l (a : Int) = some (((a + 2 * l.length : Nat) : Int), m) :=
  markAny_loop a ha l.length hl l.length k 0 l (by omega) hk rfl

/-- The one pure statement of the law FnExactJoinBands. -/
def FnExactJoinBands.Pure : Prop :=
  ∀ (l0 : List (S43)) (l1 : List (S43)), l0.length ≤ maxLen → (∀ x ∈ l0, I64 x.f0 ∧ I64 x.f1) → l1.length ≤ maxLen → (∀ x ∈ l1, I64 x.f0 ∧ I64 x.f1) → ∃ k, laws_FnExactJoinBands.f k l0 l1 = some true

theorem FnExactJoinBands : FnExactJoinBands.Pure := by
  intro p q hp _ hq _
  obtain ⟨k, hk⟩ : ∃ k : Nat, 1048600 ≤ k := ⟨1048600, Nat.le_refl _⟩
  refine ⟨k + 3, ?_⟩
  unfold laws_FnExactJoinBands.f
  rw [szPegS_eq p hp, Option.bind_some]
  by_cases c : 1048576 < p.length
  · rw [if_pos c, if_pos (by decide)]
  · rw [if_neg c, if_neg (by omega), show (1048576 : Int) - (p.length : Int) = ((1048576 - p.length : Nat) : Int) by omega, szPegS_from q hq _ (by omega), Option.bind_some]
    by_cases c2 : 1048576 - p.length < q.length
    · rw [if_pos c2, if_pos (by decide)]
    · rw [if_neg c2, if_neg (by omega), toPegS_eq (k + 3) p (by omega) (by omega), Option.bind_some, toPegS_eq (k + 3) q (by omega) (by omega), Option.bind_some]
      have e : ∃ r g, r.length ≤ 200 ∧ ∀ k, 1048600 ≤ k → spec_JoinBands.f k (p.map convPeg) (q.map convPeg) = some (r, g) ∧ impl_JoinBands.f k (p.map convPeg) (q.map convPeg) = some (r, g) := by
        obtain ⟨r, g, _, _, h3, h4⟩ := joins_eq 50000 (Nat.le_refl _) (p.map convPeg) (q.map convPeg)
        refine ⟨r, g, h3, fun k hk => ?_⟩
        obtain ⟨r', g', h1', h2', _, h4'⟩ := joins_eq k (by omega) (p.map convPeg) (q.map convPeg)
        have e : (r', g') = (r, g) := h4'.trans h4.symm
        rw [h1', h2', e]
        exact ⟨rfl, rfl⟩
      obtain ⟨r, g, hr, hall⟩ := e
      rw [(hall (k + 3) (by omega)).1, Option.bind_some, Option.bind_some, Option.bind_some, (hall (k + 3) (by omega)).2, Option.bind_some, eqPegS_self (k + 3) r (by omega) (by omega), Option.bind_some, if_pos rfl]
      have hm0 : ∀ k, 1048600 ≤ k → laws_markPegS.f k (p.map convPeg) 1 = some (((1 + 2 * (p.map convPeg).length : Nat) : Int), markedPegs 1 (p.map convPeg).length) := fun k hk => markPegS_eq k 1 (by omega) _ (by simp; omega) (by simp; omega)
      have hm1 : ∀ k, 1048600 ≤ k → ∃ n l, laws_markPegS.f k (q.map convPeg) ((1 + 2 * (p.map convPeg).length : Nat) : Int) = some (((n : Nat) : Int), l) := fun k hk => by
        obtain ⟨l, h⟩ := markPegS_any k (1 + 2 * (p.map convPeg).length) (by simp; omega) (q.map convPeg) (by simp; omega) (by simp; omega)
        exact ⟨_, l, h⟩
      have hm : ∀ k, 1048600 ≤ k → laws_markPegS.f k r 1 = some (((1 + 2 * r.length : Nat) : Int), markedPegs 1 r.length) := fun k hk => markPegS_eq k 1 (by omega) r (by omega) (by omega)
      have hh : ∀ k, 1048600 ≤ k → laws_heldPegS.f k (markedPegs 1 r.length) 1 = some ((1 + 2 * r.length : Nat) : Int) := fun k hk => heldPegS_eq k 1 (by omega) r.length (by omega) (by omega)
      obtain ⟨n, l, hn⟩ := hm1 (k + 2) (by omega)
      simp only [laws_FnExactJoinBands.j0]
      rw [if_neg (by simp), toPegS_eq (k + 2) p (by omega) (by omega), Option.bind_some, eqPegS_self (k + 2) (p.map convPeg) (by simp; omega) (by simp; omega), Option.bind_some, if_pos rfl, toPegS_eq (k + 2) q (by omega) (by omega), Option.bind_some, eqPegS_self (k + 2) (q.map convPeg) (by simp; omega) (by simp; omega), Option.bind_some, if_pos rfl, hm0 (k + 2) (by omega), Option.bind_some, hn, Option.bind_some, if_neg (by omega), eqPegS_self (k + 2) r (by omega) (by omega), Option.bind_some, if_pos rfl]
      simp only [laws_FnExactJoinBands.j1]
      rw [if_neg (by simp), hm (k + 1) (by omega), Option.bind_some, hh (k + 1) (by omega), Option.bind_some, if_neg (by omega), if_pos rfl, toPegS_eq (k + 1) p (by omega) (by omega), Option.bind_some, toPegS_eq (k + 1) q (by omega) (by omega), Option.bind_some, (hall (k + 1) (by omega)).2, Option.bind_some, eqPegS_self (k + 1) r (by omega) (by omega), Option.bind_some, if_pos rfl]
      simp only [laws_FnExactJoinBands.j2]
      rw [if_neg (by simp), hh k (by omega), Option.bind_some, if_neg (by omega), if_pos rfl]

end Go.Proofs.Ytaclbccjcjdbpaa.Pure
