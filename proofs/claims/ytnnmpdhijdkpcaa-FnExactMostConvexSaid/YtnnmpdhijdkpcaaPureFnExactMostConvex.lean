/- The program's MostConvex returns what the reference's returns, for all arguments. No condition. -/
import Derived.Test.YtnnmpdhijdkpcaaMWx0
import Derived.Test.YtnnmpdhijdkpcaaMWx2
import Derived.Test.YtnnmpdhijdkpcaaMWx3
import Derived.Test.YtnnmpdhijdkpcaaMWx4
import Derived.Test.YtnnmpdhijdkpcaaMWx5
import Derived.Test.YtnnmpdhijdkpcaaMWx6
import Derived.Test.YtnnmpdhijdkpcaaMWx7
import Derived.Test.YtnnmpdhijdkpcaaMWx8
import Derived.Test.YtnnmpdhijdkpcaaMWx9
import Derived.Test.YtnnmpdhijdkpcaaMWx10
import Derived.Test.YtnnmpdhijdkpcaaMWx11
import Derived.Test.YtnnmpdhijdkpcaaMWx12
import Derived.Test.YtnnmpdhijdkpcaaMWx13
import Derived.Test.YtnnmpdhijdkpcaaMWx14
import Derived.Test.YtnnmpdhijdkpcaaMWx15
import Derived.Test.YtnnmpdhijdkpcaaMWx16
import Derived.Test.YtnnmpdhijdkpcaaMWx17
import Derived.Test.YtnnmpdhijdkpcaaMWx18
import Derived.Test.YtnnmpdhijdkpcaaMWx19
import Derived.Test.YtnnmpdhijdkpcaaMWx20
import Derived.Test.YtnnmpdhijdkpcaaMWx21
import Derived.Test.YtnnmpdhijdkpcaaMWx22
import Derived.Test.YtnnmpdhijdkpcaaV
namespace Go.Proofs.Ytnnmpdhijdkpcaa.Pure
open Go.RowKit Go.Proofs.YtnnmpdhijdkpcaaV Go.Proofs.Ytnnmpdhijdkpcaa.MW Go.Proofs.YtnnmpdhijdkpcaaW.PrintWords Go.Proofs.YtnnmpdhijdkpcaaW.PrintLast Go.Proofs.YtnnmpdhijdkpcaaW.PrintMore

theorem in_eq (a lo hi : Int) : spec_l1In.f a lo hi = some (decide (lo ≤ a ∧ a ≤ hi)) := by
 unfold spec_l1In.f
 by_cases h : lo ≤ a
 ·rw [if_pos h]; simp [h]
 ·rw [if_neg h]; simp [h]

theorem within_eq (a lo hi : Int) : impl_within.f a lo hi = some (decide (lo ≤ a ∧ a ≤ hi)) := by
 unfold impl_within.f
 by_cases h : lo ≤ a
 ·rw [if_pos h]; simp [h]
 ·rw [if_neg h]; simp [h]

theorem w64 {x : Int} (h0 : -9223372036854775808 ≤ x) (h1 : x ≤ 9223372036854775807) : wrap64 x = x := by
 unfold wrap64
 omega

theorem mul_bd {x y : Int} (A B : Nat) (hx : -(A : Int) ≤ x ∧ x ≤ A) (hy : -(B : Int) ≤ y ∧ y ≤ B) : -((A * B : Nat) : Int) ≤ x * y ∧ x * y ≤ ((A * B : Nat) : Int) := by
 have h1 : x.natAbs ≤ A := by omega
 have h2 : y.natAbs ≤ B := by omega
 have h3 := Nat.mul_le_mul h1 h2
 rw [← Int.natAbs_mul] at h3
 omega

/-- A peg's numbers. -/
def pegP (x y : Int) : Prop := (-40 ≤ x ∧ x ≤ 40) ∧ (-40 ≤ y ∧ y ≤ 40)
instance (x y : Int) : Decidable (pegP x y) := by unfold pegP; infer_instance

theorem pgIs_eq (x y : Int) : spec_pgIs.f x y = some (decide (pegP x y)) := by
 unfold spec_pgIs.f pegP
 simp only [in_eq, Option.bind_some]
 by_cases c : -40 ≤ x ∧ x ≤ 40
 ·simp [c]
 ·simp [c]

theorem implIsPeg_eq (x y : Int) : impl_IsPeg.f x y = some (decide (pegP x y)) := by
 unfold impl_IsPeg.f pegP
 simp only [within_eq, Option.bind_some]
 by_cases c : -40 ≤ x ∧ x ≤ 40
 ·simp [c]
 ·simp [c]

theorem arePegs_loop (l : List S37) (hl : l.length ≤ 9223372036854775807) (d : Nat) : ∀ (k i : Nat), i + d = l.length → d < k →
  ∃ r, slices_IndexFunc_impl_Peg_impl_Peg.l0 k l (l.length : Int) (i : Int) = some r ∧ decide (r ≥ 0) = (l.drop i).any fun p => !decide (pegP p.f0 p.f1) := by
 induction d with
 | zero =>
  intro k i hi hk
  obtain ⟨k, rfl⟩ : ∃ m, k = m + 1 := ⟨k - 1, by omega⟩
  refine ⟨-1, ?_, ?_⟩
  ·simp only [slices_IndexFunc_impl_Peg_impl_Peg.l0]; rw [if_neg (by omega)]
  ·rw [List.drop_of_length_le (by omega)]; rfl
 | succ d ih =>
  intro k i hi hk
  obtain ⟨k, rfl⟩ : ∃ m, k = m + 1 := ⟨k - 1, by omega⟩
  have hlt : i < l.length := by omega
  have hd : l.drop i = l[i] :: l.drop (i + 1) := List.drop_eq_getElem_cons hlt
  have hr : rd_T37 l (i : Int) = l[i] := by
   unfold rd_T37
   simp [List.getD_eq_getElem?_getD, List.getElem?_eq_getElem hlt]
  simp only [slices_IndexFunc_impl_Peg_impl_Peg.l0]
  rw [if_pos (by omega), if_pos (by omega), if_pos (by omega), hr]
  unfold impl_arePegs_1.f
  simp only [implIsPeg_eq, Option.bind_some]
  by_cases c : pegP l[i].f0 l[i].f1
  ·obtain ⟨r, h1, h2⟩ := ih k (i + 1) (by omega) (by omega)
   refine ⟨r, ?_, ?_⟩
   ·rw [if_neg (by simp [c]), w64 (by omega) (by omega)]
    exact h1
   ·rw [h2, hd, List.any_cons]; simp [c]
  ·refine ⟨(i : Int), by rw [if_pos (by simp [c])], ?_⟩
   rw [hd, List.any_cons]
   simp [c]

theorem arePegs_eq (k : Nat) (l : List S37) (hl : l.length ≤ 9223372036854775807) (hk : l.length < k) : impl_arePegs.f k l = some (l.all fun p => decide (pegP p.f0 p.f1)) := by
 obtain ⟨r, h1, h2⟩ := arePegs_loop l hl l.length k 0 (by omega) hk
 unfold impl_arePegs.f slices_ContainsFunc_impl_Peg_impl_Peg.f slices_IndexFunc_impl_Peg_impl_Peg.f
 rw [show ((0 : Nat) : Int) = 0 from rfl] at h1
 rw [h1]
 simp only [Option.bind_some, h2, List.drop_zero]
 congr 1
 rw [List.all_eq_not_any_not]

/-- Twice the area of three points. -/
def tri (ax ay bx by_ cx cy : Int) : Int := (bx - ax) * (cy - ay) - (by_ - ay) * (cx - ax)

theorem pgTurn_eq (M : Nat) (hM : M ≤ 1000000) {ax ay bx by_ cx cy : Int} (h1 : -(M : Int) ≤ ax ∧ ax ≤ M) (h2 : -(M : Int) ≤ ay ∧ ay ≤ M) (h3 : -(M : Int) ≤ bx ∧ bx ≤ M) (h4 : -(M : Int) ≤ by_ ∧ by_ ≤ M) (h5 : -(M : Int) ≤ cx ∧ cx ≤ M) (h6 : -(M : Int) ≤ cy ∧ cy ≤ M) :
  spec_pgTurn.f ax ay bx by_ cx cy = some (tri ax ay bx by_ cx cy) := by
 unfold spec_pgTurn.f tri
 rw [w64 (x := bx - ax) (by omega) (by omega), w64 (x := cy - ay) (by omega) (by omega), w64 (x := by_ - ay) (by omega) (by omega), w64 (x := cx - ax) (by omega) (by omega)]
 have q1 := mul_bd 2000000 2000000 (x := bx - ax) (y := cy - ay) (by omega) (by omega)
 have q2 := mul_bd 2000000 2000000 (x := by_ - ay) (y := cx - ax) (by omega) (by omega)
 rw [w64 (x := (bx - ax) * (cy - ay)) (by omega) (by omega), w64 (x := (by_ - ay) * (cx - ax)) (by omega) (by omega), w64 (by omega) (by omega)]

theorem turn_eq (M : Nat) (hM : M ≤ 1000000) {ax ay bx by_ cx cy : Int} (h1 : -(M : Int) ≤ ax ∧ ax ≤ M) (h2 : -(M : Int) ≤ ay ∧ ay ≤ M) (h3 : -(M : Int) ≤ bx ∧ bx ≤ M) (h4 : -(M : Int) ≤ by_ ∧ by_ ≤ M) (h5 : -(M : Int) ≤ cx ∧ cx ≤ M) (h6 : -(M : Int) ≤ cy ∧ cy ≤ M) :
  impl_turn.f ax ay bx by_ cx cy = some (tri ax ay bx by_ cx cy) := by
 unfold impl_turn.f impl_Peg_less.f impl_cross.f tri
 simp only [Option.bind_some]
 rw [w64 (x := bx - ax) (by omega) (by omega), w64 (x := cy - ay) (by omega) (by omega), w64 (x := by_ - ay) (by omega) (by omega), w64 (x := cx - ax) (by omega) (by omega)]
 have q1 := mul_bd 2000000 2000000 (x := bx - ax) (y := cy - ay) (by omega) (by omega)
 have q2 := mul_bd 2000000 2000000 (x := by_ - ay) (y := cx - ax) (by omega) (by omega)
 rw [w64 (x := (bx - ax) * (cy - ay)) (by omega) (by omega), w64 (x := (by_ - ay) * (cx - ax)) (by omega) (by omega), w64 (by omega) (by omega)]

def convPeg (p : S39) : S37 := ⟨p.f0, p.f1⟩

theorem toPegS_loop (l : List S39) (hl : l.length ≤ 1048576) (d : Nat) : ∀ (k i : Nat) (x : List S37), i + d = l.length → d < k → x.length = l.length → x.take i = (l.take i).map convPeg →
  laws_toPegS.l0 k l x (i : Int) = some (l.map convPeg) := by
 induction d with
 | zero =>
  intro k i x hi hk hx hp
  obtain ⟨k, rfl⟩ : ∃ m, k = m + 1 := ⟨k - 1, by omega⟩
  simp only [laws_toPegS.l0]
  rw [if_neg (by omega)]
  rw [List.take_of_length_le (by omega), List.take_of_length_le (by omega)] at hp
  rw [hp]
 | succ d ih =>
  intro k i x hi hk hx hp
  obtain ⟨k, rfl⟩ : ∃ m, k = m + 1 := ⟨k - 1, by omega⟩
  have hlt : i < l.length := by omega
  have hr : rd_T39 l (i : Int) = l[i] := by
   unfold rd_T39
   simp [List.getD_eq_getElem?_getD, List.getElem?_eq_getElem hlt]
  simp only [laws_toPegS.l0, laws_toPeg.f]
  rw [if_pos (by omega), if_pos (by omega), hr]
  simp only [Option.bind_some]
  rw [if_pos (by omega), w64 (by omega) (by omega)]
  refine ih k (i + 1) _ (by omega) (by omega) (by simpa using hx) ?_
  rw [Int.toNat_natCast, List.take_set, List.take_add_one, List.take_add_one, hp, List.getElem?_eq_getElem (by omega), List.getElem?_eq_getElem hlt]
  simp only [Option.toList_some, List.map_append, List.map_cons, List.map_nil]
  rw [List.set_append_right _ _ (by simp; omega)]
  simp [Nat.min_eq_left (Nat.le_of_lt hlt), convPeg]
theorem toPegS_eq (k : Nat) (l : List S39) (hl : l.length ≤ 1048576) (hk : l.length < k) : laws_toPegS.f k l = some (l.map convPeg) := by
 unfold laws_toPegS.f
 rw [if_pos (by omega), if_pos (by omega)]
 exact toPegS_loop l hl l.length k 0 _ (by omega) hk (by simp) (by simp)

theorem eqPegS_loop (l : List S37) (hl : l.length ≤ 1048576) (d : Nat) : ∀ (k i : Nat), i + d = l.length → d < k → laws_eqPegS.l0 k l l (i : Int) = some true := by
 induction d with
 | zero =>
  intro k i hi hk
  obtain ⟨k, rfl⟩ : ∃ m, k = m + 1 := ⟨k - 1, by omega⟩
  simp only [laws_eqPegS.l0]
  rw [if_neg (by omega)]
 | succ d ih =>
  intro k i hi hk
  obtain ⟨k, rfl⟩ : ∃ m, k = m + 1 := ⟨k - 1, by omega⟩
  simp only [laws_eqPegS.l0]
  rw [if_pos (by omega), if_pos (by omega), if_pos (by omega)]
  have e : ∀ a b : Int, laws_eqPeg.f a b a b = some true := fun a b => by simp [laws_eqPeg.f]
  rw [e, w64 (by omega) (by omega)]
  exact ih k (i + 1) (by omega) (by omega)
theorem eqPegS_self (k : Nat) (l : List S37) (hl : l.length ≤ 1048576) (hk : l.length < k) : laws_eqPegS.f k l l = some true := by
 unfold laws_eqPegS.f
 rw [if_pos rfl]
 exact eqPegS_loop l hl l.length k 0 (by omega) hk

def samePeg (p q : S37) : Bool := p.f0 == q.f0 && p.f1 == q.f1
def pegB (p : S37) : Bool := decide (pegP p.f0 p.f1)
def distFrom : List S37 → List S37 → Bool
 | _, [] => true
 | pre, p :: r => !(pre.any (samePeg p)) && distFrom (pre ++ [p]) r
/-- Different pegs, no more than 30 and at least one. -/
def goodB (l : List S37) : Bool := decide (1 ≤ l.length ∧ l.length ≤ 30) && (l.all pegB && distFrom [] l)
theorem rdPeg (pre r : List S37) (p : S37) : rd_T37 (pre ++ p :: r) (pre.length : Int) = p := by
 unfold rd_T37
 simp [List.getD_eq_getElem?_getD]

theorem bdGood_in (l : List S37) (n : Int) (p : S37) (pre : List S37) (hpre : pre.length ≤ 1048576) (K0 : Nat) (R : Bool) (i : Int)
  (hc : ∀ k, K0 ≤ k → spec_bdGood.l0 k l l n (wrap64 (i + 1)) = some R) (d : Nat) : ∀ (k j : Nat), j + d = pre.length → K0 + d + 1 ≤ k →
  spec_bdGood.l1 k l l n i pre (pre.length : Int) (j : Int) p.f0 p.f1 = some (!((pre.drop j).any (samePeg p)) && R) := by
 induction d with
 | zero =>
  intro k j hj hk
  obtain ⟨k, rfl⟩ : ∃ m, k = m + 1 := ⟨k - 1, by omega⟩
  simp only [spec_bdGood.l1]
  rw [if_neg (by omega), hc k (by omega), List.drop_of_length_le (by omega)]
  rfl
 | succ d ih =>
  intro k j hj hk
  obtain ⟨k, rfl⟩ : ∃ m, k = m + 1 := ⟨k - 1, by omega⟩
  have hlt : j < pre.length := by omega
  have hr : rd_T37 pre (j : Int) = pre[j] := by
   unfold rd_T37
   simp [List.getD_eq_getElem?_getD, List.getElem?_eq_getElem hlt]
  simp only [spec_bdGood.l1]
  rw [if_pos (by omega), if_pos (by omega), if_pos (by omega), hr, List.drop_eq_getElem_cons hlt, List.any_cons, show (p.f0 == pre[j].f0 && p.f1 == pre[j].f1) = samePeg p pre[j] from rfl]
  by_cases c : samePeg p pre[j] = true
  ·rw [if_pos c, c]; rfl
  ·rw [if_neg c, w64 (by omega) (by omega), Bool.eq_false_iff.mpr c, Bool.false_or]
   exact ih k (j + 1) (by omega) (by omega)
theorem bdGood_loop (L : Nat) (hL : L ≤ 30) (r : List S37) : ∀ (pre : List S37) (k : Nat), pre.length + r.length = L → r.length * (L + 2) + 1 ≤ k →
  spec_bdGood.l0 k (pre ++ r) (pre ++ r) (L : Int) (pre.length : Int) = some (r.all pegB && distFrom pre r) := by
 induction r with
 | nil =>
  intro pre k h hk
  obtain ⟨k, rfl⟩ : ∃ m, k = m + 1 := ⟨k - 1, by omega⟩
  simp only [spec_bdGood.l0]
  rw [if_neg (by simp at h; omega)]
  rfl
 | cons p r ih =>
  intro pre k h hk
  obtain ⟨k, rfl⟩ : ∃ m, k = m + 1 := ⟨k - 1, by omega⟩
  simp only [List.length_cons] at h hk
  rw [Nat.succ_mul] at hk
  simp only [spec_bdGood.l0]
  rw [if_pos (by omega), if_pos (by omega), if_pos (by simp; omega), rdPeg]
  simp only [pgIs_eq, Option.bind_some]
  by_cases c : pegP p.f0 p.f1
  ·rw [if_pos (by simpa using c), if_pos (by simp; omega)]
   rw [Int.toNat_natCast, List.take_left]
   have hcont : ∀ k, r.length * (L + 2) + 1 ≤ k → spec_bdGood.l0 k (pre ++ p :: r) (pre ++ p :: r) (L : Int) (wrap64 ((pre.length : Int) + 1)) = some (r.all pegB && distFrom (pre ++ [p]) r) := by
    intro k hk
    have := ih (pre ++ [p]) k (by simp; omega) hk
    rw [w64 (by omega) (by omega)]
    simpa using this
   have := bdGood_in (pre ++ p :: r) (L : Int) p pre (by omega) _ _ (pre.length : Int) hcont pre.length k 0 (by omega) (by omega)
   rw [show ((0 : Nat) : Int) = 0 from rfl] at this
   rw [this]
   simp only [List.drop_zero, List.all_cons, distFrom, pegB, c, decide_true, Bool.true_and, Option.some.injEq]
   generalize pre.any (samePeg p) = b1
   generalize distFrom (pre ++ [p]) r = b2
   cases b1 <;> cases b2 <;> simp
  ·rw [if_neg (by simpa using c)]
   simp [pegB, c]
theorem bdGood_eq (k : Nat) (hk : 1000 ≤ k) (l : List S37) : spec_bdGood.f k l = some (goodB l) := by
 unfold spec_bdGood.f goodB
 rw [in_eq]
 simp only [Option.bind_some]
 by_cases c : 1 ≤ l.length ∧ l.length ≤ 30
 ·rw [if_pos (by rw [decide_eq_true_eq]; omega)]
  have hm : l.length * (l.length + 2) ≤ 30 * 32 := Nat.mul_le_mul (by omega) (by omega)
  have := bdGood_loop l.length c.2 l [] k (by simp) (by omega)
  simp only [List.nil_append, List.length_nil] at this
  rw [show ((0 : Nat) : Int) = 0 from rfl] at this
  rw [this]
  simp [c]
 ·rw [if_neg (by rw [decide_eq_true_eq]; omega)]
  simp [c]

theorem contains_loop (x y : Int) (l : List S37) (hl : l.length ≤ 1048576) (d : Nat) : ∀ (k i : Nat), i + d = l.length → d < k →
  ∃ r, slices_Index_impl_Peg_impl_Peg.l0 k l (l.length : Int) (i : Int) x y = some r ∧ decide (r ≥ 0) = (l.drop i).any fun p => x == p.f0 && y == p.f1 := by
 induction d with
 | zero =>
  intro k i hi hk
  obtain ⟨k, rfl⟩ : ∃ m, k = m + 1 := ⟨k - 1, by omega⟩
  refine ⟨-1, ?_, ?_⟩
  ·simp only [slices_Index_impl_Peg_impl_Peg.l0]; rw [if_neg (by omega)]
  ·rw [List.drop_of_length_le (by omega)]; rfl
 | succ d ih =>
  intro k i hi hk
  obtain ⟨k, rfl⟩ : ∃ m, k = m + 1 := ⟨k - 1, by omega⟩
  have hlt : i < l.length := by omega
  have hr : rd_T37 l (i : Int) = l[i] := by
   unfold rd_T37
   simp [List.getD_eq_getElem?_getD, List.getElem?_eq_getElem hlt]
  simp only [slices_Index_impl_Peg_impl_Peg.l0]
  rw [if_pos (by omega), if_pos (by omega), if_pos (by omega), hr]
  rw [List.drop_eq_getElem_cons hlt, List.any_cons]
  by_cases c : (x == l[i].f0 && y == l[i].f1) = true
  ·exact ⟨(i : Int), by rw [if_pos c], by simp [c]⟩
  ·obtain ⟨r, h1, h2⟩ := ih k (i + 1) (by omega) (by omega)
   refine ⟨r, ?_, ?_⟩
   ·rw [if_neg c, w64 (by omega) (by omega)]
    exact h1
   ·rw [h2, Bool.eq_false_iff.mpr c, Bool.false_or]
theorem contains_eq (k : Nat) (l : List S37) (x y : Int) (hl : l.length ≤ 1048576) (hk : l.length < k) : slices_Contains_impl_Peg_impl_Peg.f k l x y = some (l.any fun p => x == p.f0 && y == p.f1) := by
 obtain ⟨r, h1, h2⟩ := contains_loop x y l hl l.length k 0 (by omega) hk
 unfold slices_Contains_impl_Peg_impl_Peg.f slices_Index_impl_Peg_impl_Peg.f
 rw [show ((0 : Nat) : Int) = 0 from rfl] at h1
 rw [h1]
 simp only [Option.bind_some, h2, List.drop_zero]

theorem areDiff_loop (L : Nat) (hL : L ≤ 30) (r : List S37) : ∀ (pre : List S37) (k : Nat), pre.length + r.length = L → r.length + 31 ≤ k →
  impl_AreDifferent.l0 k (pre ++ r) (pre ++ r) (L : Int) (pre.length : Int) = some (distFrom pre r) := by
 induction r with
 | nil =>
  intro pre k h hk
  obtain ⟨k, rfl⟩ : ∃ m, k = m + 1 := ⟨k - 1, by omega⟩
  simp only [impl_AreDifferent.l0]
  rw [if_neg (by simp at h; omega)]
  rfl
 | cons p r ih =>
  intro pre k h hk
  obtain ⟨k, rfl⟩ : ∃ m, k = m + 1 := ⟨k - 1, by omega⟩
  simp only [List.length_cons] at h hk
  simp only [impl_AreDifferent.l0]
  rw [if_pos (by omega), if_pos (by omega), if_pos (by simp; omega), if_pos (by simp; omega), rdPeg, Int.toNat_natCast, List.take_left, contains_eq k pre _ _ (by omega) (by omega)]
  simp only [Option.bind_some]
  rw [show (pre.any fun q => p.f0 == q.f0 && p.f1 == q.f1) = pre.any (samePeg p) from rfl]
  have := ih (pre ++ [p]) k (by simp; omega) (by omega)
  rw [w64 (by omega) (by omega)]
  simp only [distFrom]
  by_cases c : pre.any (samePeg p) = true
  ·rw [if_pos c, c]; rfl
  ·rw [if_neg c, Bool.eq_false_iff.mpr c]
   simpa using this
theorem areDiff_eq (k : Nat) (hk : 100 ≤ k) (l : List S37) : impl_AreDifferent.f k l = some (goodB l) := by
 obtain ⟨k, rfl⟩ : ∃ m, k = m + 1 := ⟨k - 1, by omega⟩
 unfold impl_AreDifferent.f goodB
 rw [within_eq]
 simp only [Option.bind_some, impl_AreDifferent.j0]
 by_cases c : 1 ≤ l.length ∧ l.length ≤ 30
 ·rw [if_pos (by rw [decide_eq_true_eq]; omega), arePegs_eq (k + 1) l (by omega) (by omega)]
  have := areDiff_loop l.length c.2 l [] k (by simp) (by omega)
  simp only [List.nil_append, List.length_nil] at this
  rw [show ((0 : Nat) : Int) = 0 from rfl] at this
  simp only [Option.bind_some, this]
  have hp : (l.all fun p => decide (pegP p.f0 p.f1)) = l.all pegB := rfl
  rw [hp]
  by_cases c2 : l.all pegB = true
  ·simp [c, c2]
  ·have c3 := Bool.eq_false_iff.mpr c2
   rw [c3]
   simp
 ·rw [if_neg (by rw [decide_eq_true_eq]; omega)]
  simp [c]

theorem szPegS_eq (l : List S39) (hl : l.length ≤ maxLen) : laws_szPegS.f l 1048576 = some (if 1048576 < l.length then -1 else 1048576 - (l.length : Int)) := by
 unfold maxLen at hl
 unfold laws_szPegS.f
 rw [w64 (by omega) (by omega)]
 by_cases c : 1048576 < l.length
 ·rw [if_pos (by omega), if_pos c]
 ·rw [if_neg (by omega), if_neg c]

theorem rdPegNat (l : List S37) (i : Nat) (h : i < l.length) : rd_T37 l (i : Int) = l[i] := by
 unfold rd_T37
 simp [List.getD_eq_getElem?_getD, List.getElem?_eq_getElem h]

/-- What marking makes of n pegs, from number a on. -/
def markedPegs (a n : Nat) : List S37 := (List.range' 0 n).map fun (i : Nat) => (⟨((a + 2 * i : Nat) : Int), ((a + 2 * i + 1 : Nat) : Int)⟩ : S37)
theorem markedPegs_length (a n : Nat) : (markedPegs a n).length = n := by simp [markedPegs]
theorem markPegS_loop (a : Nat) (ha : a ≤ 1000) (n : Nat) (hn : n ≤ 1048576) (d : Nat) : ∀ (k i : Nat) (x : List S37), i + d = n → d < k → x.length = n → x.take i = (markedPegs a n).take i →
  laws_markPegS.l0 k x ((a + 2 * i : Nat) : Int) (i : Int) = some (((a + 2 * n : Nat) : Int), markedPegs a n) := by
 induction d with
 | zero =>
  intro k i x hi hk hx hp
  obtain ⟨k, rfl⟩ : ∃ m, k = m + 1 := ⟨k - 1, by omega⟩
  simp only [laws_markPegS.l0]
  rw [if_neg (by omega)]
  have hl := markedPegs_length a n
  rw [List.take_of_length_le (by omega), List.take_of_length_le (by omega)] at hp
  rw [hp, show i = n by omega]
 | succ d ih =>
  intro k i x hi hk hx hp
  obtain ⟨k, rfl⟩ : ∃ m, k = m + 1 := ⟨k - 1, by omega⟩
  have hlt : i < x.length := by omega
  have hl := markedPegs_length a n
  simp only [laws_markPegS.l0]
  rw [if_pos (by omega), if_pos (by omega), Option.bind_some, Int.toNat_natCast, w64 (x := ((a + 2 * i : Nat) : Int) + 1) (by omega) (by omega), w64 (by omega) (by omega), w64 (by omega) (by omega),
   show ((a + 2 * i : Nat) : Int) + 1 + 1 = ((a + 2 * (i + 1) : Nat) : Int) by omega, show (i : Int) + 1 = ((i + 1 : Nat) : Int) by omega]
  refine ih k (i + 1) _ (by omega) (by omega) (by simpa using hx) ?_
  have hr : (rd_T37 (x.set i (⟨((a + 2 * i : Nat) : Int), (rd_T37 x (i : Int)).f1⟩ : S37)) (i : Int)).f0 = ((a + 2 * i : Nat) : Int) := by
   rw [rdPegNat _ i (by simpa using hlt), List.getElem_set_self]
  rw [hr]
  simp only [List.set_set]
  have hm : (markedPegs a n)[i]? = some ⟨((a + 2 * i : Nat) : Int), ((a + 2 * i + 1 : Nat) : Int)⟩ := by
   unfold markedPegs
   rw [List.getElem?_map, List.getElem?_range' (by omega)]
   simp
  rw [List.take_set, List.take_add_one, List.take_add_one, hp, hm, List.getElem?_eq_getElem hlt]
  simp only [Option.toList_some]
  rw [List.set_append_right _ _ (by simp; omega)]
  simp [hl, Nat.min_eq_left (show i ≤ n by omega)]
theorem markPegS_eq (k : Nat) (a : Nat) (ha : a ≤ 1000) (l : List S37) (hl : l.length ≤ 1048576) (hk : l.length < k) : laws_markPegS.f k l (a : Int) = some (((a + 2 * l.length : Nat) : Int), markedPegs a l.length) :=
 markPegS_loop a ha l.length hl l.length k 0 l (by omega) hk rfl (by simp)
theorem heldPegS_loop (a : Nat) (ha : a ≤ 1000) (n : Nat) (hn : n ≤ 1048576) (d : Nat) : ∀ (k i : Nat), i + d = n → d < k →
  laws_heldPegS.l0 k (markedPegs a n) ((a + 2 * i : Nat) : Int) (i : Int) = some ((a + 2 * n : Nat) : Int) := by
 induction d with
 | zero =>
  intro k i hi hk
  obtain ⟨k, rfl⟩ : ∃ m, k = m + 1 := ⟨k - 1, by omega⟩
  have hl := markedPegs_length a n
  simp only [laws_heldPegS.l0]
  rw [if_neg (by omega), show i = n by omega]
 | succ d ih =>
  intro k i hi hk
  obtain ⟨k, rfl⟩ : ∃ m, k = m + 1 := ⟨k - 1, by omega⟩
  have hl := markedPegs_length a n
  have hm : (markedPegs a n)[i]'(by omega) = ⟨((a + 2 * i : Nat) : Int), ((a + 2 * i + 1 : Nat) : Int)⟩ := by
   unfold markedPegs
   simp
  simp only [laws_heldPegS.l0]
  rw [if_pos (by omega), if_pos (by omega), rdPegNat _ i (by omega), hm, w64 (x := ((a + 2 * i : Nat) : Int) + 1) (by omega) (by omega), w64 (by omega) (by omega), w64 (by omega) (by omega), if_pos rfl, if_pos (by simp),
   show ((a + 2 * i : Nat) : Int) + 1 + 1 = ((a + 2 * (i + 1) : Nat) : Int) by omega, show (i : Int) + 1 = ((i + 1 : Nat) : Int) by omega]
  exact ih k (i + 1) (by omega) (by omega)
theorem heldPegS_eq (k : Nat) (a : Nat) (ha : a ≤ 1000) (n : Nat) (hn : n ≤ 1048576) (hk : n < k) : laws_heldPegS.f k (markedPegs a n) (a : Int) = some ((a + 2 * n : Nat) : Int) :=
 heldPegS_loop a ha n hn n k 0 (by omega) hk

def allP (l : List S37) : Prop := ∀ q ∈ l, pegP q.f0 q.f1

theorem sortP_length (l : List S37) : (sortP l).length = l.length := (sortP_perm l).length_eq

theorem pgLess_eq (x y : S37) : spec_pgLess.f x.f0 x.f1 y.f0 y.f1 = some (ltP x y) := by
 unfold spec_pgLess.f ltP
 by_cases c1 : x.f0 < y.f0
 ·simp [c1]
 ·by_cases c2 : x.f0 = y.f0
  ·simp [c2]
  ·simp [c1, c2]

theorem insP_length (x : S37) (l : List S37) : (insP x l).length = l.length + 1 := (insP_perm x l).length_eq

theorem bdSorted_in (l : List S37) (n i : Int) (p : S37) (R : List S37) (K0 : Nat) (suf : List S37) : ∀ (pre : List S37) (k : Nat), K0 + 2 * suf.length + 2 ≤ k → pre.length + suf.length ≤ 100000 →
  (∀ k, K0 ≤ k → spec_bdSorted.l0 k (pre ++ insP p suf) l n (wrap64 (i + 1)) = some R) →
  spec_bdSorted.l1 k (pre ++ suf) (pre.length : Int) l n i p.f0 p.f1 = some R := by
 induction suf with
 | nil =>
  intro pre k hk hl hc
  simp only [List.length_nil] at hk hl
  obtain ⟨k, rfl⟩ : ∃ m, k = m + 2 := ⟨k - 2, by omega⟩
  simp only [spec_bdSorted.l1, spec_bdSorted.j2]
  rw [if_neg (by simp), if_neg (by decide)]
  simp only [Option.bind_some, List.append_nil, List.nil_append, Int.toNat_natCast]
  rw [if_pos (by omega), if_pos (by omega), List.take_of_length_le (Nat.le_refl _), if_pos (by simp; omega), if_pos (by simp; omega), List.drop_of_length_le (Nat.le_refl _), if_pos (by simp; omega)]
  have := hc k (by omega)
  simpa [insP] using this
 | cons q r ih =>
  intro pre k hk hl hc
  simp only [List.length_cons] at hk hl
  obtain ⟨k, rfl⟩ : ∃ m, k = m + 2 := ⟨k - 2, by omega⟩
  simp only [spec_bdSorted.l1, spec_bdSorted.j2]
  rw [if_pos (by simp; omega), if_pos (by omega), rdPeg, pgLess_eq, Option.bind_some]
  by_cases c : ltP q p = true
  ·rw [if_pos c, w64 (by omega) (by omega)]
   have h1 := ih (pre ++ [q]) k (by omega) (by simp; omega) (fun k hk => by
    have := hc k hk
    unfold insP at this
    rw [if_pos c] at this
    simpa using this)
   simpa using h1
  ·rw [if_neg c]
   simp only [Option.bind_some, List.nil_append, Int.toNat_natCast]
   rw [if_pos (by omega), if_pos (by simp; omega), List.take_left, if_pos (by simp; omega), if_pos (by simp; omega), List.drop_left, if_pos (by simp; omega)]
   have := hc k (by omega)
   unfold insP at this
   rw [if_neg c] at this
   simpa using this

/-- The reference's order: each one put in. -/
def foldP (acc : List S37) : List S37 → List S37
 | [] => acc
 | p :: l => foldP (insP p acc) l
theorem bdSorted_loop (L : Nat) (hL : L ≤ 10000) (r : List S37) : ∀ (pre acc : List S37) (k : Nat), pre.length + r.length = L → acc.length = pre.length → r.length * (2 * L + 4) + 1 ≤ k →
  spec_bdSorted.l0 k acc (pre ++ r) (L : Int) (pre.length : Int) = some (foldP acc r) := by
 induction r with
 | nil =>
  intro pre acc k h ha hk
  obtain ⟨k, rfl⟩ : ∃ m, k = m + 1 := ⟨k - 1, by omega⟩
  simp only [spec_bdSorted.l0]
  rw [if_neg (by simp at h; omega)]
  rfl
 | cons p r ih =>
  intro pre acc k h ha hk
  obtain ⟨k, rfl⟩ : ∃ m, k = m + 1 := ⟨k - 1, by omega⟩
  simp only [List.length_cons] at h hk
  rw [Nat.succ_mul] at hk
  simp only [spec_bdSorted.l0]
  rw [if_pos (by omega), if_pos (by omega), if_pos (by simp; omega), rdPeg]
  have h1 := bdSorted_in (pre ++ p :: r) (L : Int) (pre.length : Int) p (foldP (insP p acc) r) (r.length * (2 * L + 4) + 1) acc [] k (by omega) (by simp; omega) (fun k hk => by
   have := ih (pre ++ [p]) (insP p acc) k (by simp; omega) (by rw [insP_length]; simp; omega) hk
   rw [w64 (by omega) (by omega)]
   simpa using this)
  simpa [foldP] using h1
theorem foldP_perm (l : List S37) : ∀ acc, (foldP acc l).Perm (acc ++ l) := by
 induction l with
 | nil => intro acc; simp [foldP]
 | cons p l ih =>
  intro acc
  unfold foldP
  refine (ih (insP p acc)).trans ?_
  refine ((insP_perm p acc).append_right l).trans ?_
  exact (List.perm_middle (a := p) (l₁ := acc) (l₂ := l)).symm
theorem foldP_sorted (l : List S37) : ∀ acc : List S37, (acc.Pairwise fun a b => ltP b a = false) → (foldP acc l).Pairwise fun a b => ltP b a = false := by
 induction l with
 | nil => intro acc h; exact h
 | cons p l ih => intro acc h; exact ih _ (insP_sorted p acc h)
theorem foldP_eq (l : List S37) : foldP [] l = sortP l :=
 sorted_one ((foldP_perm l []).trans (by simpa using (sortP_perm l).symm)) (foldP_sorted l [] List.Pairwise.nil) (sortP_sorted l)
theorem bdSorted_eq (k : Nat) (l : List S37) (hl : l.length ≤ 100) (hk : 21000 ≤ k) : spec_bdSorted.f k l = some (sortP l) := by
 unfold spec_bdSorted.f
 have hm : l.length * (2 * l.length + 4) ≤ 100 * 204 := Nat.mul_le_mul (by omega) (by omega)
 have := bdSorted_loop l.length (by omega) l [] [] k (by simp) rfl (by omega)
 rw [foldP_eq] at this
 simpa using this

theorem sorted_eq (l : List S37) (hl : l.length ≤ 100000) : impl_sorted.f l = some (sortP l) := by
 unfold impl_sorted.f slices_Clone_impl_Peg_impl_Peg.f slices_SortFunc_impl_Peg_impl_Peg.f
 simp only [Option.bind_some, List.nil_append, List.length_nil]
 rw [if_pos (by omega), Option.bind_some, if_pos (by omega), Option.bind_some]

/-- Which way three pegs turn. -/
def turnP (a b c : S37) : Int := tri a.f0 a.f1 b.f0 b.f1 c.f0 c.f1
theorem pgTurnP_eq {a b c : S37} (ha : pegP a.f0 a.f1) (hb : pegP b.f0 b.f1) (hc : pegP c.f0 c.f1) : spec_pgTurn.f a.f0 a.f1 b.f0 b.f1 c.f0 c.f1 = some (turnP a b c) :=
 pgTurn_eq 40 (by omega) ha.1 ha.2 hb.1 hb.2 hc.1 hc.2
theorem turnP_eq {a b c : S37} (ha : pegP a.f0 a.f1) (hb : pegP b.f0 b.f1) (hc : pegP c.f0 c.f1) : impl_turn.f a.f0 a.f1 b.f0 b.f1 c.f0 c.f1 = some (turnP a b c) :=
 turn_eq 40 (by omega) ha.1 ha.2 hb.1 hb.2 hc.1 hc.2

/-- The stack, its top first, without those that a new peg throws out. -/
def popR (p : S37) : List S37 → List S37
 | b :: a :: r => if turnP a b p ≤ 0 then popR p (a :: r) else b :: a :: r
 | l => l
def chainR : List S37 → List S37 → List S37
 | st, [] => st
 | st, p :: r => chainR (p :: popR p st) r
theorem popR_sub (p : S37) : ∀ (st : List S37), ∀ q ∈ popR p st, q ∈ st
 | b :: a :: r => by
  intro q hq
  unfold popR at hq
  split at hq
  ·exact List.mem_cons_of_mem _ (popR_sub p (a :: r) q hq)
  ·exact hq
 | [] => fun q hq => by simp [popR] at hq
 | [a] => fun q hq => by simpa [popR] using hq
theorem popR_length (p : S37) : ∀ (st : List S37), (popR p st).length ≤ st.length
 | b :: a :: r => by
  unfold popR
  split
  ·have := popR_length p (a :: r)
   simp only [List.length_cons] at this ⊢
   omega
  ·exact Nat.le_refl _
 | [] => by simp [popR]
 | [a] => by simp [popR]
theorem rev2 (b a : S37) (r : List S37) : (b :: a :: r).reverse = r.reverse ++ a :: [b] := by simp
theorem rev2' (b a : S37) (r : List S37) : (b :: a :: r).reverse = (r.reverse ++ [a]) ++ b :: [] := by simp
theorem chain_in (l : List S37) (n i : Int) (p : S37) (hp : pegP p.f0 p.f1) (R : List S37) (K0 : Nat) : ∀ (st : List S37) (k : Nat), allP st → K0 + st.length + 1 ≤ k → st.length ≤ 100000 →
  (∀ k, K0 ≤ k → impl_chain.l0 k (p :: popR p st).reverse l n (wrap64 (i + 1)) = some R) →
  impl_chain.l1 k st.reverse l n i p.f0 p.f1 = some R
 | b :: a :: r, k, hall, hk, hl, hc => by
  simp only [List.length_cons] at hk hl
  obtain ⟨k, rfl⟩ : ∃ m, k = m + 1 := ⟨k - 1, by omega⟩
  have hlen : (b :: a :: r).reverse.length = r.length + 2 := by simp
  have r1 : rd_T37 (b :: a :: r).reverse ((r.length : Int)) = a := by rw [rev2, show (r.length : Int) = (r.reverse.length : Int) by simp]; exact rdPeg _ _ _
  have r2 : rd_T37 (b :: a :: r).reverse ((r.length : Int) + 1) = b := by rw [rev2', show (r.length : Int) + 1 = ((r.reverse ++ [a]).length : Int) by simp]; exact rdPeg _ _ _
  simp only [impl_chain.l1]
  rw [hlen, w64 (x := ((r.length + 2 : Nat) : Int) - 2) (by omega) (by omega), w64 (x := ((r.length + 2 : Nat) : Int) - 1) (by omega) (by omega), show ((r.length + 2 : Nat) : Int) - 2 = (r.length : Int) by omega, show ((r.length + 2 : Nat) : Int) - 1 = (r.length : Int) + 1 by omega, r1, r2]
  rw [if_pos (by omega), if_pos (by omega), if_pos (by omega), if_pos (by omega), if_pos (by omega), turnP_eq (hall a (by simp)) (hall b (by simp)) hp, Option.bind_some]
  by_cases c : turnP a b p ≤ 0
  ·rw [if_pos c, if_pos (by omega), show ((r.length : Int) + 1).toNat = r.length + 1 by omega]
   have h1 : (b :: a :: r).reverse.take (r.length + 1) = (a :: r).reverse := by rw [rev2', List.take_left' (by simp)]; simp
   rw [h1]
   refine chain_in l n i p hp R K0 (a :: r) k (fun q hq => hall q (List.mem_cons_of_mem _ hq)) (by simp only [List.length_cons]; omega) (by simp only [List.length_cons]; omega) (fun k hk => ?_)
   have := hc k hk
   unfold popR at this
   rw [if_pos c] at this
   exact this
  ·rw [if_neg c, if_pos (by omega)]
   have := hc k (by omega)
   unfold popR at this
   rw [if_neg c, List.reverse_cons] at this
   exact this
 | [], k, hall, hk, hl, hc => by
  obtain ⟨k, rfl⟩ : ∃ m, k = m + 1 := ⟨k - 1, by omega⟩
  simp only [impl_chain.l1]
  rw [if_neg (by simp), if_pos (by simp)]
  have := hc k (by simp at hk; omega)
  simpa [popR] using this
 | [a], k, hall, hk, hl, hc => by
  obtain ⟨k, rfl⟩ : ∃ m, k = m + 1 := ⟨k - 1, by omega⟩
  simp only [impl_chain.l1]
  rw [if_neg (by simp), if_pos (by simp)]
  have := hc k (by simp at hk; omega)
  simpa [popR] using this
theorem chain_loop (L : Nat) (hL : L ≤ 1000) (r : List S37) : ∀ (pre st : List S37) (k : Nat), allP r → allP st → pre.length + r.length = L → st.length ≤ pre.length → r.length * (L + 2) + 1 ≤ k →
  impl_chain.l0 k st.reverse (pre ++ r) (L : Int) (pre.length : Int) = some (chainR st r).reverse := by
 induction r with
 | nil =>
  intro pre st k _ _ h ha hk
  obtain ⟨k, rfl⟩ : ∃ m, k = m + 1 := ⟨k - 1, by omega⟩
  simp only [impl_chain.l0]
  rw [if_neg (by simp at h; omega)]
  rfl
 | cons p r ih =>
  intro pre st k hr hs h ha hk
  obtain ⟨k, rfl⟩ : ∃ m, k = m + 1 := ⟨k - 1, by omega⟩
  simp only [List.length_cons] at h hk
  rw [Nat.succ_mul] at hk
  simp only [impl_chain.l0]
  rw [if_pos (by omega), if_pos (by omega), if_pos (by simp; omega), rdPeg]
  have hq := popR_length p st
  refine chain_in (pre ++ p :: r) (L : Int) (pre.length : Int) p (hr p (by simp)) _ (r.length * (L + 2) + 1) st k hs (by omega) (by omega) (fun k hk => ?_)
  have := ih (pre ++ [p]) (p :: popR p st) k (fun q hq => hr q (List.mem_cons_of_mem _ hq)) (fun q hq => by
   rcases List.mem_cons.1 hq with rfl | hq
   ·exact hr _ (by simp)
   ·exact hs q (popR_sub p st q hq)) (by simp; omega) (by simp; omega) hk
  rw [w64 (by omega) (by omega)]
  simpa [chainR] using this
theorem chain_eq (k : Nat) (l : List S37) (hl : l.length ≤ 100) (hp : allP l) (hk : 20000 ≤ k) : impl_chain.f k l = some (chainR [] l).reverse := by
 unfold impl_chain.f
 have hm : l.length * (l.length + 2) ≤ 100 * 102 := Nat.mul_le_mul (by omega) (by omega)
 have := chain_loop l.length (by omega) l [] [] k hp (by intro q hq; simp at hq) (by simp) (by simp) (by omega)
 simpa using this
theorem chainR_length (l : List S37) : ∀ st, (chainR st l).length ≤ st.length + l.length := by
 induction l with
 | nil => intro st; simp [chainR]
 | cons p l ih =>
  intro st
  unfold chainR
  have h1 := ih (p :: popR p st)
  have h2 := popR_length p st
  simp only [List.length_cons] at h1 ⊢
  omega
theorem chainR_pos (l : List S37) : ∀ st, 0 < st.length → 0 < (chainR st l).length := by
 induction l with
 | nil => intro st h; exact h
 | cons p l ih => intro st h; exact ih _ (by simp)

/-- The band of pegs in order, of at least two. -/
def hullP (s : List S37) : List S37 := (chainR [] s).reverse.dropLast ++ (chainR [] s.reverse).reverse.dropLast
theorem concat_eq (k : Nat) (a b : List S37) (ha : a.length ≤ 100000) (hb : b.length ≤ 100000) (hk : 10 ≤ k) : slices_Concat_impl_Peg_impl_Peg.f k [a, b] = some (a ++ b) := by
 obtain ⟨k, rfl⟩ : ∃ m, k = m + 3 := ⟨k - 3, by omega⟩
 have hg : ∀ n : Int, 0 ≤ n → n ≤ 1000000 → slices_Grow_impl_Peg_impl_Peg.f n = some [] := by
  intro n h0 h1
  unfold slices_Grow_impl_Peg_impl_Peg.f
  rw [w64 (by omega) (by omega), if_neg (by omega)]
  by_cases c : n > 0
  ·rw [if_pos c, if_pos h0, if_pos (by simp; omega), Option.bind_some, if_pos (by omega)]
   rfl
  ·rw [if_neg c]
 have r0 : rd_L3 [a, b] 0 = a := rfl
 have r1 : rd_L3 [a, b] 1 = b := rfl
 unfold slices_Concat_impl_Peg_impl_Peg.f
 simp only [slices_Concat_impl_Peg_impl_Peg.l0, List.length_cons, List.length_nil, Nat.zero_add, Nat.reduceAdd]
 rw [r0, w64 (x := 0 + (a.length : Int)) (by omega) (by omega), w64 (x := (0 : Int) + 1) (by omega) (by omega)]
 simp only [Int.zero_add]
 rw [r1, w64 (x := (a.length : Int) + (b.length : Int)) (by omega) (by omega), w64 (x := (1 : Int) + 1) (by omega) (by omega)]
 rw [if_pos (by decide), if_pos (by decide), if_pos (by decide), if_neg (by omega), if_pos (by decide), if_pos (by decide), if_pos (by decide), if_neg (by omega), if_neg (by decide), hg _ (by omega) (by omega), Option.bind_some]
 obtain ⟨k, rfl⟩ : ∃ m, k = m + 3 := ⟨k - 3, by omega⟩
 simp only [slices_Concat_impl_Peg_impl_Peg.l1, List.length_cons, List.length_nil, Nat.zero_add, Nat.reduceAdd]
 rw [r0, w64 (x := (0 : Int) + 1) (by omega) (by omega)]
 simp only [List.nil_append, Int.zero_add]
 rw [r1, w64 (x := (1 : Int) + 1) (by omega) (by omega)]
 rw [if_pos (by decide), if_pos (by decide), if_pos (by decide), if_pos (by omega), if_pos (by decide), if_pos (by decide), if_pos (by decide), if_pos (by omega), if_neg (by decide)]
theorem reverse_eq (_k : Nat) (l : List S37) (hl : l.length ≤ 100000) : slices_Reverse_impl_Peg_impl_Peg.f l = some l.reverse := by
 unfold slices_Reverse_impl_Peg_impl_Peg.f
 rw [if_pos (by omega)]
theorem band_eq (k : Nat) (l : List S37) (h1 : 1 ≤ l.length) (hl : l.length ≤ 100) (hp : allP l) (hk : 20000 ≤ k) :
  impl_band.f k l = some (if l.length = 1 then sortP l else hullP (sortP l)) := by
 have hs : allP (sortP l) := fun q hq => hp q ((sortP_perm l).subset hq)
 have hn := sortP_length l
 unfold impl_band.f
 rw [sorted_eq l (by omega), Option.bind_some, hn]
 by_cases c : l.length = 1
 ·rw [if_pos (by omega), if_pos c]
 ·rw [if_neg (by omega), if_neg c, chain_eq k (sortP l) (by omega) hs hk, Option.bind_some, reverse_eq k _ (by omega), Option.bind_some, chain_eq k (sortP l).reverse (by simp; omega) (fun q hq => hs q (by simpa using hq)) hk, Option.bind_some]
  have e1 := chainR_length (sortP l) []
  have e2 := chainR_length (sortP l).reverse []
  have e3 : 0 < (chainR [] (sortP l)).length := by
   cases hc : sortP l with
   | nil => rw [hc] at hn; simp at hn; omega
   | cons a r => exact chainR_pos r _ (by simp)
  have e4 : 0 < (chainR [] (sortP l).reverse).length := by
   cases hc : (sortP l).reverse with
   | nil =>
    have h9 := congrArg List.length hc
    rw [List.length_reverse] at h9
    simp only [List.length_nil] at h9
    omega
   | cons a r => exact chainR_pos r _ (by simp)
  simp only [List.length_nil, List.length_reverse, Nat.zero_add] at e1 e2
  rw [List.length_reverse, List.length_reverse, w64 (x := ((chainR [] (sortP l)).length : Int) - 1) (by omega) (by omega), w64 (x := ((chainR [] (sortP l).reverse).length : Int) - 1) (by omega) (by omega)]
  rw [if_pos (by omega), if_pos (by omega), if_pos (by omega), if_pos (by omega)]
  rw [show (((chainR [] (sortP l)).length : Int) - 1).toNat = (chainR [] (sortP l)).length - 1 by omega, show (((chainR [] (sortP l).reverse).length : Int) - 1).toNat = (chainR [] (sortP l).reverse).length - 1 by omega]
  rw [concat_eq k _ _ (by simp; omega) (by simp; omega) (by omega), Option.bind_some]
  unfold hullP
  rw [List.dropLast_eq_take, List.dropLast_eq_take, List.length_reverse, List.length_reverse]

theorem bdBand_in (s : List S37) (sd n i : Int) (base : List S37) (hb : base.length ≤ 100000) (p : S37) (hp : pegP p.f0 p.f1) (R : List S37) (K0 : Nat) : ∀ (st : List S37) (k : Nat), allP st → K0 + st.length + 1 ≤ k → st.length ≤ 100000 →
  (∀ k, K0 ≤ k → spec_bdBand.l1 k s (base ++ (p :: popR p st).reverse) sd (base.length : Int) n (wrap64 (i + 1)) = some R) →
  spec_bdBand.l2 k s (base ++ st.reverse) sd (base.length : Int) n i p.f0 p.f1 = some R
 | b :: a :: r, k, hall, hk, hl, hc => by
  simp only [List.length_cons] at hk hl
  obtain ⟨k, rfl⟩ : ∃ m, k = m + 1 := ⟨k - 1, by omega⟩
  have hlen : (base ++ (b :: a :: r).reverse).length = base.length + r.length + 2 := by simp; omega
  have r1 : rd_T37 (base ++ (b :: a :: r).reverse) (((base.length + r.length : Nat) : Int)) = a := by rw [rev2, ← List.append_assoc, show ((base.length + r.length : Nat) : Int) = ((base ++ r.reverse).length : Int) by simp]; exact rdPeg _ _ _
  have r2 : rd_T37 (base ++ (b :: a :: r).reverse) (((base.length + r.length : Nat) : Int) + 1) = b := by rw [rev2', ← List.append_assoc, show ((base.length + r.length : Nat) : Int) + 1 = ((base ++ (r.reverse ++ [a])).length : Int) by simp; omega]; exact rdPeg _ _ _
  simp only [spec_bdBand.l2]
  rw [hlen, w64 (x := ((base.length + r.length + 2 : Nat) : Int) - 2) (by omega) (by omega), w64 (x := ((base.length + r.length + 2 : Nat) : Int) - 1) (by omega) (by omega), w64 (x := (base.length : Int) + 1) (by omega) (by omega), show ((base.length + r.length + 2 : Nat) : Int) - 2 = ((base.length + r.length : Nat) : Int) by omega, show ((base.length + r.length + 2 : Nat) : Int) - 1 = ((base.length + r.length : Nat) : Int) + 1 by omega, r1, r2]
  rw [if_pos (by omega), if_pos (by omega), if_pos (by omega), if_pos (by omega), if_pos (by omega), pgTurnP_eq (hall a (by simp)) (hall b (by simp)) hp, Option.bind_some]
  by_cases c : turnP a b p ≤ 0
  ·rw [if_pos c, if_pos (by omega), show (((base.length + r.length : Nat) : Int) + 1).toNat = base.length + (r.length + 1) by omega]
   have h1 : (base ++ (b :: a :: r).reverse).take (base.length + (r.length + 1)) = base ++ (a :: r).reverse := by rw [rev2', ← List.append_assoc, List.take_left' (by simp)]; simp
   rw [h1]
   refine bdBand_in s sd n i base hb p hp R K0 (a :: r) k (fun q hq => hall q (List.mem_cons_of_mem _ hq)) (by simp only [List.length_cons]; omega) (by simp only [List.length_cons]; omega) (fun k hk => ?_)
   have := hc k hk
   unfold popR at this
   rw [if_pos c] at this
   exact this
  ·rw [if_neg c, if_pos (by omega)]
   have := hc k (by omega)
   unfold popR at this
   rw [if_neg c, List.reverse_cons, ← List.append_assoc] at this
   exact this
 | [], k, hall, hk, hl, hc => by
  obtain ⟨k, rfl⟩ : ∃ m, k = m + 1 := ⟨k - 1, by omega⟩
  simp only [spec_bdBand.l2]
  rw [w64 (x := (base.length : Int) + 1) (by omega) (by omega), if_neg (by simp <;> omega), if_pos (by simp; omega)]
  have := hc k (by simp at hk; omega)
  simpa [popR] using this
 | [a], k, hall, hk, hl, hc => by
  obtain ⟨k, rfl⟩ : ∃ m, k = m + 1 := ⟨k - 1, by omega⟩
  simp only [spec_bdBand.l2]
  rw [w64 (x := (base.length : Int) + 1) (by omega) (by omega), if_neg (by simp <;> omega), if_pos (by simp; omega)]
  have := hc k (by simp at hk; omega)
  simpa [popR] using this
theorem bdBand_row (L : Nat) (hL : L ≤ 1000) (s : List S37) (hs : s.length = L) (sd : Int) (t : List S37) (ht : t.length = L) (base : List S37) (hb : base.length ≤ 1000)
  (hsd : (sd = 0 ∧ t = s) ∨ (sd = 1 ∧ t = s.reverse)) (R : List S37) (K0 : Nat) (r : List S37) : ∀ (pre st : List S37) (k : Nat), allP r → allP st → pre ++ r = t → st.length ≤ pre.length → 0 < st.length + r.length → K0 + r.length * (L + 4) + 1 ≤ k →
  (∀ k, K0 ≤ k → spec_bdBand.l0 k s (base ++ (chainR st r).reverse.dropLast) (wrap64 (sd + 1)) = some R) →
  spec_bdBand.l1 k s (base ++ st.reverse) sd (base.length : Int) (L : Int) (pre.length : Int) = some R := by
 induction r with
 | nil =>
  intro pre st k _ _ h ha hpos hk hc
  obtain ⟨k, rfl⟩ : ∃ m, k = m + 1 := ⟨k - 1, by omega⟩
  simp only [List.length_nil, Nat.add_zero] at hpos hk
  have hpre : pre.length = L := by rw [← ht, ← h]; simp
  simp only [spec_bdBand.l1]
  have hlen : (base ++ st.reverse).length = base.length + st.length := by simp
  rw [if_neg (by omega), hlen, w64 (x := ((base.length + st.length : Nat) : Int) - 1) (by omega) (by omega), if_pos (by omega), if_pos (by omega)]
  have h1 : (base ++ st.reverse).take (((base.length + st.length : Nat) : Int) - 1).toNat = base ++ st.reverse.dropLast := by
   rw [show (((base.length + st.length : Nat) : Int) - 1).toNat = base.length + (st.length - 1) by omega, List.take_length_add_append, List.dropLast_eq_take, List.length_reverse]
  rw [h1]
  exact hc k (by omega)
 | cons p r ih =>
  intro pre st k hr hst h ha hpos hk hc
  obtain ⟨k, rfl⟩ : ∃ m, k = m + 1 := ⟨k - 1, by omega⟩
  have hlen : pre.length + (r.length + 1) = L := by rw [← ht, ← h]; simp
  simp only [List.length_cons] at hk
  rw [Nat.succ_mul] at hk
  have hq := popR_length p st
  have hin : ∀ k, K0 + r.length * (L + 4) + 1 + st.length + 1 ≤ k → spec_bdBand.l2 k s (base ++ st.reverse) sd (base.length : Int) (L : Int) (pre.length : Int) p.f0 p.f1 = some R := fun k hk => by
   refine bdBand_in s sd (L : Int) (pre.length : Int) base (by omega) p (hr p (by simp)) R (K0 + r.length * (L + 4) + 1) st k hst (by omega) (by omega) (fun k hk => ?_)
   have := ih (pre ++ [p]) (p :: popR p st) k (fun q hq => hr q (List.mem_cons_of_mem _ hq)) (fun q hq => by
    rcases List.mem_cons.1 hq with rfl | hq
    ·exact hr _ (by simp)
    ·exact hst q (popR_sub p st q hq)) (by simpa using h) (by simp; omega) (by simp only [List.length_cons]; omega) hk (fun k hk => by
     have := hc k hk
     unfold chainR at this
     exact this)
   rw [w64 (by omega) (by omega)]
   simpa using this
  simp only [spec_bdBand.l1]
  rw [if_pos (by omega), if_pos (by omega), if_pos (by omega)]
  have hj : ∀ k, K0 + r.length * (L + 4) + 1 + st.length + 2 ≤ k → spec_bdBand.j2 k s (base ++ st.reverse) sd (base.length : Int) (L : Int) (pre.length : Int) p.f0 p.f1 = some R := fun k hk => by
   obtain ⟨k, rfl⟩ : ∃ m, k = m + 1 := ⟨k - 1, by omega⟩
   simp only [spec_bdBand.j2]
   exact hin k (by omega)
  rcases hsd with ⟨rfl, e⟩ | ⟨rfl, e⟩
  ·rw [if_neg (by decide), show s = pre ++ p :: r by rw [h, e], rdPeg]
   have := hj k (by omega)
   rw [show s = pre ++ p :: r by rw [h, e]] at this
   exact this
  ·have hrev : s = r.reverse ++ p :: pre.reverse := by
    have : s = t.reverse := by rw [e, List.reverse_reverse]
    rw [this, ← h]
    simp
   have hr2 : rd_T37 s (wrap64 (wrap64 ((s.length : Int) - 1) - (pre.length : Int))) = p := by
    rw [hs, w64 (x := (L : Int) - 1) (by omega) (by omega), w64 (by omega) (by omega), show (L : Int) - 1 - (pre.length : Int) = (r.reverse.length : Int) by simp; omega, hrev]
    exact rdPeg _ _ _
   rw [if_pos rfl, hr2, if_pos (by rw [hs, w64 (x := (L : Int) - 1) (by omega) (by omega), w64 (by omega) (by omega)]; omega), if_pos (by rw [hs, w64 (x := (L : Int) - 1) (by omega) (by omega), w64 (by omega) (by omega)]; omega)]
   exact hj k (by omega)
theorem bdBand_eq (k : Nat) (l : List S37) (h1 : 1 ≤ l.length) (hl : l.length ≤ 100) (hp : allP l) (hk : 40000 ≤ k) :
  spec_bdBand.f k l = some (if l.length < 3 then sortP l else hullP (sortP l)) := by
 have hs : allP (sortP l) := fun q hq => hp q ((sortP_perm l).subset hq)
 have hn := sortP_length l
 unfold spec_bdBand.f
 rw [bdSorted_eq k l (by omega) (by omega), Option.bind_some, hn]
 by_cases c : l.length < 3
 ·rw [if_pos (by omega), if_pos c]
 ·rw [if_neg (by omega), if_neg c]
  have hm : l.length * (l.length + 4) ≤ 100 * 104 := Nat.mul_le_mul (by omega) (by omega)
  have e1 := chainR_length (sortP l) []
  simp only [List.length_nil, Nat.zero_add] at e1
  generalize hsv : sortP l = s at *
  have hlast : ∀ k, 1 ≤ k → spec_bdBand.l0 k s (hullP s) (wrap64 (1 + 1)) = some (hullP s) := fun k hk => by
   obtain ⟨k, rfl⟩ : ∃ m, k = m + 1 := ⟨k - 1, by omega⟩
   simp only [spec_bdBand.l0]
   rw [w64 (by omega) (by omega), if_neg (by decide)]
  have hrow2 : ∀ k, 11000 ≤ k → spec_bdBand.l0 k s ((chainR [] s).reverse.dropLast) (wrap64 (0 + 1)) = some (hullP s) := fun k hk => by
   obtain ⟨k, rfl⟩ : ∃ m, k = m + 1 := ⟨k - 1, by omega⟩
   simp only [spec_bdBand.l0]
   rw [w64 (by omega) (by omega), if_pos (by decide), hn]
   have := bdBand_row l.length (by omega) s hn (0 + 1) s.reverse (by simpa using hn) ((chainR [] s).reverse.dropLast) (by simp; omega) (.inr ⟨by decide, rfl⟩) (hullP s) 1 s.reverse [] [] k (fun q hq => hs q (by simpa using hq)) (by intro q hq; simp at hq) (by simp) (by simp) (by simp; omega) (by rw [List.length_reverse, hn]; omega) (fun k hk => by rw [show (0 : Int) + 1 + 1 = 1 + 1 from rfl]; exact hlast k hk)
   simpa using this
  obtain ⟨k, rfl⟩ : ∃ m, k = m + 1 := ⟨k - 1, by omega⟩
  simp only [spec_bdBand.l0]
  rw [if_pos (by decide), hn]
  have := bdBand_row l.length (by omega) s hn 0 s hn [] (by simp) (.inl ⟨rfl, rfl⟩) (hullP s) 11000 s [] [] k hs (by intro q hq; simp at hq) (by simp) (by simp) (by simp; omega) (by rw [hn]; omega) (fun k hk => by simpa using hrow2 k hk)
  simpa using this

theorem hull_two (a b : S37) : hullP [a, b] = [a, b] := by
 unfold hullP
 simp [chainR, popR]
theorem bands_eq (k : Nat) (l : List S37) (h1 : 1 ≤ l.length) (hl : l.length ≤ 100) (hp : allP l) (hk : 40000 ≤ k) : ∃ r, spec_bdBand.f k l = some r ∧ impl_band.f k l = some r ∧ r.length ≤ 200 := by
 have hn := sortP_length l
 have q1 := chainR_length (sortP l) []
 have q2 := chainR_length (sortP l).reverse []
 simp only [List.length_nil, Nat.zero_add, List.length_reverse] at q1 q2
 have hh : (hullP (sortP l)).length ≤ 200 := by
  unfold hullP
  simp only [List.length_append, List.length_dropLast, List.length_reverse]
  omega
 refine ⟨_, bdBand_eq k l h1 hl hp hk, ?_, ?_⟩
 ·rw [band_eq k l h1 hl hp (by omega)]
  by_cases c1 : l.length = 1
  ·rw [if_pos c1, if_pos (by omega)]
  ·rw [if_neg c1]
   by_cases c2 : l.length < 3
   ·rw [if_pos c2]
    have h2 : (sortP l).length = 2 := by omega
    obtain ⟨a, b, e⟩ : ∃ a b, sortP l = [a, b] := by
     match hq : sortP l, h2 with
     | [a, b], _ => exact ⟨a, b, rfl⟩
    rw [e, hull_two]
   ·rw [if_neg c2]
 ·split
  ·omega
  ·exact hh

theorem ltP_trans {x y z : S37} (h1 : ltP x y = true) (h2 : ltP z y = false) : ltP x z = true := by
 unfold ltP at *
 rw [decide_eq_true_eq] at *
 rw [decide_eq_false_iff_not] at h2
 omega
theorem ltP_irrefl (x : S37) : ltP x x = false := by
 unfold ltP
 rw [decide_eq_false_iff_not]
 omega
theorem ltP_of_ne {x y : S37} (h : ltP y x = false) (hne : x ≠ y) : ltP x y = true := by
 cases h2 : ltP x y with
 | true => rfl
 | false => exact absurd (ltP_total h2 h) hne
theorem sorted_get (s : List S37) (hs : s.Pairwise fun a b => ltP b a = false) (i j : Nat) (hij : i ≤ j) (hj : j < s.length) : ltP s[j] (s[i]'(by omega)) = false := by
 rcases Nat.lt_or_ge i j with h | h
 ·exact List.pairwise_iff_getElem.1 hs i j (by omega) hj h
 ·have : i = j := by omega
  subst this
  exact ltP_irrefl _
theorem compact_facts (s : List S37) (hs : s.Pairwise fun a b => ltP b a = false) (m : Nat) : m ≤ s.length →
  (∀ x, x ∈ Go.Lib.compactUpTo s.toArray m ↔ x ∈ s.take m) ∧ ((Go.Lib.compactUpTo s.toArray m).Pairwise fun a b => ltP a b = true) := by
 induction m with
 | zero =>
  intro _
  refine ⟨fun x => ?_, ?_⟩
  ·simp [Go.Lib.compactUpTo]
  ·simp [Go.Lib.compactUpTo]
 | succ m ih =>
  intro hm
  obtain ⟨h1, h2⟩ := ih (by omega)
  have hg : s.toArray[m]! = s[m] := by rw [getElem!_pos s.toArray m (by simp; omega)]; simp
  rw [Go.Lib.compactUpTo_succ, List.take_add_one, List.getElem?_eq_getElem (by omega), Option.toList_some, hg]
  by_cases c : Go.Lib.keeps s.toArray m = true
  ·rw [if_pos c]
   refine ⟨fun x => by rw [List.mem_append, List.mem_append, h1], ?_⟩
   rw [List.pairwise_append]
   refine ⟨h2, List.pairwise_singleton _ _, fun x hx y hy => ?_⟩
   obtain rfl := List.mem_singleton.1 hy
   obtain ⟨i, hi, rfl⟩ := List.getElem_of_mem ((h1 x).1 hx)
   rw [List.length_take] at hi
   rw [List.getElem_take]
   have hm0 : 0 < m := by omega
   have hne : s[m] ≠ s[m - 1] := by
    unfold Go.Lib.keeps at c
    rw [decide_eq_true_eq] at c
    rcases c with c | c
    ·omega
    ·rw [hg, getElem!_pos s.toArray (m - 1) (by simp; omega)] at c
     simpa using c
   have hlt : ltP s[m - 1] s[m] = true := ltP_of_ne (sorted_get s hs (m - 1) m (by omega) (by omega)) (Ne.symm hne)
   cases hq : ltP s[i] s[m] with
   | true => rfl
   | false =>
    have h3 := sorted_get s hs i (m - 1) (by omega) (by omega)
    have h4 := ltP_trans hlt hq
    rw [h3] at h4
    exact absurd h4 (by decide)
  ·rw [if_neg c]
   have hm0 : m ≠ 0 := by
    rintro rfl
    exact c (by simp [Go.Lib.keeps])
   have he : s[m] = s[m - 1] := by
    unfold Go.Lib.keeps at c
    rw [decide_eq_true_eq, not_or, Classical.not_not, hg, getElem!_pos s.toArray (m - 1) (by simp; omega)] at c
    simpa using c.2
   refine ⟨fun x => ?_, by simpa using h2⟩
   rw [List.append_nil, h1, List.mem_append, List.mem_singleton]
   refine ⟨.inl, fun h => h.elim id fun h => ?_⟩
   rw [h, he, List.mem_take_iff_getElem]
   exact ⟨m - 1, by omega, rfl⟩
theorem strict_nodup (l : List S37) (h : l.Pairwise fun a b => ltP a b = true) : l.Nodup := by
 refine List.Pairwise.imp ?_ h
 intro a b hab he
 subst he
 rw [ltP_irrefl] at hab
 exact absurd hab (by decide)
theorem strict_sorted (l : List S37) (h : l.Pairwise fun a b => ltP a b = true) : l.Pairwise fun a b => ltP b a = false := by
 refine List.Pairwise.imp ?_ h
 intro a b hab
 unfold ltP at *
 rw [decide_eq_true_eq] at hab
 rw [decide_eq_false_iff_not]
 omega
/-- Pegs in order, each once. -/
def setP (l : List S37) : List S37 := Go.Lib.compactUpTo (sortP l).toArray (sortP l).length
theorem setP_mem (l : List S37) (x : S37) : x ∈ setP l ↔ x ∈ l := by
 have := (compact_facts (sortP l) (sortP_sorted l) (sortP l).length (Nat.le_refl _)).1 x
 rw [List.take_length] at this
 exact this.trans (sortP_perm l).mem_iff
theorem setP_nodup (l : List S37) : (setP l).Nodup := strict_nodup _ (compact_facts (sortP l) (sortP_sorted l) (sortP l).length (Nat.le_refl _)).2
theorem setP_sorted (l : List S37) : (setP l).Pairwise fun a b => ltP b a = false := strict_sorted _ (compact_facts (sortP l) (sortP_sorted l) (sortP l).length (Nat.le_refl _)).2
theorem setP_eq (l m : List S37) (hm : m.Nodup) (h : ∀ x, x ∈ m ↔ x ∈ l) : setP l = sortP m :=
 sorted_one (((List.perm_ext_iff_of_nodup (setP_nodup l) hm).2 fun x => (setP_mem l x).trans (h x).symm).trans (sortP_perm m).symm) (setP_sorted l) (sortP_sorted m)
theorem setP_length (l : List S37) : (setP l).length = l.length ↔ l.Nodup := by
 constructor
 ·intro h
  have hle : ∀ n, n ≤ (sortP l).length → (∃ j, j < n ∧ Go.Lib.keeps (sortP l).toArray j = false) → (Go.Lib.compactUpTo (sortP l).toArray n).length < n := by
   intro n
   induction n with
   | zero => rintro _ ⟨j, hj, _⟩; omega
   | succ n ih =>
    rintro hn ⟨j, hj, hk⟩
    rw [Go.Lib.compactUpTo_succ, List.length_append]
    have hc : (Go.Lib.compactUpTo (sortP l).toArray n).length ≤ n := by
     unfold Go.Lib.compactUpTo
     rw [List.length_map]
     exact Nat.le_trans (List.length_filter_le _ _) (by simp)
    by_cases e : j = n
    ·subst e
     rw [hk]
     simp
     omega
    ·have := ih (by omega) ⟨j, by omega, hk⟩
     split <;> simp <;> omega
  have hall : ∀ j, j < (sortP l).length → Go.Lib.keeps (sortP l).toArray j = true := by
   intro j hj
   cases hk : Go.Lib.keeps (sortP l).toArray j with
   | true => rfl
   | false =>
    have := hle (sortP l).length (Nat.le_refl _) ⟨j, hj, hk⟩
    unfold setP at h
    rw [h, sortP_length] at this
    omega
  have he : setP l = sortP l := by
   unfold setP
   have := Go.Lib.compact_all (sortP l) hall
   exact this
  have := setP_nodup l
  rw [he] at this
  exact (sortP_perm l).nodup_iff.1 this
 ·intro h
  rw [setP_eq l l h (fun _ => Iff.rfl), sortP_length]

theorem samePeg_iff (p q : S37) : samePeg p q = true ↔ p = q := by
 unfold samePeg
 rw [Bool.and_eq_true, beq_iff_eq, beq_iff_eq]
 constructor
 ·rintro ⟨h1, h2⟩
  cases p; cases q
  simp only at h1 h2
  rw [h1, h2]
 ·rintro rfl
  exact ⟨rfl, rfl⟩
theorem distFrom_iff (l : List S37) : ∀ pre : List S37, distFrom pre l = true ↔ (∀ q ∈ l, q ∉ pre) ∧ l.Nodup := by
 induction l with
 | nil => intro pre; simp [distFrom]
 | cons p r ih =>
  intro pre
  have hany : pre.any (samePeg p) = true ↔ p ∈ pre := by
   rw [List.any_eq_true]
   constructor
   ·rintro ⟨q, hq, hs⟩
    rw [samePeg_iff] at hs
    subst hs
    exact hq
   ·intro h
    exact ⟨p, h, (samePeg_iff p p).2 rfl⟩
  unfold distFrom
  rw [Bool.and_eq_true, ih, Bool.not_eq_true', ← Bool.not_eq_true, hany, List.nodup_cons]
  constructor
  ·rintro ⟨h1, h2, h3⟩
   refine ⟨fun q hq => ?_, ?_, h3⟩
   ·rcases List.mem_cons.1 hq with rfl | hq
    ·exact h1
    ·exact fun h => h2 q hq (List.mem_append_left _ h)
   ·exact fun h => h2 p h (by simp)
  ·rintro ⟨h1, h2, h3⟩
   refine ⟨h1 p (by simp), fun q hq h => ?_, h3⟩
   rcases List.mem_append.1 h with h | h
   ·exact h1 q (List.mem_cons_of_mem _ hq) h
   ·obtain rfl := List.mem_singleton.1 h
    exact h2 hq
theorem goodB_iff (l : List S37) : goodB l = true ↔ (1 ≤ l.length ∧ l.length ≤ 30) ∧ allP l ∧ l.Nodup := by
 unfold goodB
 rw [Bool.and_eq_true, Bool.and_eq_true, decide_eq_true_eq, List.all_eq_true, distFrom_iff]
 have e : (∀ x ∈ l, pegB x = true) ↔ allP l := by
  unfold allP pegB
  simp
 rw [e]
 simp

/-- A peg's number in the order, or in the opposite one. -/
def ordP (e : Int) (p : S37) : Int := e * (100 * p.f0 + p.f1)
theorem ord_1 (e : Int) (a b c d : S37) : (ordP e c - ordP e a) * turnP b c d = (ordP e c - ordP e b) * turnP a c d - (ordP e d - ordP e c) * turnP a b c := by
 unfold ordP turnP tri
 grind
theorem ord_2 (e : Int) (a b c d : S37) : (ordP e d - ordP e b) * turnP a c d = (ordP e d - ordP e a) * turnP b c d + (ordP e d - ordP e c) * turnP a b d := by
 unfold ordP turnP tri
 grind
theorem ord_3 (e : Int) (a b c d : S37) : (ordP e c - ordP e a) * turnP a b d = (ordP e b - ordP e a) * turnP a c d + (ordP e d - ordP e a) * turnP a b c := by
 unfold ordP turnP tri
 grind
theorem mul_pos' {x y : Int} (hx : 0 < x) (hy : 0 < y) : 0 < x * y := Int.mul_pos hx hy
theorem pos_of_mul' {x y : Int} (hx : 0 < x) (h : 0 < x * y) : 0 < y := by
 rcases Int.lt_or_le 0 y with h1 | h1
 ·exact h1
 ·have := Int.mul_nonpos_of_nonneg_of_nonpos (Int.le_of_lt hx) h1
  omega
theorem nonpos_of_mul' {x y : Int} (hx : 0 < x) (h : x * y ≤ 0) : y ≤ 0 := by
 rcases Int.lt_or_le 0 y with h1 | h1
 ·have := Int.mul_pos hx h1
  omega
 ·exact h1
/-- a < b < c < d: turns at b and c keep on. -/
theorem turn_on {e : Int} {a b c d : S37} (h1 : ordP e a < ordP e b) (h2 : ordP e b < ordP e c) (h3 : ordP e c < ordP e d) (t1 : 0 < turnP a b c) (t2 : 0 < turnP b c d) : 0 < turnP a b d ∧ 0 < turnP a c d := by
 have k1 : 0 < turnP a c d := by
  have e1 := ord_1 e a b c d
  have p1 := mul_pos' (x := ordP e c - ordP e a) (by omega) t2
  have p2 := mul_pos' (x := ordP e d - ordP e c) (by omega) t1
  exact pos_of_mul' (x := ordP e c - ordP e b) (by omega) (by omega)
 refine ⟨?_, k1⟩
 have e1 := ord_3 e a b c d
 have p1 := mul_pos' (x := ordP e b - ordP e a) (by omega) k1
 have p2 := mul_pos' (x := ordP e d - ordP e a) (by omega) t1
 exact pos_of_mul' (x := ordP e c - ordP e a) (by omega) (by omega)
theorem turn_from {e : Int} {a y c d : S37} (h1 : ordP e a < ordP e y) (h2 : ordP e y < ordP e c) (h3 : ordP e c < ordP e d) (t1 : turnP a y c ≤ 0) (t2 : 0 < turnP a c d) : 0 < turnP y c d := by
 have e1 := ord_1 e a y c d
 have p1 := mul_pos' (x := ordP e c - ordP e y) (by omega) t2
 have p2 := Int.mul_nonpos_of_nonneg_of_nonpos (a := ordP e d - ordP e c) (by omega) t1
 exact pos_of_mul' (x := ordP e c - ordP e a) (by omega) (by omega)
theorem turn_low {e : Int} {a y b q : S37} (h1 : ordP e a < ordP e y) (h2 : ordP e y < ordP e b) (h3 : ordP e b < ordP e q) (t1 : turnP a y b ≤ 0) (t2 : turnP a b q ≤ 0) : turnP a y q ≤ 0 := by
 have e1 := ord_3 e a y b q
 have p1 := Int.mul_nonpos_of_nonneg_of_nonpos (a := ordP e y - ordP e a) (by omega) t2
 have p2 := Int.mul_nonpos_of_nonneg_of_nonpos (a := ordP e q - ordP e a) (by omega) t1
 exact nonpos_of_mul' (x := ordP e b - ordP e a) (by omega) (by omega)
theorem turn_high {e : Int} {a b y q : S37} (h1 : ordP e a < ordP e b) (h2 : ordP e b < ordP e y) (h3 : ordP e y < ordP e q) (t1 : turnP a b q ≤ 0) (t2 : turnP b y q ≤ 0) : turnP a y q ≤ 0 := by
 have e1 := ord_2 e a b y q
 have p1 := Int.mul_nonpos_of_nonneg_of_nonpos (a := ordP e q - ordP e a) (by omega) t2
 have p2 := Int.mul_nonpos_of_nonneg_of_nonpos (a := ordP e q - ordP e y) (by omega) t1
 exact nonpos_of_mul' (x := ordP e q - ordP e b) (by omega) (by omega)
/-- A peg of p that all pairs around it turn at. -/
def bendP (e : Int) (p : List S37) (x : S37) : Prop := ∀ j ∈ p, ∀ k ∈ p, ordP e j < ordP e x → ordP e x < ordP e k → 0 < turnP j x k
/-- What is told of neighbours on the stack. -/
def nextP (e : Int) (p : List S37) : List S37 → Prop
 | b :: a :: r => (∀ y ∈ p, ordP e a < ordP e y → ordP e y < ordP e b → turnP a y b ≤ 0) ∧ nextP e p (a :: r)
 | _ => True
structure StackP (e : Int) (p st : List S37) : Prop where
 sub : ∀ x ∈ st, x ∈ p
 dec : st.Pairwise fun a b => ordP e b < ordP e a
 mem : ∀ x ∈ p, bendP e p x → x ∈ st
 bend : ∀ x ∈ st, bendP e p x
 next : nextP e p st
theorem nextP_tail {e : Int} {p : List S37} {b : S37} {u : List S37} (h : nextP e p (b :: u)) : nextP e p u := by
 cases u with
 | nil => trivial
 | cons a r => exact h.2
/-- Where the popping stops all below turn, too. -/
theorem stop_all {e : Int} {p : List S37} {q : S37} (hq : ∀ x ∈ p, ordP e x < ordP e q) (hi : ∀ x ∈ p, ∀ y ∈ p, ordP e x = ordP e y → x = y) {r : List S37} {b a : S37} (hs : ∀ x ∈ b :: a :: r, x ∈ p) (hd : (b :: a :: r).Pairwise fun a b => ordP e b < ordP e a) (hb : ∀ x ∈ b :: a :: r, bendP e p x) (hn : nextP e p (b :: a :: r)) (ht : 0 < turnP a b q) :
  ∀ x ∈ b :: a :: r, ∀ j ∈ p, ordP e j < ordP e x → 0 < turnP j x q := by
 have hab : ordP e a < ordP e b := (List.pairwise_cons.1 hd).1 a (by simp)
 have hbp := hs b (by simp)
 have hap := hs a (by simp)
 have top : ∀ j ∈ p, ordP e j < ordP e b → 0 < turnP j b q := by
  intro j hj hlt
  rcases Int.lt_trichotomy (ordP e j) (ordP e a) with h | h | h
  ·exact (turn_on h hab (hq b hbp) (hb a (by simp) j hj b hbp h hab) ht).2
  ·rw [hi j hj a hap h]; exact ht
  ·exact turn_from h hlt (hq b hbp) (hn.1 j hj h hlt) ht
 intro x hx j hj hlt
 rcases List.mem_cons.1 hx with rfl | hx'
 ·exact top j hj hlt
 ·have hxb := (List.pairwise_cons.1 hd).1 x hx'
  exact (turn_on hlt hxb (hq b hbp) (hb x hx j hj b hbp hlt hxb) (top x (hs x hx) hxb)).1
theorem least_of {e : Int} : ∀ (p : List S37) (j : S37), j ∈ p → ∃ m ∈ p, ∀ y ∈ p, ordP e m ≤ ordP e y := by
 intro p
 induction p with
 | nil => intro j hj; simp at hj
 | cons a p ih =>
  intro j _
  cases p with
  | nil => exact ⟨a, by simp, by simp⟩
  | cons b r =>
   obtain ⟨m, hm, hall⟩ := ih b (by simp)
   by_cases c : ordP e a ≤ ordP e m
   ·refine ⟨a, by simp, fun y hy => ?_⟩
    rcases List.mem_cons.1 hy with rfl | hy
    ·exact Int.le_refl _
    ·exact Int.le_trans c (hall y hy)
   ·refine ⟨m, List.mem_cons_of_mem _ hm, fun y hy => ?_⟩
    rcases List.mem_cons.1 hy with rfl | hy
    ·omega
    ·exact hall y hy
theorem push_stack {e : Int} {p : List S37} {q : S37} (hq : ∀ x ∈ p, ordP e x < ordP e q) (hi : ∀ x ∈ p, ∀ y ∈ p, ordP e x = ordP e y → x = y) : ∀ (u : List S37), (∀ x ∈ u, x ∈ p) → u.Pairwise (fun a b => ordP e b < ordP e a) → (∀ x ∈ u, bendP e p x) → nextP e p u → (∀ x ∈ p, bendP e (p ++ [q]) x → x ∈ u) →
  (∀ b r, u = b :: r → ∀ y ∈ p, ordP e b < ordP e y → turnP b y q ≤ 0) → StackP e (p ++ [q]) (q :: popR q u) := by
 have bot : ∀ m ∈ p, (∀ y ∈ p, ordP e m ≤ ordP e y) → bendP e (p ++ [q]) m := by
  intro m hm hall j hj k hk h1 h2
  rcases List.mem_append.1 hj with hj | hj
  ·have := hall j hj; omega
  ·have hjq : j = q := by simpa using hj
   subst hjq
   have := hq m hm
   omega
 have fin : ∀ u : List S37, (∀ x ∈ u, x ∈ p) → u.Pairwise (fun a b => ordP e b < ordP e a) → (∀ x ∈ u, bendP e p x) → nextP e p u → (∀ x ∈ p, bendP e (p ++ [q]) x → x ∈ u) → (∀ b r, u = b :: r → ∀ y ∈ p, ordP e b < ordP e y → turnP b y q ≤ 0) → (∀ x ∈ u, ∀ j ∈ p, ordP e j < ordP e x → 0 < turnP j x q) → StackP e (p ++ [q]) (q :: u) := by
  intro u hs hd hb hn hm ht hall
  have up : ∀ j ∈ p ++ [q], ordP e j < ordP e q → j ∈ p := by
   intro j hj hlt
   rcases List.mem_append.1 hj with hj | hj
   ·exact hj
   ·have hjq : j = q := by simpa using hj
    subst hjq
    omega
  have hn' : ∀ u : List S37, (∀ x ∈ u, x ∈ p) → nextP e p u → nextP e (p ++ [q]) u := by
   intro u
   induction u with
   | nil => intro _ _; trivial
   | cons b r ih =>
    intro hs hn
    cases r with
    | nil => trivial
    | cons a r =>
     refine ⟨fun y hy h1 h2 => hn.1 y (up y hy (Int.lt_trans h2 (hq b (hs b (by simp))))) h1 h2, ih (fun x hx => hs x (List.mem_cons_of_mem _ hx)) hn.2⟩
  refine ⟨?_, ?_, ?_, ?_, ?_⟩
  ·intro x hx
   rcases List.mem_cons.1 hx with rfl | hx
   ·simp
   ·exact List.mem_append_left _ (hs x hx)
  ·exact List.pairwise_cons.2 ⟨fun x hx => hq x (hs x hx), hd⟩
  ·intro x hx hbend
   rcases List.mem_append.1 hx with hx | hx
   ·exact List.mem_cons_of_mem _ (hm x hx hbend)
   ·have hxq : x = q := by simpa using hx
    subst hxq
    simp
  ·intro x hx0
   rcases List.mem_cons.1 hx0 with rfl | hx
   ·intro j hj k hk h1 h2
    rcases List.mem_append.1 hk with hk | hk
    ·have := hq k hk; omega
    ·have hkq : k = x := by simpa using hk
     subst hkq
     omega
   ·clear hx0
    intro j hj k hk h1 h2
    have hj' := up j hj (Int.lt_trans h1 (hq x (hs x hx)))
    rcases List.mem_append.1 hk with hk | hk
    ·exact hb x hx j hj' k hk h1 h2
    ·have hkq : k = q := by simpa using hk
     subst hkq
     exact hall x hx j hj' h1
  ·cases u with
   | nil => trivial
   | cons b r => exact ⟨fun y hy h1 h2 => ht b r rfl y (up y hy h2) h1, hn' _ hs hn⟩
 intro u
 induction u with
 | nil =>
  intro hs hd hb hn hm ht
  exact fin [] hs hd hb hn hm ht (by simp)
 | cons b r ih =>
  intro hs hd hb hn hm ht
  cases r with
  | nil =>
   refine fin [b] hs hd hb hn hm ht ?_
   intro x hx j hj hlt
   have hxb : x = b := by simpa using hx
   subst hxb
   obtain ⟨m, hmp, hall⟩ := least_of (e := e) p j hj
   have hmx : m = x := by simpa using hm m hmp (bot m hmp hall)
   subst hmx
   have := hall j hj
   omega
  | cons a r =>
   unfold popR
   by_cases c : turnP a b q ≤ 0
   ·rw [if_pos c]
    have hab : ordP e a < ordP e b := (List.pairwise_cons.1 hd).1 a (by simp)
    have hbp := hs b (by simp)
    refine ih (fun x hx => hs x (List.mem_cons_of_mem _ hx)) (List.pairwise_cons.1 hd).2 (fun x hx => hb x (List.mem_cons_of_mem _ hx)) hn.2 ?_ ?_
    ·intro x hx hbend
     rcases List.mem_cons.1 (hm x hx hbend) with rfl | h
     ·have := hbend a (List.mem_append_left _ (hs a (by simp))) q (by simp) hab (hq x hx)
      omega
     ·exact h
    ·intro b' r' he y hy hlt
     obtain ⟨rfl, rfl⟩ := List.cons.inj he
     rcases Int.lt_trichotomy (ordP e y) (ordP e b) with h | h | h
     ·exact turn_low hlt h (hq b hbp) (hn.1 y hy hlt h) c
     ·rw [hi y hy b hbp h]; exact c
     ·exact turn_high hab h (hq y hy) c (ht b _ rfl y hy h)
   ·rw [if_neg c]
    exact fin _ hs hd hb hn hm ht (stop_all hq hi hs hd hb hn (by omega))
theorem chain_stack {e : Int} : ∀ (r p st : List S37), StackP e p st → (p ++ r).Pairwise (fun a b => ordP e a < ordP e b) → (∀ x ∈ p ++ r, ∀ y ∈ p ++ r, ordP e x = ordP e y → x = y) → StackP e (p ++ r) (chainR st r) := by
 intro r
 induction r with
 | nil => intro p st h _ _; simpa [chainR] using h
 | cons q r ih =>
  intro p st h hd hi
  unfold chainR
  have hsp := List.pairwise_append.1 hd
  have hq : ∀ x ∈ p, ordP e x < ordP e q := fun x hx => hsp.2.2 x hx q (by simp)
  have hi' : ∀ x ∈ p, ∀ y ∈ p, ordP e x = ordP e y → x = y := fun x hx y hy => hi x (List.mem_append_left _ hx) y (List.mem_append_left _ hy)
  have h1 : StackP e (p ++ [q]) (q :: popR q st) := by
   refine push_stack hq hi' st h.sub h.dec h.bend h.next ?_ ?_
   ·intro x hx hbend
    refine h.mem x hx (fun j hj k hk => hbend j (List.mem_append_left _ hj) k (List.mem_append_left _ hk))
   ·intro b u he y hy hlt
    exfalso
    -- the top is the last one
    have hmax : ∀ m ∈ p, (∀ y ∈ p, ordP e y ≤ ordP e m) → m ∈ st := fun m hm hall => h.mem m hm (fun j _ k hk _ h2 => by have := hall k hk; omega)
    have : ∃ m ∈ p, ∀ y ∈ p, ordP e y ≤ ordP e m := by
     have hne : p ≠ [] := by rintro rfl; simp at hy
     refine ⟨p.getLast hne, List.getLast_mem hne, fun z hz => ?_⟩
     have hp := hsp.1
     rw [← List.dropLast_concat_getLast hne] at hz hp
     rcases List.mem_append.1 hz with hz | hz
     ·exact Int.le_of_lt ((List.pairwise_append.1 hp).2.2 z hz _ (by simp))
     ·have : z = p.getLast hne := by simpa using hz
      rw [this]; exact Int.le_refl _
    obtain ⟨m, hm, hall⟩ := this
    have hms := hmax m hm hall
    have hdec := h.dec
    rw [he] at hms hdec
    have h9 := hall y hy
    rcases List.mem_cons.1 hms with rfl | h8
    ·omega
    ·have := (List.pairwise_cons.1 hdec).1 m h8
     omega
  have := ih (p ++ [q]) (q :: popR q st) h1 (by simpa using hd) (by simpa using hi)
  simpa using this
theorem chain_all {e : Int} (s : List S37) (hd : s.Pairwise fun a b => ordP e a < ordP e b) (hi : ∀ x ∈ s, ∀ y ∈ s, ordP e x = ordP e y → x = y) : StackP e s (chainR [] s) := by
 have h0 : StackP e [] [] := ⟨by simp, List.Pairwise.nil, by simp, by simp, trivial⟩
 simpa using chain_stack s [] [] h0 (by simpa using hd) (by simpa using hi)
/-- A peg of s that all pairs around it turn at in one way. -/
def cornB (s : List S37) (x : S37) : Prop := (∀ j ∈ s, ∀ k ∈ s, ltP j x = true → ltP x k = true → 0 < turnP j x k) ∨ (∀ j ∈ s, ∀ k ∈ s, ltP j x = true → ltP x k = true → turnP j x k < 0)
/-- Are the pegs of s the corners of their band? -/
def cvxP (s : List S37) : Prop := ∀ x ∈ s, cornB s x
theorem cvxP_sub {s t : List S37} (h : cvxP s) (hs : ∀ x ∈ t, x ∈ s) : cvxP t := by
 intro x hx
 rcases h x (hs x hx) with h1 | h1
 ·exact .inl fun j hj k hk => h1 j (hs j hj) k (hs k hk)
 ·exact .inr fun j hj k hk => h1 j (hs j hj) k (hs k hk)
theorem ord_lt {x y : S37} (hx : pegP x.f0 x.f1) (hy : pegP y.f0 y.f1) : ltP x y = true ↔ ordP 1 x < ordP 1 y := by
 unfold ltP ordP
 unfold pegP at hx hy
 rw [decide_eq_true_eq]
 omega
theorem ord_neg (x y : S37) : ordP (-1) x < ordP (-1) y ↔ ordP 1 y < ordP 1 x := by
 unfold ordP
 omega
theorem ord_inj {x y : S37} (hx : pegP x.f0 x.f1) (hy : pegP y.f0 y.f1) (h : ordP 1 x = ordP 1 y) : x = y := by
 unfold ordP at h
 unfold pegP at hx hy
 cases x; cases y
 simp only [S37.mk.injEq]
 simp only at h hx hy
 omega
theorem turn_swap (a b c : S37) : turnP c b a = -turnP a b c := by
 unfold turnP tri
 grind
theorem count_both {α : Type} (p q : α → Bool) : ∀ l : List α, (∀ x ∈ l, ¬ (p x = true ∧ q x = true)) → (l.countP p + l.countP q ≤ l.length ∧ (l.countP p + l.countP q = l.length ↔ ∀ x ∈ l, p x = true ∨ q x = true)) := by
 intro l
 induction l with
 | nil => intro _; simp
 | cons a l ih =>
  intro h
  obtain ⟨h1, h2⟩ := ih (fun x hx => h x (List.mem_cons_of_mem _ hx))
  have ha := h a (by simp)
  simp only [List.countP_cons, List.length_cons, List.mem_cons, forall_eq_or_imp]
  rw [← h2]
  cases hp : p a <;> cases hq : q a
  ·simp only [Bool.false_eq_true, if_false, or_self, false_and, iff_false]
   exact ⟨by omega, by omega⟩
  ·simp only [Bool.false_eq_true, if_false, if_true, or_true, true_and]
   omega
  ·simp only [Bool.false_eq_true, if_false, if_true, true_or, true_and]
   omega
  ·exact absurd ⟨hp, hq⟩ ha
theorem inner_split {s : List S37} (h : 2 ≤ s.length) : ∃ a m b, s = a :: (m ++ [b]) := by
 cases s with
 | nil => simp at h
 | cons a r =>
  have hne : r ≠ [] := by rintro rfl; simp at h
  exact ⟨a, r.dropLast, r.getLast hne, by rw [List.dropLast_concat_getLast]⟩
theorem stack_len {e : Int} {s st : List S37} (h : StackP e s st) (hs : s.Nodup) (p : S37 → Bool) (hp : ∀ x ∈ s, p x = true ↔ bendP e s x) : st.length = s.countP p := by
 rw [List.countP_eq_length_filter]
 refine (List.Perm.length_eq ?_)
 refine (List.perm_ext_iff_of_nodup ?_ (hs.filter p)).2 (fun x => ?_)
 ·refine List.Pairwise.imp ?_ h.dec
  intro a b hab he
  subst he
  omega
 ·rw [List.mem_filter]
  exact ⟨fun hx => ⟨h.sub x hx, (hp x (h.sub x hx)).2 (h.bend x hx)⟩, fun hx => h.mem x hx.1 ((hp x hx.1).1 hx.2)⟩
open Classical in
/-- The band has all pegs of s just if each is a corner. -/
theorem hull_cvx (s : List S37) (hp : allP s) (hs : s.Pairwise fun a b => ltP a b = true) (h2 : 2 ≤ s.length) : (hullP s).length = s.length ↔ cvxP s := by
 have hup : s.Pairwise fun a b => ordP 1 a < ordP 1 b := by
  refine List.Pairwise.imp_of_mem ?_ hs
  intro a b ha hb hab
  exact (ord_lt (hp a ha) (hp b hb)).1 hab
 have hdn : s.reverse.Pairwise fun a b => ordP (-1) a < ordP (-1) b := by
  rw [List.pairwise_reverse]
  refine List.Pairwise.imp ?_ hup
  intro a b hab
  exact (ord_neg _ _).2 hab
 have hnd : s.Nodup := by
  refine List.Pairwise.imp ?_ hup
  intro a b hab he
  subst he
  omega
 have hi : ∀ x ∈ s, ∀ y ∈ s, ordP 1 x = ordP 1 y → x = y := fun x hx y hy h => ord_inj (hp x hx) (hp y hy) h
 have s1 := chain_all s hup hi
 have s2 : StackP (-1) s (chainR [] s.reverse) := by
  have h := chain_all s.reverse hdn (fun x hx y hy h => hi x (List.mem_reverse.1 hx) y (List.mem_reverse.1 hy) (by unfold ordP at *; omega))
  refine ⟨fun x hx => List.mem_reverse.1 (h.sub x hx), h.dec, fun x hx hb => h.mem x (List.mem_reverse.2 hx) (fun j hj k hk => hb j (List.mem_reverse.1 hj) k (List.mem_reverse.1 hk)), fun x hx j hj k hk => h.bend x hx j (List.mem_reverse.2 hj) k (List.mem_reverse.2 hk), ?_⟩
  have : ∀ u, nextP (-1) s.reverse u → nextP (-1) s u := by
   intro u
   induction u with
   | nil => intro _; trivial
   | cons b r ih =>
    cases r with
    | nil => intro _; trivial
    | cons a r => intro h; exact ⟨fun y hy => h.1 y (List.mem_reverse.2 hy), ih h.2⟩
  exact this _ h.next
 let p : S37 → Bool := fun x => decide (bendP 1 s x)
 let q : S37 → Bool := fun x => decide (bendP (-1) s x)
 have l1 := stack_len s1 hnd p (fun x _ => decide_eq_true_iff)
 have l2 := stack_len s2 hnd q (fun x _ => decide_eq_true_iff)
 have hlen : (hullP s).length = s.countP p - 1 + (s.countP q - 1) := by
  unfold hullP
  rw [List.length_append, List.length_dropLast, List.length_dropLast, List.length_reverse, List.length_reverse, l1, l2]
 have hcorn : ∀ x ∈ s, (p x = true ∨ q x = true) ↔ cornB s x := by
  intro x hx
  simp only [p, q, decide_eq_true_eq]
  unfold cornB bendP
  constructor
  ·rintro (h | h)
   ·exact .inl fun j hj k hk h1 h2 => h j hj k hk ((ord_lt (hp j hj) (hp x hx)).1 h1) ((ord_lt (hp x hx) (hp k hk)).1 h2)
   ·refine .inr fun j hj k hk h1 h2 => ?_
    have := h k hk j hj ((ord_neg _ _).2 ((ord_lt (hp x hx) (hp k hk)).1 h2)) ((ord_neg _ _).2 ((ord_lt (hp j hj) (hp x hx)).1 h1))
    rw [turn_swap] at this
    omega
  ·rintro (h | h)
   ·exact .inl fun j hj k hk h1 h2 => h j hj k hk ((ord_lt (hp j hj) (hp x hx)).2 h1) ((ord_lt (hp x hx) (hp k hk)).2 h2)
   ·refine .inr fun j hj k hk h1 h2 => ?_
    have := h k hk j hj ((ord_lt (hp k hk) (hp x hx)).2 ((ord_neg _ _).1 h2)) ((ord_lt (hp x hx) (hp j hj)).2 ((ord_neg _ _).1 h1))
    rw [turn_swap]
    omega
 obtain ⟨a, m, b, rfl⟩ := inner_split h2
 have hpw := List.pairwise_cons.1 hup
 have hpw2 := List.pairwise_append.1 hpw.2
 have am : ∀ x ∈ m ++ [b], ordP 1 a < ordP 1 x := hpw.1
 have mb : ∀ x ∈ m, ordP 1 x < ordP 1 b := fun x hx => hpw2.2.2 x hx b (by simp)
 have lo : ∀ k ∈ a :: (m ++ [b]), ordP 1 a ≤ ordP 1 k := by
  intro k hk
  rcases List.mem_cons.1 hk with rfl | hk
  ·exact Int.le_refl _
  ·exact Int.le_of_lt (am k hk)
 have hiB : ∀ k ∈ a :: (m ++ [b]), ordP 1 k ≤ ordP 1 b := by
  intro k hk
  rcases List.mem_cons.1 hk with rfl | hk
  ·exact Int.le_of_lt (am b (by simp))
  ·rcases List.mem_append.1 hk with hk | hk
   ·exact Int.le_of_lt (mb k hk)
   ·have : k = b := by simpa using hk
    rw [this]; exact Int.le_refl _
 have pa : p a = true := decide_eq_true fun j hj k hk h1 h2 => by have := lo j hj; omega
 have qa : q a = true := decide_eq_true fun j hj k hk h1 h2 => by have := lo k hk; have := (ord_neg _ _).1 h2; omega
 have pb : p b = true := decide_eq_true fun j hj k hk h1 h2 => by have := hiB k hk; omega
 have qb : q b = true := decide_eq_true fun j hj k hk h1 h2 => by have := hiB j hj; have := (ord_neg _ _).1 h1; omega
 have hdis : ∀ x ∈ m, ¬ (p x = true ∧ q x = true) := by
  intro x hx ⟨h3, h4⟩
  have h3 := of_decide_eq_true h3 a (by simp) b (by simp) (am x (by simp [hx])) (mb x hx)
  have h4 := of_decide_eq_true h4 b (by simp) a (by simp) ((ord_neg _ _).2 (mb x hx)) ((ord_neg _ _).2 (am x (by simp [hx])))
  rw [turn_swap] at h4
  omega
 obtain ⟨c1, c2⟩ := count_both p q m hdis
 have e1 : (a :: (m ++ [b])).countP p = m.countP p + 2 := by
  rw [List.countP_cons, if_pos pa, List.countP_append, List.countP_cons, if_pos pb, List.countP_nil]
 have e2 : (a :: (m ++ [b])).countP q = m.countP q + 2 := by
  rw [List.countP_cons, if_pos qa, List.countP_append, List.countP_cons, if_pos qb, List.countP_nil]
 rw [hlen, e1, e2]
 have e3 : (a :: (m ++ [b])).length = m.length + 2 := by simp
 rw [e3]
 have e4 : (m.countP p + 2 - 1 + (m.countP q + 2 - 1) = m.length + 2) ↔ (m.countP p + m.countP q = m.length) := by omega
 rw [e4, c2]
 unfold cvxP
 constructor
 ·intro h x hx
  rw [← hcorn x hx]
  rcases List.mem_cons.1 hx with rfl | hx
  ·exact .inl pa
  ·rcases List.mem_append.1 hx with hx | hx
   ·exact h x hx
   ·have : x = b := by simpa using hx
    rw [this]; exact .inl pb
 ·intro h x hx
  have hx' : x ∈ a :: (m ++ [b]) := by simp [hx]
  exact (hcorn x hx').2 (h x hx')

theorem strictP_sort (s : List S37) (hn : s.Nodup) : (sortP s).Pairwise fun a b => ltP a b = true := by
 have h1 := sortP_sorted s
 have h2 : (sortP s).Nodup := (sortP_perm s).nodup_iff.2 hn
 refine (List.Pairwise.and h1 h2).imp ?_
 intro a b h
 exact ltP_of_ne h.1 h.2

/-- Has the band of s all pegs of s? -/
def cvxB (s : List S37) : Bool := (if s.length < 3 then sortP s else hullP (sortP s)).length == s.length
theorem cvxP_mem {s t : List S37} (h : ∀ x, x ∈ s ↔ x ∈ t) : cvxP s ↔ cvxP t :=
 ⟨fun k => cvxP_sub k (fun x hx => (h x).2 hx), fun k => cvxP_sub k (fun x hx => (h x).1 hx)⟩
theorem cvxB_iff (s : List S37) (hp : allP s) (hn : s.Nodup) : cvxB s = true ↔ cvxP s := by
 have hs : allP (sortP s) := fun q hq => hp q ((sortP_perm s).subset hq)
 have hm : cvxP (sortP s) ↔ cvxP s := cvxP_mem fun x => (sortP_perm s).mem_iff
 have hl := sortP_length s
 have hst := strictP_sort s hn
 unfold cvxB
 rw [beq_iff_eq]
 by_cases c : s.length < 3
 ·rw [if_pos c]
  refine ⟨fun _ => ?_, fun _ => hl⟩
  rcases Nat.lt_or_ge s.length 2 with h | h
  ·intro x hx
   refine .inl fun j hj k hk h1 h2 => ?_
   exfalso
   match s, h, hx, hj with
   | [a], _, hx, hj =>
    have e1 : x = a := by simpa using hx
    have e2 : j = a := by simpa using hj
    rw [e1, e2, ltP_irrefl] at h1
    exact absurd h1 (by decide)
  ·rw [← hm]
   refine (hull_cvx (sortP s) hs hst (by omega)).1 ?_
   obtain ⟨a, b, e⟩ : ∃ a b, sortP s = [a, b] := by
    match hq : sortP s, (show (sortP s).length = 2 by omega) with
    | [a, b], _ => exact ⟨a, b, rfl⟩
   rw [e, hull_two]
 ·rw [if_neg c, ← hm, ← hull_cvx (sortP s) hs hst (by omega), hl]

/-- All convex lists that go on from b by some of a list, in order. -/
def dfsP (b : List S37) : List S37 → List (List S37)
 | [] => []
 | x :: r => (if cvxB (b ++ [x]) = true then (b ++ [x]) :: dfsP (b ++ [x]) r else []) ++ dfsP b r
theorem dfsP_length (r : List S37) : ∀ b, (dfsP b r).length + 1 ≤ 2 ^ r.length := by
 induction r with
 | nil => intro b; simp [dfsP]
 | cons x r ih =>
  intro b
  have h1 := ih b
  have h2 := ih (b ++ [x])
  unfold dfsP
  rw [List.length_append, List.length_cons, Nat.pow_succ]
  split
  ·rw [List.length_cons]; omega
  ·rw [List.length_nil]; omega

theorem bdSets_loop (S : List S37) (hS : S.length ≤ 12) (r : List S37) : ∀ (pre b : List S37) (out : List (List S37)) (k : Nat), S = pre ++ r → (b ++ r).Pairwise (fun x y => ltP x y = true) → allP (b ++ r) → b.length ≤ pre.length → out.length + 2 ^ r.length ≤ 1000000 → 40010 + 3 * r.length ≤ k →
  spec_bdSets.l0 k S b out (pre.length : Int) = some (out ++ dfsP b r) := by
 induction r with
 | nil =>
  intro pre b out k h _ _ _ _ hk
  obtain ⟨k, rfl⟩ : ∃ m, k = m + 1 := ⟨k - 1, by omega⟩
  simp only [spec_bdSets.l0]
  rw [if_neg (by rw [h]; simp)]
  simp [dfsP]
 | cons x r ih =>
  intro pre b out k h hd hp hb ho hk
  have hlen : pre.length + (r.length + 1) = S.length := by rw [h]; simp
  rw [List.length_cons] at hk ho
  rw [Nat.pow_succ] at ho
  have hpow : 0 < 2 ^ r.length := Nat.two_pow_pos _
  obtain ⟨k, rfl⟩ : ∃ m, k = m + 1 := ⟨k - 1, by omega⟩
  simp only [spec_bdSets.l0]
  rw [if_pos (by omega)]
  simp only [Option.bind_some, List.nil_append, List.length_nil]
  rw [if_pos (by omega), if_pos (by omega), show rd_T37 S (pre.length : Int) = x by rw [h]; exact rdPeg _ _ _, if_pos (by simp; omega), w64 (x := (pre.length : Int) + 1) (by omega) (by omega)]
  have hd1 : (b ++ r).Pairwise (fun x y => ltP x y = true) := hd.sublist (List.Sublist.append_left (List.sublist_cons_self x r) b)
  have hp1 : allP (b ++ r) := fun q hq => hp q (by simp at hq ⊢; rcases hq with hq | hq <;> simp [hq])
  have hd2 : ((b ++ [x]) ++ r).Pairwise (fun x y => ltP x y = true) := by simpa using hd
  have hp2 : allP ((b ++ [x]) ++ r) := by simpa using hp
  have hp3 : allP (b ++ [x]) := fun q hq => hp2 q (List.mem_append_left _ hq)
  have hl3 : (b ++ [x]).length = b.length + 1 := by simp
  have hband := bdBand_eq k (b ++ [x]) (by omega) (by omega) hp3 (by omega)
  have hrest : ∀ o : List (List S37), o.length + 2 ^ r.length ≤ 1000000 → spec_bdSets.l0 k S b o ((pre.length : Int) + 1) = some (o ++ dfsP b r) := fun o ho => by
   have := ih (pre ++ [x]) b o k (by simpa using h) hd1 hp1 (by simp; omega) ho (by omega)
   simpa using this
  rw [show (⟨x.f0, x.f1⟩ : S37) = x from rfl, hband, Option.bind_some]
  unfold dfsP
  by_cases c : cvxB (b ++ [x]) = true
  ·rw [if_pos c]
   unfold cvxB at c
   rw [beq_iff_eq] at c
   rw [if_pos (by rw [c]), if_pos (by omega)]
   obtain ⟨k, rfl⟩ : ∃ m, k = m + 1 := ⟨k - 1, by omega⟩
   have h1 : spec_bdSets.f (k + 1) S (b ++ [x]) ((pre.length : Int) + 1) (out ++ [b ++ [x]]) = some (out ++ [b ++ [x]] ++ dfsP (b ++ [x]) r) := by
    simp only [spec_bdSets.f]
    have := ih (pre ++ [x]) (b ++ [x]) (out ++ [b ++ [x]]) k (by simpa using h) hd2 hp2 (by simp; omega) (by simp; omega) (by omega)
    simpa using this
   have hl := dfsP_length r (b ++ [x])
   rw [h1, Option.bind_some, hrest _ (by simp; omega)]
   simp
  ·rw [if_neg c]
   unfold cvxB at c
   rw [beq_iff_eq] at c
   rw [if_neg (by omega), hrest out (by omega)]
   simp
theorem bdConvex_eq (k : Nat) (l : List S37) (h1 : 1 ≤ l.length) (hl : l.length ≤ 12) (hp : allP l) (hn : l.Nodup) (hk : 50000 ≤ k) : spec_bdConvex.f k l = some (dfsP [] (sortP l)) := by
 obtain ⟨k, rfl⟩ : ∃ m, k = m + 1 := ⟨k - 1, by omega⟩
 unfold spec_bdConvex.f
 rw [bdSorted_eq (k + 1) l (by omega) (by omega), Option.bind_some]
 have hs := sortP_length l
 have hpow : 2 ^ (sortP l).length ≤ 2 ^ 12 := Nat.pow_le_pow_right (by omega) (by omega)
 have := bdSets_loop (sortP l) (by omega) (sortP l) [] [] [] k rfl (by simpa using strictP_sort l hn) (by intro q hq; exact hp q ((sortP_perm l).subset (by simpa using hq))) (by simp) (by simp; omega) (by omega)
 simp only [spec_bdSets.f]
 rw [show (0 : Int) = (([] : List S37).length : Int) from rfl, this, Option.bind_some]
 simp

theorem areConvex_eq (k : Nat) (l : List S37) (h1 : 1 ≤ l.length) (hl : l.length ≤ 100) (hp : allP l) (hk : 40000 ≤ k) : impl_areConvex.f k l = some (cvxB l) := by
 obtain ⟨r, e1, e2, _⟩ := bands_eq k l h1 hl hp hk
 rw [bdBand_eq k l h1 hl hp hk] at e1
 have e1 := Option.some.inj e1
 unfold impl_areConvex.f cvxB
 rw [e2, Option.bind_some, ← e1]
 congr 1
 rw [Bool.eq_iff_iff, beq_iff_eq, beq_iff_eq]
 omega

/-- How many lists that some of a list make meet P, behind acc. -/
def cSub (P : List S37 → Bool) (acc : List S37) : List S37 → Nat
 | [] => (P acc).toNat
 | x :: l => cSub P acc l + cSub P (acc ++ [x]) l
theorem cSub_acc {P : List S37 → Bool} (hP : ∀ a b, a.Perm b → P a = P b) (l : List S37) : ∀ a b, a.Perm b → cSub P a l = cSub P b l := by
 induction l with
 | nil => intro a b h; unfold cSub; rw [hP a b h]
 | cons x l ih => intro a b h; unfold cSub; rw [ih a b h, ih _ _ (h.append_right [x])]
theorem cSub_perm {P : List S37 → Bool} (hP : ∀ a b, a.Perm b → P a = P b) {l m : List S37} (h : l.Perm m) : ∀ acc, cSub P acc l = cSub P acc m := by
 induction h with
 | nil => intro acc; rfl
 | cons x _ ih => intro acc; unfold cSub; rw [ih, ih]
 | swap x y l =>
  intro acc
  simp only [cSub]
  have : cSub P (acc ++ [x] ++ [y]) l = cSub P (acc ++ [y] ++ [x]) l := by
   refine cSub_acc hP l _ _ ?_
   rw [List.append_assoc, List.append_assoc]
   exact (List.Perm.swap y x []).append_left acc
  omega
 | trans _ _ h1 h2 => intro acc; rw [h1, h2]
/-- The pegs that a number's bits take out of a list. -/
def selB (i : Nat) : List S37 → List S37
 | [] => []
 | x :: l => if i % 2 = 1 then x :: selB (i / 2) l else selB (i / 2) l
theorem selB_cons (i : Nat) (x : S37) (l : List S37) : selB i (x :: l) = if i % 2 = 1 then x :: selB (i / 2) l else selB (i / 2) l := rfl
theorem selB_length (l : List S37) : ∀ i, (selB i l).length ≤ l.length := by
 induction l with
 | nil => intro i; simp [selB]
 | cons x l ih =>
  intro i
  have := ih (i / 2)
  unfold selB
  split <;> simp <;> omega
theorem selB_sub (l : List S37) : ∀ i, (selB i l).Sublist l := by
 induction l with
 | nil => intro i; exact List.Sublist.slnil
 | cons x l ih =>
  intro i
  unfold selB
  split
  ·exact (ih _).cons_cons x
  ·exact (ih _).cons x
theorem selB_zero (l : List S37) : selB 0 l = [] := by
 induction l with
 | nil => rfl
 | cons x l ih => unfold selB; rw [if_neg (by decide), ih]
/-- A sum over the numbers below n. -/
def sumTo (g : Nat → Nat) : Nat → Nat
 | 0 => 0
 | n + 1 => sumTo g n + g n
theorem sumTo_succ (g : Nat → Nat) (n : Nat) : sumTo g (n + 1) = sumTo g n + g n := rfl
theorem sumTo_two (g : Nat → Nat) (n : Nat) : sumTo g (2 * n) = sumTo (fun i => g (2 * i) + g (2 * i + 1)) n := by
 induction n with
 | zero => rfl
 | succ n ih =>
  rw [show 2 * (n + 1) = 2 * n + 1 + 1 by omega]
  rw [sumTo_succ, sumTo_succ, sumTo_succ, ← ih]
  omega
theorem sumTo_add (f g : Nat → Nat) (n : Nat) : sumTo (fun i => f i + g i) n = sumTo f n + sumTo g n := by
 induction n with
 | zero => rfl
 | succ n ih => rw [sumTo_succ, sumTo_succ, sumTo_succ, ih]; omega
theorem sum_sel (P : List S37 → Bool) (l : List S37) : ∀ acc, sumTo (fun i => (P (acc ++ selB i l)).toNat) (2 ^ l.length) = cSub P acc l := by
 induction l with
 | nil => intro acc; simp [sumTo, selB, cSub]
 | cons x l ih =>
  intro acc
  rw [List.length_cons, Nat.pow_succ, Nat.mul_comm, sumTo_two]
  have h1 : ∀ i, selB (2 * i) (x :: l) = selB i l := fun i => by
   rw [selB_cons, if_neg (by omega), show 2 * i / 2 = i by omega]
  have h2 : ∀ i, selB (2 * i + 1) (x :: l) = x :: selB i l := fun i => by
   rw [selB_cons, if_pos (by omega), show (2 * i + 1) / 2 = i by omega]
  simp only [h1, h2]
  rw [sumTo_add]
  unfold cSub
  rw [← ih acc, ← ih (acc ++ [x])]
  simp

theorem and_one (n : Nat) : Go.bits .and .i64 (n : Int) 1 = ((n % 2 : Nat) : Int) := by
 have h : Go.bits .and .i64 (n : Int) 1 = IntKind.i64.wrap (((n % 2 ^ 64) &&& 1 : Nat) : Int) := by
  show IntKind.i64.wrap (((BitVec.ofInt 64 (n : Int) &&& BitVec.ofInt 64 1).toNat : Nat) : Int) = _
  rw [BitVec.toNat_and, show (BitVec.ofInt 64 1).toNat = 1 from rfl, BitVec.toNat_ofInt]
  congr 3
 have h2 : (n % 2 ^ 64) % 2 = n % 2 := Nat.mod_mod_of_dvd n (by decide)
 rw [h, Nat.and_one_is_mod, h2, i64_w, w64 (by omega) (by omega)]
theorem shr_nat (b j : Nat) (hj : j ≤ 60) : shr .i64 (b : Int) (j : Int) = ((b / 2 ^ j : Nat) : Int) := by
 unfold shr
 rw [show min (j : Int).toNat IntKind.i64.bits = j by simp [IntKind.bits]; omega]
 exact (Int.natCast_ediv b (2 ^ j)).symm ▸ by simp
theorem shl_one (n : Nat) (hn : n ≤ 60) : shl .i64 1 (n : Int) = ((2 ^ n : Nat) : Int) := by
 have hp : 2 ^ n ≤ 2 ^ 60 := Nat.pow_le_pow_right (by omega) hn
 unfold shl
 rw [show min (n : Int).toNat IntKind.i64.bits = n by simp [IntKind.bits]; omega, Int.one_mul, show (2 : Int) ^ n = ((2 ^ n : Nat) : Int) by simp, i64_w]
 generalize 2 ^ n = q at hp ⊢
 exact w64 (by omega) (by omega)

theorem rdList (pre r : List (List S37)) (p : List S37) : rd_L3 (pre ++ p :: r) (pre.length : Int) = p := by
 unfold rd_L3
 simp

theorem cmpP_cases (x y : S37) : (cmpP x y = -1 ∧ ltP x y = true) ∨ (cmpP x y = 0 ∧ x = y) ∨ (cmpP x y = 1 ∧ ltP y x = true) := by
 unfold cmpP ltP
 simp only [decide_eq_true_eq]
 by_cases h1 : x.f0 < y.f0
 ·exact .inl ⟨by rw [if_pos h1], .inl h1⟩
 ·rw [if_neg h1]
  by_cases h2 : y.f0 < x.f0
  ·exact .inr (.inr ⟨by rw [if_pos h2], .inl h2⟩)
  ·rw [if_neg h2]
   have e : x.f0 = y.f0 := by omega
   by_cases h3 : x.f1 < y.f1
   ·exact .inl ⟨by rw [if_pos h3], .inr ⟨e, h3⟩⟩
   ·rw [if_neg h3]
    by_cases h4 : y.f1 < x.f1
    ·exact .inr (.inr ⟨by rw [if_pos h4], .inr ⟨e.symm, h4⟩⟩)
    ·refine .inr (.inl ⟨by rw [if_neg h4], ?_⟩)
     cases x; cases y
     simp only [S37.mk.injEq]
     simp only at e h3 h4
     omega
theorem ltP_tr {x y z : S37} (h1 : ltP x y = true) (h2 : ltP y z = true) : ltP x z = true := by
 unfold ltP at *
 rw [decide_eq_true_eq] at *
 omega
theorem ltP_asym {x y : S37} (h1 : ltP x y = true) (h2 : ltP y x = true) : False := by
 have := ltP_tr h1 h2
 rw [ltP_irrefl] at this
 exact absurd this (by decide)
/-- How two lists of pegs compare. -/
def lexC : List S37 → List S37 → Int
 | [], [] => 0
 | [], _ :: _ => -1
 | _ :: _, [] => 1
 | x :: a, y :: b => if cmpP x y = 0 then lexC a b else cmpP x y
theorem lexC_cons (x y : S37) (a b : List S37) : lexC (x :: a) (y :: b) = if cmpP x y = 0 then lexC a b else cmpP x y := rfl
theorem cmpP_self (x : S37) : cmpP x x = 0 := by
 rcases cmpP_cases x x with ⟨_, h⟩ | ⟨h, _⟩ | ⟨_, h⟩
 ·exact (ltP_asym h h).elim
 ·exact h
 ·exact (ltP_asym h h).elim
theorem lexC_self (a : List S37) : lexC a a = 0 := by
 induction a with
 | nil => rfl
 | cons x a ih => rw [lexC_cons, if_pos (cmpP_self x), ih]
theorem lexC_app (c a b : List S37) : lexC (c ++ a) (c ++ b) = lexC a b := by
 induction c with
 | nil => rfl
 | cons x c ih => rw [List.cons_append, List.cons_append, lexC_cons, if_pos (cmpP_self x), ih]
theorem cmpP_neg (x y : S37) : cmpP y x = -cmpP x y := by
 rcases cmpP_cases x y with ⟨h, k⟩ | ⟨h, k⟩ | ⟨h, k⟩
 ·rcases cmpP_cases y x with ⟨h', k'⟩ | ⟨h', k'⟩ | ⟨h', k'⟩
  ·exact (ltP_asym k k').elim
  ·subst k'; exact (ltP_asym k k).elim
  ·omega
 ·subst k; omega
 ·rcases cmpP_cases y x with ⟨h', k'⟩ | ⟨h', k'⟩ | ⟨h', k'⟩
  ·omega
  ·subst k'; exact (ltP_asym k k).elim
  ·exact (ltP_asym k k').elim
theorem lexC_neg : ∀ a b : List S37, lexC b a = -lexC a b
 | [], [] => rfl
 | [], _ :: _ => rfl
 | _ :: _, [] => rfl
 | x :: a, y :: b => by
  rw [lexC_cons, lexC_cons, cmpP_neg x y]
  by_cases c : cmpP x y = 0
  ·rw [if_pos (by omega), if_pos c, lexC_neg a b]
  ·rw [if_neg (by omega), if_neg c]
theorem lexC_zero : ∀ a b : List S37, lexC a b = 0 → a = b
 | [], [], _ => rfl
 | [], _ :: _, h => by simp [lexC] at h
 | _ :: _, [], h => by simp [lexC] at h
 | x :: a, y :: b, h => by
  rw [lexC_cons] at h
  by_cases c : cmpP x y = 0
  ·rw [if_pos c] at h
   rcases cmpP_cases x y with ⟨e, _⟩ | ⟨_, e⟩ | ⟨e, _⟩
   ·omega
   ·rw [e, lexC_zero a b h]
   ·omega
  ·rw [if_neg c] at h
   exact absurd h c
theorem cmpP_tr {x y z : S37} (h1 : cmpP x y ≤ 0) (h2 : cmpP y z ≤ 0) : cmpP x z ≤ 0 ∧ (cmpP x z = 0 → cmpP x y = 0 ∧ cmpP y z = 0) := by
 rcases cmpP_cases x y with ⟨a1, a2⟩ | ⟨a1, a2⟩ | ⟨a1, a2⟩
 ·rcases cmpP_cases y z with ⟨b1, b2⟩ | ⟨b1, b2⟩ | ⟨b1, b2⟩
  ·have c := ltP_tr a2 b2
   rcases cmpP_cases x z with ⟨c1, c2⟩ | ⟨c1, c2⟩ | ⟨c1, c2⟩
   ·omega
   ·subst c2; exact (ltP_asym c c).elim
   ·exact (ltP_asym c c2).elim
  ·subst b2; omega
  ·omega
 ·subst a2
  exact ⟨h2, fun h => ⟨a1, h⟩⟩
 ·omega
theorem lexC_tr : ∀ a b c : List S37, lexC a b ≤ 0 → lexC b c ≤ 0 → lexC a c ≤ 0
 | [], _, [], _, _ => by simp [lexC]
 | [], _, _ :: _, _, _ => by simp [lexC]
 | _ :: _, [], _, h, _ => by simp [lexC] at h
 | _ :: _, _ :: _, [], _, h => by simp [lexC] at h
 | x :: a, y :: b, z :: c, h1, h2 => by
  rw [lexC_cons] at *
  by_cases c1 : cmpP x y = 0
  ·rw [if_pos c1] at h1
   by_cases c2 : cmpP y z = 0
   ·rw [if_pos c2] at h2
    have := (cmpP_tr (x := x) (y := y) (z := z) (by omega) (by omega)).1
    have h3 := (cmpP_tr (x := z) (y := y) (z := x) (by rw [cmpP_neg y z]; omega) (by rw [cmpP_neg x y]; omega)).1
    rw [cmpP_neg x z] at h3
    rw [if_pos (by omega)]
    exact lexC_tr a b c h1 h2
   ·rw [if_neg c2] at h2
    obtain ⟨q1, q2⟩ := cmpP_tr (x := x) (y := y) (z := z) (by omega) h2
    rw [if_neg (fun e => c2 (q2 e).2)]
    exact q1
  ·rw [if_neg c1] at h1
   by_cases c2 : cmpP y z = 0
   ·obtain ⟨q1, q2⟩ := cmpP_tr (x := x) (y := y) (z := z) h1 (by omega)
    rw [if_neg (fun e => c1 (q2 e).1)]
    exact q1
   ·rw [if_neg c2] at h2
    obtain ⟨q1, q2⟩ := cmpP_tr (x := x) (y := y) (z := z) h1 h2
    rw [if_neg (fun e => c1 (q2 e).1)]
    exact q1

theorem cmpPegs_eq (k : Nat) (hk : 4 ≤ k) (x y : S37) : impl_comparePegs.f k x.f0 x.f1 y.f0 y.f1 = some (cmpP x y) := by
 obtain ⟨d, rfl⟩ : ∃ d, k = 4 + d := ⟨k - 4, by omega⟩
 induction d with
 | zero => exact cmpP_eq x y
 | succ d ih => exact impl_comparePegs.mono _ _ _ _ (4 + d) _ (ih (by omega))
theorem compare_loop (A B : List S37) (_hA : A.length ≤ 1000) (hB : B.length ≤ 1000) (ra : List S37) : ∀ (pa pb rb : List S37) (k : Nat), A = pa ++ ra → B = pb ++ rb → pa.length = pb.length → ra.length + 5 ≤ k →
  slices_CompareFunc_impl_Peg_impl_Peg_impl_Peg_impl_Peg.l0 k A B A (A.length : Int) (pa.length : Int) = some (lexC ra rb) := by
 induction ra with
 | nil =>
  intro pa pb rb k h1 h2 h3 hk
  obtain ⟨k, rfl⟩ : ∃ m, k = m + 1 := ⟨k - 1, by omega⟩
  have e1 : A.length = pa.length := by rw [h1]; simp
  have e2 : B.length = pb.length + rb.length := by rw [h2]; simp
  simp only [slices_CompareFunc_impl_Peg_impl_Peg_impl_Peg_impl_Peg.l0]
  rw [if_neg (by omega)]
  cases rb with
  | nil => rw [if_neg (by simp at e2; omega)]; rfl
  | cons y rb => rw [if_pos (by simp at e2; omega)]; rfl
 | cons x ra ih =>
  intro pa pb rb k h1 h2 h3 hk
  rw [List.length_cons] at hk
  obtain ⟨k, rfl⟩ : ∃ m, k = m + 1 := ⟨k - 1, by omega⟩
  have e1 : A.length = pa.length + (ra.length + 1) := by rw [h1]; simp
  have e2 : B.length = pb.length + rb.length := by rw [h2]; simp
  simp only [slices_CompareFunc_impl_Peg_impl_Peg_impl_Peg_impl_Peg.l0]
  rw [if_pos (by omega), if_pos (by omega), if_pos (by omega)]
  cases rb with
  | nil => rw [if_pos (by simp at e2; omega)]; rfl
  | cons y rb =>
   rw [List.length_cons] at e2
   have hx : rd_T37 A (pa.length : Int) = x := by rw [h1]; exact rdPeg _ _ _
   have hy : rd_T37 B (pa.length : Int) = y := by rw [h2, h3]; exact rdPeg _ _ _
   rw [if_neg (by omega), if_pos (by omega), hx, hy, cmpPegs_eq k (by omega), Option.bind_some, lexC_cons, w64 (x := (pa.length : Int) + 1) (by omega) (by omega)]
   by_cases c : cmpP x y = 0
   ·rw [if_pos c, if_pos c]
    have := ih (pa ++ [x]) (pb ++ [y]) rb k (by simpa using h1) (by simpa using h2) (by simp; omega) (by omega)
    simpa using this
   ·rw [if_neg c, if_neg c]
theorem compare_eq (k : Nat) (a b : List S37) (ha : a.length ≤ 1000) (hb : b.length ≤ 1000) (hk : 1010 ≤ k) : impl_comparePolygons.f k a b = some (lexC a b) := by
 unfold impl_comparePolygons.f slices_CompareFunc_impl_Peg_impl_Peg_impl_Peg_impl_Peg.f
 have := compare_loop a b ha hb a [] [] b k rfl rfl rfl (by omega)
 rw [show (0 : Int) = (([] : List S37).length : Int) from rfl, this, Option.bind_some]

/-- One list is at least as good as another one. -/
def geP (b t : List S37) : Prop := t.length < b.length ∨ (t.length = b.length ∧ lexC b t ≤ 0)
/-- The best one of those that have been visited. -/
structure BestP (V : List S37 → Prop) (b : List S37) : Prop where
 one : b = [] ∨ V b
 all : ∀ t, V t → geP b t
theorem BestP.same {V : List S37 → Prop} {a b : List S37} (ha : BestP V a) (hb : BestP V b) (hne : ∃ t, V t ∧ t ≠ []) : a = b := by
 obtain ⟨t, ht, hn⟩ := hne
 have hpos : 0 < t.length := List.length_pos_iff.2 hn
 have go : ∀ {c}, BestP V c → V c := fun {c} h => by
  rcases h.one with e | e
  ·subst e
   rcases h.all t ht with h1 | h1
   ·simp at h1
   ·simp at h1; exact absurd h1.1 hn
  ·exact e
 have h1 := ha.all b (go hb)
 have h2 := hb.all a (go ha)
 unfold geP at h1 h2
 have e1 : lexC a b ≤ 0 := by omega
 have e2 : lexC b a ≤ 0 := by omega
 rw [lexC_neg a b] at e2
 exact lexC_zero a b (by omega)
/-- One list more. -/
def stepM (b s : List S37) : List S37 := if s.length < b.length then b else if cvxB s = true then (if b.length < s.length then s else if lexC s b < 0 then s else b) else b
theorem BestP.step {V : List S37 → Prop} {b : List S37} (h : BestP V b) (s : List S37) : BestP (fun t => V t ∨ (t = s ∧ cvxB t = true)) (stepM b s) := by
 unfold stepM
 by_cases c1 : s.length < b.length
 ·rw [if_pos c1]
  exact ⟨h.one.imp id .inl, fun t ht => ht.elim (h.all t) (fun e => by rw [e.1]; exact .inl c1)⟩
 ·rw [if_neg c1]
  by_cases c2 : cvxB s = true
  ·rw [if_pos c2]
   by_cases c3 : b.length < s.length
   ·rw [if_pos c3]
    refine ⟨.inr (.inr ⟨rfl, c2⟩), fun t ht => ?_⟩
    rcases ht with ht | ⟨e, _⟩
    ·have := h.all t ht
     unfold geP at this
     exact .inl (by omega)
    ·rw [e]; exact .inr ⟨rfl, by rw [lexC_self]; omega⟩
   ·rw [if_neg c3]
    by_cases c4 : lexC s b < 0
    ·rw [if_pos c4]
     refine ⟨.inr (.inr ⟨rfl, c2⟩), fun t ht => ?_⟩
     rcases ht with ht | ⟨e, _⟩
     ·rcases h.all t ht with h1 | ⟨h1, h2⟩
      ·exact .inl (by omega)
      ·exact .inr ⟨by omega, lexC_tr s b t (by omega) h2⟩
     ·rw [e]; exact .inr ⟨rfl, by rw [lexC_self]; omega⟩
    ·rw [if_neg c4]
     refine ⟨h.one.imp id .inl, fun t ht => ?_⟩
     rcases ht with ht | ⟨e, _⟩
     ·exact h.all t ht
     ·rw [e]; exact .inr ⟨by omega, by rw [lexC_neg s b]; omega⟩
  ·rw [if_neg c2]
   exact ⟨h.one.imp id .inl, fun t ht => ht.elim (h.all t) (fun e => by rw [e.1] at e; exact absurd e.2 c2)⟩
theorem BestP.iff {V W : List S37 → Prop} {b : List S37} (h : BestP V b) (e : ∀ t, V t ↔ W t) : BestP W b := ⟨h.one.imp id (e b).1, fun t ht => h.all t ((e t).2 ht)⟩

theorem visitM_eq (k : Nat) (hk : 40000 ≤ k) (s b : List S37) (hp : allP s) (h1 : 1 ≤ s.length) (hs : s.length ≤ 100) (_hb : b.length ≤ 100) : impl_MostConvex_1.f k s b = some (stepM b s) := by
 unfold impl_MostConvex_1.f stepM
 by_cases c1 : s.length < b.length
 ·rw [if_pos (by omega), if_pos c1]
 ·rw [if_neg (by omega), if_neg c1, areConvex_eq k s h1 hs hp hk, Option.bind_some]
  by_cases c2 : cvxB s = true
  ·rw [if_pos c2, if_pos c2]
   by_cases c3 : b.length < s.length
   ·rw [if_pos (by omega), if_pos c3]
   ·rw [if_neg (by omega), if_neg c3, compare_eq k s b (by omega) (by omega) (by omega), Option.bind_some]
    by_cases c4 : lexC s b < 0
    ·rw [if_pos c4, if_pos c4]
    ·rw [if_neg c4, if_neg c4]
  ·rw [if_neg c2, if_neg c2]
theorem setsM_in (l : List S37) (hl : l.length ≤ 12) (b : Nat) (s : List S37) (R : List S37) (K0 : Nat) (r : List S37) : ∀ (pre x5 : List S37) (k : Nat), l = pre ++ r → x5.length ≤ pre.length → K0 + r.length + 1 ≤ k →
  (∀ k, K0 ≤ k → ((impl_MostConvex_1.f k (x5 ++ selB (b / 2 ^ pre.length) r) s).bind fun t => impl_sets.l0 k l (wrap64 ((b : Int) + 1)) t) = some R) →
  impl_sets.l1 k l (b : Int) x5 l (l.length : Int) (pre.length : Int) s = some R := by
 induction r with
 | nil =>
  intro pre x5 k h hx hk hc
  obtain ⟨k, rfl⟩ : ∃ m, k = m + 1 := ⟨k - 1, by omega⟩
  simp only [impl_sets.l1]
  rw [if_neg (by rw [h]; simp)]
  have := hc k (by simp at hk; omega)
  simpa [selB] using this
 | cons p r ih =>
  intro pre x5 k h hx hk hc
  have hlen : pre.length + (r.length + 1) = l.length := by rw [h]; simp
  rw [List.length_cons] at hk
  obtain ⟨k, rfl⟩ : ∃ m, k = m + 1 := ⟨k - 1, by omega⟩
  simp only [impl_sets.l1]
  rw [if_pos (by omega), if_pos (by omega), if_pos (by omega), shr_nat b pre.length (by omega), and_one, show rd_T37 l (pre.length : Int) = p by rw [h]; exact rdPeg _ _ _, w64 (x := (pre.length : Int) + 1) (by omega) (by omega)]
  have hdiv : b / 2 ^ pre.length / 2 = b / 2 ^ (pre ++ [p]).length := by
   rw [Nat.div_div_eq_div_mul, List.length_append, List.length_singleton, Nat.pow_succ]
  by_cases c : b / 2 ^ pre.length % 2 = 1
  ·rw [if_pos (by omega), if_pos (by omega)]
   have := ih (pre ++ [p]) (x5 ++ [p]) k (by simpa using h) (by simp; omega) (by omega) (fun k hk => by
    have := hc k hk
    rw [selB_cons, if_pos c, hdiv] at this
    simpa using this)
   simpa using this
  ·rw [if_neg (by omega)]
   have := ih (pre ++ [p]) x5 k (by simpa using h) (by simp; omega) (by omega) (fun k hk => by
    have := hc k hk
    rw [selB_cons, if_neg c, hdiv] at this
    exact this)
   simpa using this
theorem selB_ne (l : List S37) : ∀ b, 0 < b → b < 2 ^ l.length → 1 ≤ (selB b l).length := by
 induction l with
 | nil => intro b h1 h2; simp at h2; omega
 | cons x l ih =>
  intro b h1 h2
  rw [List.length_cons, Nat.pow_succ] at h2
  rw [selB_cons]
  by_cases c : b % 2 = 1
  ·rw [if_pos c]; simp
  ·rw [if_neg c]
   exact ih (b / 2) (by omega) (by omega)
theorem selB_all (l : List S37) : ∀ t, t.Sublist l → ∃ b, b < 2 ^ l.length ∧ selB b l = t := by
 induction l with
 | nil =>
  intro t h
  exact ⟨0, by simp, (List.sublist_nil.1 h).symm⟩
 | cons x l ih =>
  intro t h
  rw [List.length_cons, Nat.pow_succ]
  rcases List.sublist_cons_iff.1 h with h2 | ⟨r, rfl, h2⟩
  ·obtain ⟨b, hb, e⟩ := ih t h2
   refine ⟨2 * b, by omega, ?_⟩
   rw [selB_cons, if_neg (by omega), show 2 * b / 2 = b by omega, e]
  ·obtain ⟨b, hb, e⟩ := ih r h2
   refine ⟨2 * b + 1, by omega, ?_⟩
   rw [selB_cons, if_pos (by omega), show (2 * b + 1) / 2 = b by omega, e]
theorem stepM_length (b s : List S37) (m : Nat) (hb : b.length ≤ m) (hs : s.length ≤ m) : (stepM b s).length ≤ m := by
 unfold stepM
 split
 ·exact hb
 ·split
  ·split
   ·exact hs
   ·split
    ·exact hs
    ·exact hb
  ·exact hb
theorem setsM_loop (l : List S37) (hl : l.length ≤ 12) (hp : allP l) (d : Nat) : ∀ (b : Nat) (s : List S37), 0 < b → b + d = 2 ^ l.length → s.length ≤ 12 → BestP (fun t => ∃ i, 0 < i ∧ i < b ∧ t = selB i l ∧ cvxB t = true) s →
  ∃ m, BestP (fun t => ∃ i, 0 < i ∧ i < 2 ^ l.length ∧ t = selB i l ∧ cvxB t = true) m ∧ m.length ≤ 12 ∧ ∀ k, 40000 + 20 * d + 1 ≤ k → impl_sets.l0 k l (b : Int) s = some m := by
 have hpw : 2 ^ l.length ≤ 2 ^ 12 := Nat.pow_le_pow_right (by omega) hl
 induction d with
 | zero =>
  intro b s _ h hs hB
  refine ⟨s, by rwa [show 2 ^ l.length = b by omega], hs, fun k hk => ?_⟩
  obtain ⟨k, rfl⟩ : ∃ m, k = m + 1 := ⟨k - 1, by omega⟩
  simp only [impl_sets.l0]
  rw [shl_one l.length (by omega), if_neg (by omega)]
 | succ d ih =>
  intro b s h0 h hs hB
  have hsl := selB_length l b
  have hB2 := (hB.step (selB b l)).iff (W := fun t => ∃ i, 0 < i ∧ i < b + 1 ∧ t = selB i l ∧ cvxB t = true) (fun t => by
   constructor
   ·rintro (⟨i, h1, h2, h3, h4⟩ | ⟨h1, h2⟩)
    ·exact ⟨i, h1, by omega, h3, h4⟩
    ·exact ⟨b, h0, by omega, h1, h2⟩
   ·rintro ⟨i, h1, h2, h3, h4⟩
    by_cases e : i = b
    ·subst e; exact .inr ⟨h3, h4⟩
    ·exact .inl ⟨i, h1, by omega, h3, h4⟩)
  obtain ⟨m, hm, hml, hr⟩ := ih (b + 1) (stepM s (selB b l)) (by omega) (by omega) (stepM_length _ _ 12 hs (by omega)) hB2
  refine ⟨m, hm, hml, fun k hk => ?_⟩
  obtain ⟨k, rfl⟩ : ∃ m, k = m + 1 := ⟨k - 1, by omega⟩
  simp only [impl_sets.l0]
  rw [shl_one l.length (by omega), if_pos (by omega)]
  refine setsM_in l hl b s m (40000 + 20 * d + 1) l [] [] k rfl (by simp) (by omega) (fun k hk => ?_)
  rw [List.nil_append, List.length_nil, Nat.pow_zero, Nat.div_one, visitM_eq k (by omega) _ s (fun q hq => hp q ((selB_sub l b).subset hq)) (selB_ne l b h0 (by omega)) (by omega) (by omega), Option.bind_some, w64 (x := (b : Int) + 1) (by omega) (by omega)]
  exact hr k hk
/-- The lists that count. -/
def setV (l : List S37) (t : List S37) : Prop := t ≠ [] ∧ t.Sublist l ∧ cvxB t = true
theorem setsM_eq (l : List S37) (hl : l.length ≤ 12) (hp : allP l) : ∃ m, BestP (setV l) m ∧ m.length ≤ 12 ∧ ∀ k, 200000 ≤ k → impl_sets.f k l [] = some m := by
 have hpw : 2 ^ l.length ≤ 2 ^ 12 := Nat.pow_le_pow_right (by omega) hl
 have hpos : 0 < 2 ^ l.length := Nat.two_pow_pos _
 obtain ⟨m, hm, hml, hr⟩ := setsM_loop l hl hp (2 ^ l.length - 1) 1 [] (by omega) (by omega) (by simp) ⟨.inl rfl, by rintro t ⟨i, h1, h2, _⟩; omega⟩
 refine ⟨m, hm.iff fun t => ?_, hml, fun k hk => ?_⟩
 ·constructor
  ·rintro ⟨i, h1, h2, rfl, h4⟩
   refine ⟨?_, selB_sub l i, h4⟩
   have := selB_ne l i h1 h2
   rintro e
   rw [e] at this
   simp at this
  ·rintro ⟨h1, h2, h3⟩
   obtain ⟨i, hi, e⟩ := selB_all l t h2
   refine ⟨i, ?_, hi, e.symm, h3⟩
   rcases Nat.eq_zero_or_pos i with h | h
   ·subst h
    rw [selB_zero] at e
    exact absurd e.symm h1
   ·exact h
 ·unfold impl_sets.f
  exact hr k (by omega)

theorem cvx_pre {b u : List S37} (hp : allP (b ++ u)) (hn : (b ++ u).Nodup) (h : cvxB (b ++ u) = true) : cvxB b = true := by
 rw [cvxB_iff _ hp hn] at h
 rw [cvxB_iff b (fun q hq => hp q (List.mem_append_left _ hq)) (List.Nodup.sublist (List.sublist_append_left _ _) hn)]
 exact cvxP_sub h (fun y hy => List.mem_append_left _ hy)
theorem dfs_mem (r : List S37) : ∀ (b t : List S37), allP (b ++ r) → (b ++ r).Nodup → (t ∈ dfsP b r ↔ ∃ u, u ≠ [] ∧ u.Sublist r ∧ t = b ++ u ∧ cvxB t = true) := by
 induction r with
 | nil =>
  intro b t _ _
  simp only [dfsP, List.not_mem_nil, false_iff]
  rintro ⟨u, h1, h2, _⟩
  exact h1 (List.sublist_nil.1 h2)
 | cons x r ih =>
  intro b t hp hn
  have hp2 : allP ((b ++ [x]) ++ r) := by simpa using hp
  have hn2 : ((b ++ [x]) ++ r).Nodup := by simpa using hn
  have hp1 : allP (b ++ r) := fun q hq => hp q (by simp at hq ⊢; rcases hq with hq | hq <;> simp [hq])
  have hn1 : (b ++ r).Nodup := hn.sublist (List.Sublist.append_left (List.sublist_cons_self x r) b)
  unfold dfsP
  rw [List.mem_append, ih b t hp1 hn1]
  constructor
  ·rintro (h | ⟨u, h1, h2, h3, h4⟩)
   ·split at h
    ·rename_i c
     rcases List.mem_cons.1 h with h | h
     ·exact ⟨[x], by simp, by simp, h, by rw [h]; exact c⟩
     ·obtain ⟨u, h1, h2, h3, h4⟩ := (ih (b ++ [x]) t hp2 hn2).1 h
      exact ⟨x :: u, by simp, h2.cons_cons x, by simpa using h3, h4⟩
    ·simp at h
   ·exact ⟨u, h1, h2.cons x, h3, h4⟩
  ·rintro ⟨u, h1, h2, h3, h4⟩
   rcases List.sublist_cons_iff.1 h2 with h5 | ⟨u', rfl, h5⟩
   ·exact .inr ⟨u, h1, h5, h3, h4⟩
   ·left
    have hs : ((b ++ [x]) ++ u').Sublist ((b ++ [x]) ++ r) := h5.append_left _
    have c : cvxB (b ++ [x]) = true := by
     refine cvx_pre (u := u') (fun q hq => hp2 q (hs.subset hq)) (hn2.sublist hs) ?_
     rw [h3] at h4
     simpa using h4
    rw [if_pos c]
    by_cases e : u' = []
    ·subst e; exact List.mem_cons.2 (.inl h3)
    ·exact List.mem_cons.2 (.inr ((ih (b ++ [x]) t hp2 hn2).2 ⟨u', e, h5, by simpa using h3, h4⟩))
theorem dfs_order (r : List S37) : ∀ b : List S37, allP (b ++ r) → (b ++ r).Pairwise (fun x y => ltP x y = true) → (dfsP b r).Pairwise (fun u t => t.length ≤ u.length → lexC u t ≤ 0) := by
 induction r with
 | nil => intro b _ _; exact List.Pairwise.nil
 | cons x r ih =>
  intro b hp hd
  have hp2 : allP ((b ++ [x]) ++ r) := by simpa using hp
  have hd2 : ((b ++ [x]) ++ r).Pairwise (fun x y => ltP x y = true) := by simpa using hd
  have hp1 : allP (b ++ r) := fun q hq => hp q (by simp at hq ⊢; rcases hq with hq | hq <;> simp [hq])
  have hd1 : (b ++ r).Pairwise (fun x y => ltP x y = true) := hd.sublist (List.Sublist.append_left (List.sublist_cons_self x r) b)
  have hn1 := strict_nodup _ hd1
  have hn2 := strict_nodup _ hd2
  have hxr : ∀ y ∈ r, ltP x y = true := (List.pairwise_cons.1 (List.pairwise_append.1 hd).2.1).1
  have hcross : ∀ u, (∃ u', u = b ++ x :: u') → ∀ t ∈ dfsP b r, t.length ≤ u.length → lexC u t ≤ 0 := by
   rintro u ⟨u', rfl⟩ t ht _
   obtain ⟨v, h1, h2, h3, _⟩ := (dfs_mem r b t hp1 hn1).1 ht
   subst h3
   rw [lexC_app]
   cases v with
   | nil => exact absurd rfl h1
   | cons y v =>
    have hy := hxr y (h2.subset (by simp))
    rw [lexC_cons]
    rcases cmpP_cases x y with ⟨e, _⟩ | ⟨_, e⟩ | ⟨_, e⟩
    ·rw [if_neg (by omega)]; omega
    ·subst e; exact (ltP_asym hy hy).elim
    ·exact (ltP_asym hy e).elim
  unfold dfsP
  refine List.pairwise_append.2 ⟨?_, ih b hp1 hd1, ?_⟩
  ·split
   ·refine List.pairwise_cons.2 ⟨?_, ih (b ++ [x]) hp2 hd2⟩
    intro t ht hle
    obtain ⟨v, h1, _, h3, _⟩ := (dfs_mem r (b ++ [x]) t hp2 hn2).1 ht
    have := List.length_pos_iff.2 h1
    rw [h3, List.length_append] at hle
    omega
   ·exact List.Pairwise.nil
  ·intro u hu t ht hle
   split at hu
   ·rcases List.mem_cons.1 hu with rfl | hu
    ·exact hcross _ ⟨[], rfl⟩ t ht hle
    ·obtain ⟨v, _, _, h3, _⟩ := (dfs_mem r (b ++ [x]) u hp2 hn2).1 hu
     exact hcross u ⟨v, by simpa using h3⟩ t ht hle
   ·simp at hu
/-- The first longest one. -/
def firstP (b : List S37) : List (List S37) → List S37
 | [] => b
 | t :: r => firstP (if b.length < t.length then t else b) r
theorem firstP_best (r : List (List S37)) : ∀ (pre : List (List S37)) (b : List S37), (∀ t ∈ r, t ≠ []) → (pre ++ r).Pairwise (fun u t => t.length ≤ u.length → lexC u t ≤ 0) → BestP (fun t => t ∈ pre) b → BestP (fun t => t ∈ pre ++ r) (firstP b r) := by
 induction r with
 | nil => intro pre b _ _ h; simpa [firstP] using h
 | cons t r ih =>
  intro pre b hne hp h
  unfold firstP
  have hb : BestP (fun u => u ∈ pre ++ [t]) (if b.length < t.length then t else b) := by
   by_cases c : b.length < t.length
   ·rw [if_pos c]
    refine ⟨.inr (by simp), fun u hu => ?_⟩
    rcases List.mem_append.1 hu with hu | hu
    ·have := h.all u hu
     unfold geP at this
     exact .inl (by omega)
    ·have : u = t := by simpa using hu
     rw [this]; exact .inr ⟨rfl, by rw [lexC_self]; omega⟩
   ·rw [if_neg c]
    have htp := List.length_pos_iff.2 (hne t (by simp))
    refine ⟨h.one.imp id (fun e => List.mem_append_left _ e), fun u hu => ?_⟩
    rcases List.mem_append.1 hu with hu | hu
    ·exact h.all u hu
    ·have hut : u = t := by simpa using hu
     rw [hut]
     rcases h.one with e | e
     ·rw [e, List.length_nil] at c; omega
     ·rcases Nat.lt_or_ge t.length b.length with h1 | h1
      ·exact .inl h1
      ·exact .inr ⟨by omega, (List.pairwise_append.1 hp).2.2 b e t (by simp) (by omega)⟩
  have := ih (pre ++ [t]) _ (fun u hu => hne u (List.mem_cons_of_mem _ hu)) (by simpa using hp) hb
  simpa using this
theorem dfs_best (l : List S37) (hp : allP l) (hd : l.Pairwise (fun x y => ltP x y = true)) : BestP (setV l) (firstP [] (dfsP [] l)) := by
 have hm := fun t => dfs_mem l [] t (by simpa using hp) (by simpa using strict_nodup _ hd)
 have h1 := firstP_best (dfsP [] l) [] [] (fun t ht => by
  obtain ⟨u, h1, _, h3, _⟩ := (hm t).1 ht
  rw [h3]; exact h1) (by simpa using dfs_order l [] (by simpa using hp) (by simpa using hd)) ⟨.inl rfl, by intro t ht; simp at ht⟩
 refine h1.iff fun t => ?_
 rw [List.nil_append, hm t]
 unfold setV
 constructor
 ·rintro ⟨u, h1, h2, h3, h4⟩
  rw [List.nil_append] at h3
  subst h3
  exact ⟨h1, h2, h4⟩
 ·rintro ⟨h1, h2, h3⟩
  exact ⟨t, h1, h2, rfl, h3⟩

/-- The one pure statement of the law FnExactMostConvex. -/
def FnExactMostConvex.Pure : Prop :=
 ∀ (l0 : List (S39)), l0.length ≤ maxLen → (∀ x ∈ l0, I64 x.f0 ∧ I64 x.f1) → ∃ k, laws_FnExactMostConvex.f k l0 = some true

theorem specMost_loop (d : Nat) (hd : d ≤ 100000) (r : List (List S37)) : ∀ (pre : List (List S37)) (b : List S37) (k : Nat), pre.length + r.length = d → r.length + 1 ≤ k → spec_MostConvex.l0 k b (pre ++ r) (d : Int) (pre.length : Int) = some (firstP b r, true) := by
 induction r with
 | nil =>
  intro pre b k h hk
  obtain ⟨k, rfl⟩ : ∃ m, k = m + 1 := ⟨k - 1, by omega⟩
  simp only [spec_MostConvex.l0]
  rw [if_neg (by simp at h; omega)]
  rfl
 | cons t r ih =>
  intro pre b k h hk
  rw [List.length_cons] at h hk
  obtain ⟨k, rfl⟩ : ∃ m, k = m + 1 := ⟨k - 1, by omega⟩
  simp only [spec_MostConvex.l0]
  rw [if_pos (by omega), if_pos (by omega), if_pos (by simp; omega), rdList, w64 (x := (pre.length : Int) + 1) (by omega) (by omega)]
  unfold firstP
  by_cases c : b.length < t.length
  ·rw [if_pos (by omega), if_pos c]
   have := ih (pre ++ [t]) t k (by simp; omega) (by omega)
   simpa using this
  ·rw [if_neg (by omega), if_neg c]
   have := ih (pre ++ [t]) b k (by simp; omega) (by omega)
   simpa using this
theorem most_eq (l : List S37) : ∃ r g, r.length ≤ 12 ∧ ∀ k, 300000 ≤ k → spec_MostConvex.f k l = some (r, g) ∧ impl_MostConvex.f k l = some (r, g) := by
 by_cases g : goodB l = true ∧ l.length ≤ 12
 ·obtain ⟨⟨g1, _⟩, g3, g4⟩ := (goodB_iff l).1 g.1
  have hs := sortP_length l
  have hsp : allP (sortP l) := fun q hq => g3 q ((sortP_perm l).subset hq)
  have hst := strictP_sort l g4
  obtain ⟨m, hm, hml, hr⟩ := setsM_eq (sortP l) (by omega) hsp
  have e : firstP [] (dfsP [] (sortP l)) = m := by
   refine (dfs_best (sortP l) hsp hst).same hm ?_
   have hne : sortP l ≠ [] := by
    intro h
    rw [h] at hs
    simp at hs
    omega
   refine ⟨[(sortP l).head hne], ⟨by simp, ?_, ?_⟩, by simp⟩
   ·rw [List.singleton_sublist]; exact List.head_mem hne
   ·unfold cvxB
    rw [if_pos (by simp), beq_iff_eq]
    exact sortP_length _
  refine ⟨m, true, hml, fun k hk => ?_⟩
  unfold spec_MostConvex.f spec_bdFew.f impl_MostConvex.f impl_areFew.f
  rw [bdGood_eq k (by omega), areDiff_eq k (by omega)]
  simp only [Option.bind_some, if_pos g.1]
  have e2 : decide ((l.length : Int) ≤ 12) = true := by rw [decide_eq_true_eq]; omega
  rw [e2, if_pos rfl, if_pos rfl, bdConvex_eq k l g1 g.2 g3 g4 (by omega), sorted_eq l (by omega), Option.bind_some, Option.bind_some, hr k (by omega), Option.bind_some]
  refine ⟨?_, rfl⟩
  have h1 := dfsP_length (sortP l) []
  have hpw : 2 ^ (sortP l).length ≤ 2 ^ 12 := Nat.pow_le_pow_right (by omega) (by omega)
  have := specMost_loop (dfsP [] (sortP l)).length (by omega) (dfsP [] (sortP l)) [] [] k (by simp) (by omega)
  rw [e] at this
  exact this
 ·refine ⟨[], false, by simp, fun k hk => ?_⟩
  unfold spec_MostConvex.f spec_bdFew.f impl_MostConvex.f impl_areFew.f
  rw [bdGood_eq k (by omega), areDiff_eq k (by omega)]
  simp only [Option.bind_some]
  by_cases c : goodB l = true
  ·have e : decide ((l.length : Int) ≤ 12) = false := by
    rw [decide_eq_false_iff_not]
    intro h
    exact g ⟨c, by omega⟩
   simp [c, e]
  ·simp [c]
theorem FnExactMostConvex : FnExactMostConvex.Pure := by
 intro l hl _
 obtain ⟨k, hk⟩ : ∃ k : Nat, 1048600 ≤ k := ⟨1048600, Nat.le_refl _⟩
 refine ⟨k + 3, ?_⟩
 unfold laws_FnExactMostConvex.f
 rw [szPegS_eq l hl, Option.bind_some]
 by_cases c : 1048576 < l.length
 ·rw [if_pos c, if_pos (by decide)]
 ·rw [if_neg c, if_neg (by omega), toPegS_eq (k + 3) l (by omega) (by omega), Option.bind_some]
  obtain ⟨r, g, hr, hall⟩ := most_eq (l.map convPeg)
  rw [(hall (k + 3) (by omega)).1, Option.bind_some, Option.bind_some, (hall (k + 3) (by omega)).2, Option.bind_some, eqPegS_self (k + 3) r (by omega) (by omega), Option.bind_some, if_pos rfl]
  have hm0 : ∀ k, 1048600 ≤ k → laws_markPegS.f k (l.map convPeg) 1 = some (((1 + 2 * (l.map convPeg).length : Nat) : Int), markedPegs 1 (l.map convPeg).length) := fun k hk => markPegS_eq k 1 (by omega) _ (by simp; omega) (by simp; omega)
  have hm : ∀ k, 1048600 ≤ k → laws_markPegS.f k r 1 = some (((1 + 2 * r.length : Nat) : Int), markedPegs 1 r.length) := fun k hk => markPegS_eq k 1 (by omega) r (by omega) (by omega)
  have hh : ∀ k, 1048600 ≤ k → laws_heldPegS.f k (markedPegs 1 r.length) 1 = some ((1 + 2 * r.length : Nat) : Int) := fun k hk => heldPegS_eq k 1 (by omega) r.length (by omega) (by omega)
  simp only [laws_FnExactMostConvex.j0]
  rw [if_neg (by simp), toPegS_eq (k + 2) l (by omega) (by omega), Option.bind_some, eqPegS_self (k + 2) (l.map convPeg) (by simp; omega) (by simp; omega), Option.bind_some, if_pos rfl, hm0 (k + 2) (by omega), Option.bind_some, if_neg (by omega), eqPegS_self (k + 2) r (by omega) (by omega), Option.bind_some, if_pos rfl]
  simp only [laws_FnExactMostConvex.j1]
  rw [if_neg (by simp), hm (k + 1) (by omega), Option.bind_some, hh (k + 1) (by omega), Option.bind_some, if_neg (by omega), if_pos rfl, toPegS_eq (k + 1) l (by omega) (by omega), Option.bind_some, (hall (k + 1) (by omega)).2, Option.bind_some, eqPegS_self (k + 1) r (by omega) (by omega), Option.bind_some, if_pos rfl]
  simp only [laws_FnExactMostConvex.j2]
  rw [if_neg (by simp), hh k (by omega), Option.bind_some, if_neg (by omega), if_pos rfl]

end Go.Proofs.Ytnnmpdhijdkpcaa.Pure
