/- The program's BandOf returns what the reference's returns, for all arguments. No condition. -/
import Derived.Test.YtaclbccjcjdbpaaMVx0
import Derived.Test.YtaclbccjcjdbpaaMVx2
import Derived.Test.YtaclbccjcjdbpaaMVx3
import Derived.Test.YtaclbccjcjdbpaaMVx4
import Derived.Test.YtaclbccjcjdbpaaMVx5
import Derived.Test.YtaclbccjcjdbpaaMVx6
import Derived.Test.YtaclbccjcjdbpaaMVx7
import Derived.Test.YtaclbccjcjdbpaaMVx8
import Derived.Test.YtaclbccjcjdbpaaMVx9
import Derived.Test.YtaclbccjcjdbpaaMVx10
import Derived.Test.YtaclbccjcjdbpaaMVx12
import Derived.Test.YtaclbccjcjdbpaaMVx13
import Derived.Test.YtaclbccjcjdbpaaMVx14
import Derived.Test.YtaclbccjcjdbpaaMVx15
import Derived.Test.YtaclbccjcjdbpaaMVx16
import Derived.Test.YtaclbccjcjdbpaaMVx17
import Derived.Test.YtaclbccjcjdbpaaMVx18
import Derived.Test.YtaclbccjcjdbpaaV
namespace Go.Proofs.Ytaclbccjcjdbpaa.Pure
open Go.RowKit Go.Proofs.YtaclbccjcjdbpaaV Go.Proofs.Ytaclbccjcjdbpaa.MV Go.Proofs.YtaclbccjcjdbpaaW.PrintWords Go.Proofs.YtaclbccjcjdbpaaW.PrintLast Go.Proofs.YtaclbccjcjdbpaaW.PrintMore

theorem in_eq (a lo hi : Int) : spec_l1In.f a lo hi = some (decide (lo ≤ a ∧ a ≤ hi)) := by
  unfold spec_l1In.f
  by_cases h : lo ≤ a
  · rw [if_pos h]; simp [h]
  · rw [if_neg h]; simp [h]

theorem within_eq (a lo hi : Int) : impl_within.f a lo hi = some (decide (lo ≤ a ∧ a ≤ hi)) := by
  unfold impl_within.f
  by_cases h : lo ≤ a
  · rw [if_pos h]; simp [h]
  · rw [if_neg h]; simp [h]

theorem w64 {x : Int} (h0 : -9223372036854775808 ≤ x) (h1 : x ≤ 9223372036854775807) : wrap64 x = x := by
  unfold wrap64
  omega

theorem mul_bd {x y : Int} (A B : Nat) (hx : -(A : Int) ≤ x ∧ x ≤ A) (hy : -(B : Int) ≤ y ∧ y ≤ B) : -((A * B : Nat) : Int) ≤ x * y ∧ x * y ≤ ((A * B : Nat) : Int) := by
  have h1 : x.natAbs ≤ A := by omega
  have h2 : y.natAbs ≤ B := by omega
  have h3 := Nat.mul_le_mul h1 h2
  rw [← Int.natAbs_mul] at h3
  omega

/-- A peg's numbers. -/
def pegP (x y : Int) : Prop := (-40 ≤ x ∧ x ≤ 40) ∧ (-40 ≤ y ∧ y ≤ 40)
instance (x y : Int) : Decidable (pegP x y) := by unfold pegP; infer_instance

theorem pgIs_eq (x y : Int) : spec_pgIs.f x y = some (decide (pegP x y)) := by
  unfold spec_pgIs.f pegP
  simp only [in_eq, Option.bind_some]
  by_cases c : -40 ≤ x ∧ x ≤ 40
  · simp [c]
  · simp [c]

theorem implIsPeg_eq (x y : Int) : impl_IsPeg.f x y = some (decide (pegP x y)) := by
  unfold impl_IsPeg.f pegP
  simp only [within_eq, Option.bind_some]
  by_cases c : -40 ≤ x ∧ x ≤ 40
  · simp [c]
  · simp [c]

theorem arePegs_loop (l : List S34) (hl : l.length ≤ 9223372036854775807) (d : Nat) : ∀ (k i : Nat), i + d = l.length → d < k →
    ∃ r, slices_IndexFunc_impl_Peg_impl_Peg.l0 k l (l.length : Int) (i : Int) = some r ∧ decide (r ≥ 0) = (l.drop i).any fun p => !decide (pegP p.f0 p.f1) := by
  induction d with
  | zero =>
    intro k i hi hk
    obtain ⟨k, rfl⟩ : ∃ m, k = m + 1 := ⟨k - 1, by omega⟩
    refine ⟨-1, ?_, ?_⟩
    · simp only [slices_IndexFunc_impl_Peg_impl_Peg.l0]; rw [if_neg (by omega)]
    · rw [List.drop_of_length_le (by omega)]; rfl
  | succ d ih =>
    intro k i hi hk
    obtain ⟨k, rfl⟩ : ∃ m, k = m + 1 := ⟨k - 1, by omega⟩
    have hlt : i < l.length := by omega
    have hd : l.drop i = l[i] :: l.drop (i + 1) := List.drop_eq_getElem_cons hlt
    have hr : rd_T34 l (i : Int) = l[i] := by
      unfold rd_T34
      simp [List.getD_eq_getElem?_getD, List.getElem?_eq_getElem hlt]
    simp only [slices_IndexFunc_impl_Peg_impl_Peg.l0]
    rw [if_pos (by omega), if_pos (by omega), if_pos (by omega), hr]
    unfold impl_arePegs_1.f
    simp only [implIsPeg_eq, Option.bind_some]
    by_cases c : pegP l[i].f0 l[i].f1
    · obtain ⟨r, h1, h2⟩ := ih k (i + 1) (by omega) (by omega)
      refine ⟨r, ?_, ?_⟩
      · rw [if_neg (by simp [c]), w64 (by omega) (by omega)]
        exact h1
      · rw [h2, hd, List.any_cons]; simp [c]
    · refine ⟨(i : Int), by rw [if_pos (by simp [c])], ?_⟩
      rw [hd, List.any_cons]
      simp [c]

theorem arePegs_eq (k : Nat) (l : List S34) (hl : l.length ≤ 9223372036854775807) (hk : l.length < k) : impl_arePegs.f k l = some (l.all fun p => decide (pegP p.f0 p.f1)) := by
  obtain ⟨r, h1, h2⟩ := arePegs_loop l hl l.length k 0 (by omega) hk
  unfold impl_arePegs.f slices_ContainsFunc_impl_Peg_impl_Peg.f slices_IndexFunc_impl_Peg_impl_Peg.f
  rw [show ((0 : Nat) : Int) = 0 from rfl] at h1
  rw [h1]
  simp only [Option.bind_some, h2, List.drop_zero]
  congr 1
  rw [List.all_eq_not_any_not]

/-- Twice the area of three points. -/
def tri (ax ay bx by_ cx cy : Int) : Int := (bx - ax) * (cy - ay) - (by_ - ay) * (cx - ax)

theorem pgTurn_eq (M : Nat) (hM : M ≤ 1000000) {ax ay bx by_ cx cy : Int} (h1 : -(M : Int) ≤ ax ∧ ax ≤ M) (h2 : -(M : Int) ≤ ay ∧ ay ≤ M) (h3 : -(M : Int) ≤ bx ∧ bx ≤ M) (h4 : -(M : Int) ≤ by_ ∧ by_ ≤ M) (h5 : -(M : Int) ≤ cx ∧ cx ≤ M) (h6 : -(M : Int) ≤ cy ∧ cy ≤ M) :
    spec_pgTurn.f ax ay bx by_ cx cy = some (tri ax ay bx by_ cx cy) := by
  unfold spec_pgTurn.f tri
  rw [w64 (x := bx - ax) (by omega) (by omega), w64 (x := cy - ay) (by omega) (by omega), w64 (x := by_ - ay) (by omega) (by omega), w64 (x := cx - ax) (by omega) (by omega)]
  have q1 := mul_bd 2000000 2000000 (x := bx - ax) (y := cy - ay) (by omega) (by omega)
  have q2 := mul_bd 2000000 2000000 (x := by_ - ay) (y := cx - ax) (by omega) (by omega)
  rw [w64 (x := (bx - ax) * (cy - ay)) (by omega) (by omega), w64 (x := (by_ - ay) * (cx - ax)) (by omega) (by omega), w64 (by omega) (by omega)]

theorem turn_eq (M : Nat) (hM : M ≤ 1000000) {ax ay bx by_ cx cy : Int} (h1 : -(M : Int) ≤ ax ∧ ax ≤ M) (h2 : -(M : Int) ≤ ay ∧ ay ≤ M) (h3 : -(M : Int) ≤ bx ∧ bx ≤ M) (h4 : -(M : Int) ≤ by_ ∧ by_ ≤ M) (h5 : -(M : Int) ≤ cx ∧ cx ≤ M) (h6 : -(M : Int) ≤ cy ∧ cy ≤ M) :
    impl_turn.f ax ay bx by_ cx cy = some (tri ax ay bx by_ cx cy) := by
  unfold impl_turn.f impl_Peg_less.f impl_cross.f tri
  simp only [Option.bind_some]
  rw [w64 (x := bx - ax) (by omega) (by omega), w64 (x := cy - ay) (by omega) (by omega), w64 (x := by_ - ay) (by omega) (by omega), w64 (x := cx - ax) (by omega) (by omega)]
  have q1 := mul_bd 2000000 2000000 (x := bx - ax) (y := cy - ay) (by omega) (by omega)
  have q2 := mul_bd 2000000 2000000 (x := by_ - ay) (y := cx - ax) (by omega) (by omega)
  rw [w64 (x := (bx - ax) * (cy - ay)) (by omega) (by omega), w64 (x := (by_ - ay) * (cx - ax)) (by omega) (by omega), w64 (by omega) (by omega)]

def convPeg (p : S43) : S34 := ⟨p.f0, p.f1⟩

theorem toPegS_loop (l : List S43) (hl : l.length ≤ 1048576) (d : Nat) : ∀ (k i : Nat) (x : List S34), i + d = l.length → d < k → x.length = l.length → x.take i = (l.take i).map convPeg →
    laws_toPegS.l0 k l x (i : Int) = some (l.map convPeg) := by
  induction d with
  | zero =>
    intro k i x hi hk hx hp
    obtain ⟨k, rfl⟩ : ∃ m, k = m + 1 := ⟨k - 1, by omega⟩
    simp only [laws_toPegS.l0]
    rw [if_neg (by omega)]
    rw [List.take_of_length_le (by omega), List.take_of_length_le (by omega)] at hp
    rw [hp]
  | succ d ih =>
    intro k i x hi hk hx hp
    obtain ⟨k, rfl⟩ : ∃ m, k = m + 1 := ⟨k - 1, by omega⟩
    have hlt : i < l.length := by omega
    have hr : rd_T43 l (i : Int) = l[i] := by
      unfold rd_T43
      simp [List.getD_eq_getElem?_getD, List.getElem?_eq_getElem hlt]
    simp only [laws_toPegS.l0, laws_toPeg.f]
    rw [if_pos (by omega), if_pos (by omega), hr]
    simp only [Option.bind_some]
    rw [if_pos (by omega), w64 (by omega) (by omega)]
    refine ih k (i + 1) _ (by omega) (by omega) (by simpa using hx) ?_
    rw [Int.toNat_natCast, List.take_set, List.take_add_one, List.take_add_one, hp, List.getElem?_eq_getElem (by omega), List.getElem?_eq_getElem hlt]
    simp only [Option.toList_some, List.map_append, List.map_cons, List.map_nil]
    rw [List.set_append_right _ _ (by simp; omega)]
    simp [Nat.min_eq_left (Nat.le_of_lt hlt), convPeg]
theorem toPegS_eq (k : Nat) (l : List S43) (hl : l.length ≤ 1048576) (hk : l.length < k) : laws_toPegS.f k l = some (l.map convPeg) := by
  unfold laws_toPegS.f
  rw [if_pos (by omega), if_pos (by omega)]
  exact toPegS_loop l hl l.length k 0 _ (by omega) hk (by simp) (by simp)

theorem eqPegS_loop (l : List S34) (hl : l.length ≤ 1048576) (d : Nat) : ∀ (k i : Nat), i + d = l.length → d < k → laws_eqPegS.l0 k l l (i : Int) = some true := by
  induction d with
  | zero =>
    intro k i hi hk
    obtain ⟨k, rfl⟩ : ∃ m, k = m + 1 := ⟨k - 1, by omega⟩
    simp only [laws_eqPegS.l0]
    rw [if_neg (by omega)]
  | succ d ih =>
    intro k i hi hk
    obtain ⟨k, rfl⟩ : ∃ m, k = m + 1 := ⟨k - 1, by omega⟩
    simp only [laws_eqPegS.l0]
    rw [if_pos (by omega), if_pos (by omega), if_pos (by omega)]
    have e : ∀ a b : Int, laws_eqPeg.f a b a b = some true := fun a b => by simp [laws_eqPeg.f]
    rw [e, w64 (by omega) (by omega)]
    exact ih k (i + 1) (by omega) (by omega)
theorem eqPegS_self (k : Nat) (l : List S34) (hl : l.length ≤ 1048576) (hk : l.length < k) : laws_eqPegS.f k l l = some true := by
  unfold laws_eqPegS.f
  rw [if_pos rfl]
  exact eqPegS_loop l hl l.length k 0 (by omega) hk

def samePeg (p q : S34) : Bool := p.f0 == q.f0 && p.f1 == q.f1
def pegB (p : S34) : Bool := decide (pegP p.f0 p.f1)
def distFrom : List S34 → List S34 → Bool
  | _, [] => true
  | pre, p :: r => !(pre.any (samePeg p)) && distFrom (pre ++ [p]) r
/-- Different pegs, no more than 30 and at least one. -/
def goodB (l : List S34) : Bool := decide (1 ≤ l.length ∧ l.length ≤ 30) && (l.all pegB && distFrom [] l)
theorem rdPeg (pre r : List S34) (p : S34) : rd_T34 (pre ++ p :: r) (pre.length : Int) = p := by
  unfold rd_T34
  simp [List.getD_eq_getElem?_getD]

theorem bdGood_in (l : List S34) (n : Int) (p : S34) (pre : List S34) (hpre : pre.length ≤ 1048576) (K0 : Nat) (R : Bool) (i : Int)
    (hc : ∀ k, K0 ≤ k → spec_bdGood.l0 k l l n (wrap64 (i + 1)) = some R) (d : Nat) : ∀ (k j : Nat), j + d = pre.length → K0 + d + 1 ≤ k →
    spec_bdGood.l1 k l l n i pre (pre.length : Int) (j : Int) p.f0 p.f1 = some (!((pre.drop j).any (samePeg p)) && R) := by
  induction d with
  | zero =>
    intro k j hj hk
    obtain ⟨k, rfl⟩ : ∃ m, k = m + 1 := ⟨k - 1, by omega⟩
    simp only [spec_bdGood.l1]
    rw [if_neg (by omega), hc k (by omega), List.drop_of_length_le (by omega)]
    rfl
  | succ d ih =>
    intro k j hj hk
    obtain ⟨k, rfl⟩ : ∃ m, k = m + 1 := ⟨k - 1, by omega⟩
    have hlt : j < pre.length := by omega
    have hr : rd_T34 pre (j : Int) = pre[j] := by
      unfold rd_T34
      simp [List.getD_eq_getElem?_getD, List.getElem?_eq_getElem hlt]
    simp only [spec_bdGood.l1]
    rw [if_pos (by omega), if_pos (by omega), if_pos (by omega), hr, List.drop_eq_getElem_cons hlt, List.any_cons, show (p.f0 == pre[j].f0 && p.f1 == pre[j].f1) = samePeg p pre[j] from rfl]
    by_cases c : samePeg p pre[j] = true
    · rw [if_pos c, c]; rfl
    · rw [if_neg c, w64 (by omega) (by omega), Bool.eq_false_iff.mpr c, Bool.false_or]
      exact ih k (j + 1) (by omega) (by omega)
theorem bdGood_loop (L : Nat) (hL : L ≤ 30) (r : List S34) : ∀ (pre : List S34) (k : Nat), pre.length + r.length = L → r.length * (L + 2) + 1 ≤ k →
    spec_bdGood.l0 k (pre ++ r) (pre ++ r) (L : Int) (pre.length : Int) = some (r.all pegB && distFrom pre r) := by
  induction r with
  | nil =>
    intro pre k h hk
    obtain ⟨k, rfl⟩ : ∃ m, k = m + 1 := ⟨k - 1, by omega⟩
    simp only [spec_bdGood.l0]
    rw [if_neg (by simp at h; omega)]
    rfl
  | cons p r ih =>
    intro pre k h hk
    obtain ⟨k, rfl⟩ : ∃ m, k = m + 1 := ⟨k - 1, by omega⟩
    simp only [List.length_cons] at h hk
    rw [Nat.succ_mul] at hk
    simp only [spec_bdGood.l0]
    rw [if_pos (by omega), if_pos (by omega), if_pos (by simp; omega), rdPeg]
    simp only [pgIs_eq, Option.bind_some]
    by_cases c : pegP p.f0 p.f1
    · rw [if_pos (by simpa using c), if_pos (by simp; omega)]
      rw [Int.toNat_natCast, List.take_left]
      have hcont : ∀ k, r.length * (L + 2) + 1 ≤ k → spec_bdGood.l0 k (pre ++ p :: r) (pre ++ p :: r) (L : Int) (wrap64 ((pre.length : Int) + 1)) = some (r.all pegB && distFrom (pre ++ [p]) r) := by
        intro k hk
        have := ih (pre ++ [p]) k (by simp; omega) hk
        rw [w64 (by omega) (by omega)]
        simpa using this
      have := bdGood_in (pre ++ p :: r) (L : Int) p pre (by omega) _ _ (pre.length : Int) hcont pre.length k 0 (by omega) (by omega)
      rw [show ((0 : Nat) : Int) = 0 from rfl] at this
      rw [this]
      simp only [List.drop_zero, List.all_cons, distFrom, pegB, c, decide_true, Bool.true_and, Option.some.injEq]
      generalize pre.any (samePeg p) = b1
      generalize distFrom (pre ++ [p]) r = b2
      cases b1 <;> cases b2 <;> simp
    · rw [if_neg (by simpa using c)]
      simp [pegB, c]
theorem bdGood_eq (k : Nat) (hk : 1000 ≤ k) (l : List S34) : spec_bdGood.f k l = some (goodB l) := by
  unfold spec_bdGood.f goodB
  rw [in_eq]
  simp only [Option.bind_some]
  by_cases c : 1 ≤ l.length ∧ l.length ≤ 30
  · rw [if_pos (by rw [decide_eq_true_eq]; omega)]
    have hm : l.length * (l.length + 2) ≤ 30 * 32 := Nat.mul_le_mul (by omega) (by omega)
    have := bdGood_loop l.length c.2 l [] k (by simp) (by omega)
    simp only [List.nil_append, List.length_nil] at this
    rw [show ((0 : Nat) : Int) = 0 from rfl] at this
    rw [this]
    simp [c]
  · rw [if_neg (by rw [decide_eq_true_eq]; omega)]
    simp [c]

theorem contains_loop (x y : Int) (l : List S34) (hl : l.length ≤ 1048576) (d : Nat) : ∀ (k i : Nat), i + d = l.length → d < k →
    ∃ r, slices_Index_impl_Peg_impl_Peg.l0 k l (l.length : Int) (i : Int) x y = some r ∧ decide (r ≥ 0) = (l.drop i).any fun p => x == p.f0 && y == p.f1 := by
  induction d with
  | zero =>
    intro k i hi hk
    obtain ⟨k, rfl⟩ : ∃ m, k = m + 1 := ⟨k - 1, by omega⟩
    refine ⟨-1, ?_, ?_⟩
    · simp only [slices_Index_impl_Peg_impl_Peg.l0]; rw [if_neg (by omega)]
    · rw [List.drop_of_length_le (by omega)]; rfl
  | succ d ih =>
    intro k i hi hk
    obtain ⟨k, rfl⟩ : ∃ m, k = m + 1 := ⟨k - 1, by omega⟩
    have hlt : i < l.length := by omega
    have hr : rd_T34 l (i : Int) = l[i] := by
      unfold rd_T34
      simp [List.getD_eq_getElem?_getD, List.getElem?_eq_getElem hlt]
    simp only [slices_Index_impl_Peg_impl_Peg.l0]
    rw [if_pos (by omega), if_pos (by omega), if_pos (by omega), hr]
    rw [List.drop_eq_getElem_cons hlt, List.any_cons]
    by_cases c : (x == l[i].f0 && y == l[i].f1) = true
    · exact ⟨(i : Int), by rw [if_pos c], by simp [c]⟩
    · obtain ⟨r, h1, h2⟩ := ih k (i + 1) (by omega) (by omega)
      refine ⟨r, ?_, ?_⟩
      · rw [if_neg c, w64 (by omega) (by omega)]
        exact h1
      · rw [h2, Bool.eq_false_iff.mpr c, Bool.false_or]
theorem contains_eq (k : Nat) (l : List S34) (x y : Int) (hl : l.length ≤ 1048576) (hk : l.length < k) : slices_Contains_impl_Peg_impl_Peg.f k l x y = some (l.any fun p => x == p.f0 && y == p.f1) := by
  obtain ⟨r, h1, h2⟩ := contains_loop x y l hl l.length k 0 (by omega) hk
  unfold slices_Contains_impl_Peg_impl_Peg.f slices_Index_impl_Peg_impl_Peg.f
  rw [show ((0 : Nat) : Int) = 0 from rfl] at h1
  rw [h1]
  simp only [Option.bind_some, h2, List.drop_zero]

theorem areDiff_loop (L : Nat) (hL : L ≤ 30) (r : List S34) : ∀ (pre : List S34) (k : Nat), pre.length + r.length = L → r.length + 31 ≤ k →
    impl_AreDifferent.l0 k (pre ++ r) (pre ++ r) (L : Int) (pre.length : Int) = some (distFrom pre r) := by
  induction r with
  | nil =>
    intro pre k h hk
    obtain ⟨k, rfl⟩ : ∃ m, k = m + 1 := ⟨k - 1, by omega⟩
    simp only [impl_AreDifferent.l0]
    rw [if_neg (by simp at h; omega)]
    rfl
  | cons p r ih =>
    intro pre k h hk
    obtain ⟨k, rfl⟩ : ∃ m, k = m + 1 := ⟨k - 1, by omega⟩
    simp only [List.length_cons] at h hk
    simp only [impl_AreDifferent.l0]
    rw [if_pos (by omega), if_pos (by omega), if_pos (by simp; omega), if_pos (by simp; omega), rdPeg, Int.toNat_natCast, List.take_left, contains_eq k pre _ _ (by omega) (by omega)]
    simp only [Option.bind_some]
    rw [show (pre.any fun q => p.f0 == q.f0 && p.f1 == q.f1) = pre.any (samePeg p) from rfl]
    have := ih (pre ++ [p]) k (by simp; omega) (by omega)
    rw [w64 (by omega) (by omega)]
    simp only [distFrom]
    by_cases c : pre.any (samePeg p) = true
    · rw [if_pos c, c]; rfl
    · rw [if_neg c, Bool.eq_false_iff.mpr c]
      simpa using this
theorem areDiff_eq (k : Nat) (hk : 100 ≤ k) (l : List S34) : impl_AreDifferent.f k l = some (goodB l) := by
  obtain ⟨k, rfl⟩ : ∃ m, k = m + 1 := ⟨k - 1, by omega⟩
  unfold impl_AreDifferent.f goodB
  rw [within_eq]
  simp only [Option.bind_some, impl_AreDifferent.j0]
  by_cases c : 1 ≤ l.length ∧ l.length ≤ 30
  · rw [if_pos (by rw [decide_eq_true_eq]; omega), arePegs_eq (k + 1) l (by omega) (by omega)]
    have := areDiff_loop l.length c.2 l [] k (by simp) (by omega)
    simp only [List.nil_append, List.length_nil] at this
    rw [show ((0 : Nat) : Int) = 0 from rfl] at this
    simp only [Option.bind_some, this]
    have hp : (l.all fun p => decide (pegP p.f0 p.f1)) = l.all pegB := rfl
    rw [hp]
    by_cases c2 : l.all pegB = true
    · simp [c, c2]
    · have c3 := Bool.eq_false_iff.mpr c2
      rw [c3]
      simp
  · rw [if_neg (by rw [decide_eq_true_eq]; omega)]
    simp [c]

theorem szPegS_eq (l : List S43) (hl : l.length ≤ maxLen) : laws_szPegS.f l 1048576 = some (if 1048576 < l.length then -1 else 1048576 - (l.length : Int)) := by
  unfold maxLen at hl
  unfold laws_szPegS.f
  rw [w64 (by omega) (by omega)]
  by_cases c : 1048576 < l.length
  · rw [if_pos (by omega), if_pos c]
  · rw [if_neg (by omega), if_neg c]

/-- What marking makes of n pegs, from number a on. -/
def markedPegs (a n : Nat) : List S34 := (List.range' 0 n).map fun (i : Nat) => (⟨((a + 2 * i : Nat) : Int), ((a + 2 * i + 1 : Nat) : Int)⟩ : S34)
theorem markedPegs_length (a n : Nat) : (markedPegs a n).length = n := by simp [markedPegs]
theorem rdPegNat (l : List S34) (i : Nat) (h : i < l.length) : rd_T34 l (i : Int) = l[i] := by
  unfold rd_T34
  simp [List.getD_eq_getElem?_getD, List.getElem?_eq_getElem h]
theorem markPegS_loop (a : Nat) (ha : a ≤ 1000) (n : Nat) (hn : n ≤ 1048576) (d : Nat) : ∀ (k i : Nat) (x : List S34), i + d = n → d < k → x.length = n → x.take i = (markedPegs a n).take i →
    laws_markPegS.l0 k x ((a + 2 * i : Nat) : Int) (i : Int) = some (((a + 2 * n : Nat) : Int), markedPegs a n) := by
  induction d with
  | zero =>
    intro k i x hi hk hx hp
    obtain ⟨k, rfl⟩ : ∃ m, k = m + 1 := ⟨k - 1, by omega⟩
    simp only [laws_markPegS.l0]
    rw [if_neg (by omega)]
    have hl := markedPegs_length a n
    rw [List.take_of_length_le (by omega), List.take_of_length_le (by omega)] at hp
    rw [hp, show i = n by omega]
  | succ d ih =>
    intro k i x hi hk hx hp
    obtain ⟨k, rfl⟩ : ∃ m, k = m + 1 := ⟨k - 1, by omega⟩
    have hlt : i < x.length := by omega
    have hl := markedPegs_length a n
    simp only [laws_markPegS.l0]
    rw [if_pos (by omega), if_pos (by omega), Option.bind_some, Int.toNat_natCast, w64 (x := ((a + 2 * i : Nat) : Int) + 1) (by omega) (by omega), w64 (by omega) (by omega), w64 (by omega) (by omega),
      show ((a + 2 * i : Nat) : Int) + 1 + 1 = ((a + 2 * (i + 1) : Nat) : Int) by omega, show (i : Int) + 1 = ((i + 1 : Nat) : Int) by omega]
    refine ih k (i + 1) _ (by omega) (by omega) (by simpa using hx) ?_
    have hr : (rd_T34 (x.set i (⟨((a + 2 * i : Nat) : Int), (rd_T34 x (i : Int)).f1⟩ : S34)) (i : Int)).f0 = ((a + 2 * i : Nat) : Int) := by
      rw [rdPegNat _ i (by simpa using hlt), List.getElem_set_self]
    rw [hr]
    simp only [List.set_set]
    have hm : (markedPegs a n)[i]? = some ⟨((a + 2 * i : Nat) : Int), ((a + 2 * i + 1 : Nat) : Int)⟩ := by
      unfold markedPegs
      rw [List.getElem?_map, List.getElem?_range' (by omega)]
      simp
    rw [List.take_set, List.take_add_one, List.take_add_one, hp, hm, List.getElem?_eq_getElem hlt]
    simp only [Option.toList_some]
    rw [List.set_append_right _ _ (by simp; omega)]
    simp [hl, Nat.min_eq_left (show i ≤ n by omega)]
theorem markPegS_eq (k : Nat) (a : Nat) (ha : a ≤ 1000) (l : List S34) (hl : l.length ≤ 1048576) (hk : l.length < k) : laws_markPegS.f k l (a : Int) = some (((a + 2 * l.length : Nat) : Int), markedPegs a l.length) :=
  markPegS_loop a ha l.length hl l.length k 0 l (by omega) hk rfl (by simp)
theorem heldPegS_loop (a : Nat) (ha : a ≤ 1000) (n : Nat) (hn : n ≤ 1048576) (d : Nat) : ∀ (k i : Nat), i + d = n → d < k →
    laws_heldPegS.l0 k (markedPegs a n) ((a + 2 * i : Nat) : Int) (i : Int) = some ((a + 2 * n : Nat) : Int) := by
  induction d with
  | zero =>
    intro k i hi hk
    obtain ⟨k, rfl⟩ : ∃ m, k = m + 1 := ⟨k - 1, by omega⟩
    have hl := markedPegs_length a n
    simp only [laws_heldPegS.l0]
    rw [if_neg (by omega), show i = n by omega]
  | succ d ih =>
    intro k i hi hk
    obtain ⟨k, rfl⟩ : ∃ m, k = m + 1 := ⟨k - 1, by omega⟩
    have hl := markedPegs_length a n
    have hm : (markedPegs a n)[i]'(by omega) = ⟨((a + 2 * i : Nat) : Int), ((a + 2 * i + 1 : Nat) : Int)⟩ := by
      unfold markedPegs
      simp
    simp only [laws_heldPegS.l0]
    rw [if_pos (by omega), if_pos (by omega), rdPegNat _ i (by omega), hm, w64 (x := ((a + 2 * i : Nat) : Int) + 1) (by omega) (by omega), w64 (by omega) (by omega), w64 (by omega) (by omega), if_pos rfl, if_pos (by simp),
      show ((a + 2 * i : Nat) : Int) + 1 + 1 = ((a + 2 * (i + 1) : Nat) : Int) by omega, show (i : Int) + 1 = ((i + 1 : Nat) : Int) by omega]
    exact ih k (i + 1) (by omega) (by omega)
theorem heldPegS_eq (k : Nat) (a : Nat) (ha : a ≤ 1000) (n : Nat) (hn : n ≤ 1048576) (hk : n < k) : laws_heldPegS.f k (markedPegs a n) (a : Int) = some ((a + 2 * n : Nat) : Int) :=
  heldPegS_loop a ha n hn n k 0 (by omega) hk

theorem pgLess_eq (x y : S34) : spec_pgLess.f x.f0 x.f1 y.f0 y.f1 = some (ltP x y) := by
  unfold spec_pgLess.f ltP
  by_cases c1 : x.f0 < y.f0
  · simp [c1]
  · by_cases c2 : x.f0 = y.f0
    · simp [c2]
    · simp [c1, c2]

theorem insP_length (x : S34) (l : List S34) : (insP x l).length = l.length + 1 := (insP_perm x l).length_eq
theorem bdSorted_in (l : List S34) (n i : Int) (p : S34) (R : List S34) (K0 : Nat) (suf : List S34) : ∀ (pre : List S34) (k : Nat), K0 + suf.length + 1 ≤ k → pre.length + suf.length ≤ 100000 →
    (∀ k, K0 ≤ k → spec_bdSorted.l0 k (pre ++ insP p suf) l n (wrap64 (i + 1)) = some R) →
    spec_bdSorted.l1 k (pre ++ suf) (pre.length : Int) l n i p.f0 p.f1 = some R := by
  induction suf with
  | nil =>
    intro pre k hk hl hc
    simp only [List.length_nil] at hk hl
    obtain ⟨k, rfl⟩ : ∃ m, k = m + 1 := ⟨k - 1, by omega⟩
    simp only [spec_bdSorted.l1]
    rw [if_neg (by simp)]
    simp only [Option.bind_some, List.append_nil, List.nil_append, Int.toNat_natCast]
    rw [if_pos (by omega), if_pos (by omega), List.take_of_length_le (Nat.le_refl _), if_pos (by simp; omega), if_pos (by simp; omega), List.drop_of_length_le (Nat.le_refl _), if_pos (by simp; omega)]
    have := hc k (by omega)
    simpa [insP] using this
  | cons q r ih =>
    intro pre k hk hl hc
    simp only [List.length_cons] at hk hl
    obtain ⟨k, rfl⟩ : ∃ m, k = m + 1 := ⟨k - 1, by omega⟩
    simp only [spec_bdSorted.l1]
    rw [if_pos (by simp; omega), if_pos (by omega), rdPeg, pgLess_eq, Option.bind_some]
    by_cases c : ltP q p = true
    · rw [if_pos c, w64 (by omega) (by omega)]
      have h1 := ih (pre ++ [q]) k (by omega) (by simp; omega) (fun k hk => by
        have := hc k hk
        unfold insP at this
        rw [if_pos c] at this
        simpa using this)
      simpa using h1
    · rw [if_neg c]
      simp only [Option.bind_some, List.nil_append, Int.toNat_natCast]
      rw [if_pos (by simp; omega), List.take_left, if_pos (by simp; omega), if_pos (by simp; omega), List.drop_left, if_pos (by simp; omega)]
      have := hc k (by omega)
      unfold insP at this
      rw [if_neg c] at this
      simpa using this
/-- The reference's order: each one put in. -/
def foldP (acc : List S34) : List S34 → List S34
  | [] => acc
  | p :: l => foldP (insP p acc) l
theorem bdSorted_loop (L : Nat) (hL : L ≤ 10000) (r : List S34) : ∀ (pre acc : List S34) (k : Nat), pre.length + r.length = L → acc.length = pre.length → r.length * (L + 2) + 1 ≤ k →
    spec_bdSorted.l0 k acc (pre ++ r) (L : Int) (pre.length : Int) = some (foldP acc r) := by
  induction r with
  | nil =>
    intro pre acc k h ha hk
    obtain ⟨k, rfl⟩ : ∃ m, k = m + 1 := ⟨k - 1, by omega⟩
    simp only [spec_bdSorted.l0]
    rw [if_neg (by simp at h; omega)]
    rfl
  | cons p r ih =>
    intro pre acc k h ha hk
    obtain ⟨k, rfl⟩ : ∃ m, k = m + 1 := ⟨k - 1, by omega⟩
    simp only [List.length_cons] at h hk
    rw [Nat.succ_mul] at hk
    simp only [spec_bdSorted.l0]
    rw [if_pos (by omega), if_pos (by omega), if_pos (by simp; omega), rdPeg]
    have h1 := bdSorted_in (pre ++ p :: r) (L : Int) (pre.length : Int) p (foldP (insP p acc) r) (r.length * (L + 2) + 1) acc [] k (by omega) (by simp; omega) (fun k hk => by
      have := ih (pre ++ [p]) (insP p acc) k (by simp; omega) (by rw [insP_length]; simp; omega) hk
      rw [w64 (by omega) (by omega)]
      simpa using this)
    simpa [foldP] using h1
theorem foldP_perm (l : List S34) : ∀ acc, (foldP acc l).Perm (acc ++ l) := by
  induction l with
  | nil => intro acc; simp [foldP]
  | cons p l ih =>
    intro acc
    unfold foldP
    refine (ih (insP p acc)).trans ?_
    refine ((insP_perm p acc).append_right l).trans ?_
    exact (List.perm_middle (a := p) (l₁ := acc) (l₂ := l)).symm
theorem foldP_sorted (l : List S34) : ∀ acc : List S34, (acc.Pairwise fun a b => ltP b a = false) → (foldP acc l).Pairwise fun a b => ltP b a = false := by
  induction l with
  | nil => intro acc h; exact h
  | cons p l ih => intro acc h; exact ih _ (insP_sorted p acc h)
theorem foldP_eq (l : List S34) : foldP [] l = sortP l :=
  sorted_one ((foldP_perm l []).trans (by simpa using (sortP_perm l).symm)) (foldP_sorted l [] List.Pairwise.nil) (sortP_sorted l)
theorem bdSorted_eq (k : Nat) (l : List S34) (hl : l.length ≤ 100) (hk : 20000 ≤ k) : spec_bdSorted.f k l = some (sortP l) := by
  unfold spec_bdSorted.f
  have hm : l.length * (l.length + 2) ≤ 100 * 102 := Nat.mul_le_mul (by omega) (by omega)
  have := bdSorted_loop l.length (by omega) l [] [] k (by simp) rfl (by omega)
  rw [foldP_eq] at this
  simpa using this
theorem sortP_length (l : List S34) : (sortP l).length = l.length := (sortP_perm l).length_eq

theorem sorted_eq (l : List S34) (hl : l.length ≤ 100000) : impl_sorted.f l = some (sortP l) := by
  unfold impl_sorted.f slices_Clone_impl_Peg_impl_Peg.f slices_SortFunc_impl_Peg_impl_Peg.f
  simp only [Option.bind_some, List.nil_append, List.length_nil]
  rw [if_pos (by omega), Option.bind_some, if_pos (by omega), Option.bind_some]

/-- Which way three pegs turn. -/
def turnP (a b c : S34) : Int := tri a.f0 a.f1 b.f0 b.f1 c.f0 c.f1
theorem pgTurnP_eq {a b c : S34} (ha : pegP a.f0 a.f1) (hb : pegP b.f0 b.f1) (hc : pegP c.f0 c.f1) : spec_pgTurn.f a.f0 a.f1 b.f0 b.f1 c.f0 c.f1 = some (turnP a b c) :=
  pgTurn_eq 40 (by omega) ha.1 ha.2 hb.1 hb.2 hc.1 hc.2
theorem turnP_eq {a b c : S34} (ha : pegP a.f0 a.f1) (hb : pegP b.f0 b.f1) (hc : pegP c.f0 c.f1) : impl_turn.f a.f0 a.f1 b.f0 b.f1 c.f0 c.f1 = some (turnP a b c) :=
  turn_eq 40 (by omega) ha.1 ha.2 hb.1 hb.2 hc.1 hc.2

/-- The stack, its top first, without those that a new peg throws out. -/
def popR (p : S34) : List S34 → List S34
  | b :: a :: r => if turnP a b p ≤ 0 then popR p (a :: r) else b :: a :: r
  | l => l
def chainR : List S34 → List S34 → List S34
  | st, [] => st
  | st, p :: r => chainR (p :: popR p st) r
def allP (l : List S34) : Prop := ∀ q ∈ l, pegP q.f0 q.f1
theorem popR_sub (p : S34) : ∀ (st : List S34), ∀ q ∈ popR p st, q ∈ st
  | b :: a :: r => by
    intro q hq
    unfold popR at hq
    split at hq
    · exact List.mem_cons_of_mem _ (popR_sub p (a :: r) q hq)
    · exact hq
  | [] => fun q hq => by simp [popR] at hq
  | [a] => fun q hq => by simpa [popR] using hq
theorem popR_length (p : S34) : ∀ (st : List S34), (popR p st).length ≤ st.length
  | b :: a :: r => by
    unfold popR
    split
    · have := popR_length p (a :: r)
      simp only [List.length_cons] at this ⊢
      omega
    · exact Nat.le_refl _
  | [] => by simp [popR]
  | [a] => by simp [popR]
theorem rev2 (b a : S34) (r : List S34) : (b :: a :: r).reverse = r.reverse ++ a :: [b] := by simp
theorem rev2' (b a : S34) (r : List S34) : (b :: a :: r).reverse = (r.reverse ++ [a]) ++ b :: [] := by simp
theorem chain_in (l : List S34) (n i : Int) (p : S34) (hp : pegP p.f0 p.f1) (R : List S34) (K0 : Nat) : ∀ (st : List S34) (k : Nat), allP st → K0 + st.length + 1 ≤ k → st.length ≤ 100000 →
    (∀ k, K0 ≤ k → impl_chain.l0 k (p :: popR p st).reverse l n (wrap64 (i + 1)) = some R) →
    impl_chain.l1 k st.reverse l n i p.f0 p.f1 = some R
  | b :: a :: r, k, hall, hk, hl, hc => by
    simp only [List.length_cons] at hk hl
    obtain ⟨k, rfl⟩ : ∃ m, k = m + 1 := ⟨k - 1, by omega⟩
    have hlen : (b :: a :: r).reverse.length = r.length + 2 := by simp
    have r1 : rd_T34 (b :: a :: r).reverse ((r.length : Int)) = a := by rw [rev2, show (r.length : Int) = (r.reverse.length : Int) by simp]; exact rdPeg _ _ _
    have r2 : rd_T34 (b :: a :: r).reverse ((r.length : Int) + 1) = b := by rw [rev2', show (r.length : Int) + 1 = ((r.reverse ++ [a]).length : Int) by simp]; exact rdPeg _ _ _
    simp only [impl_chain.l1]
    rw [hlen, w64 (x := ((r.length + 2 : Nat) : Int) - 2) (by omega) (by omega), w64 (x := ((r.length + 2 : Nat) : Int) - 1) (by omega) (by omega), show ((r.length + 2 : Nat) : Int) - 2 = (r.length : Int) by omega, show ((r.length + 2 : Nat) : Int) - 1 = (r.length : Int) + 1 by omega, r1, r2]
    rw [if_pos (by omega), if_pos (by omega), if_pos (by omega), if_pos (by omega), if_pos (by omega), turnP_eq (hall a (by simp)) (hall b (by simp)) hp, Option.bind_some]
    by_cases c : turnP a b p ≤ 0
    · rw [if_pos c, if_pos (by omega), show ((r.length : Int) + 1).toNat = r.length + 1 by omega]
      have h1 : (b :: a :: r).reverse.take (r.length + 1) = (a :: r).reverse := by rw [rev2', List.take_left' (by simp)]; simp
      rw [h1]
      refine chain_in l n i p hp R K0 (a :: r) k (fun q hq => hall q (List.mem_cons_of_mem _ hq)) (by simp only [List.length_cons]; omega) (by simp only [List.length_cons]; omega) (fun k hk => ?_)
      have := hc k hk
      unfold popR at this
      rw [if_pos c] at this
      exact this
    · rw [if_neg c, if_pos (by omega)]
      have := hc k (by omega)
      unfold popR at this
      rw [if_neg c, List.reverse_cons] at this
      exact this
  | [], k, hall, hk, hl, hc => by
    obtain ⟨k, rfl⟩ : ∃ m, k = m + 1 := ⟨k - 1, by omega⟩
    simp only [impl_chain.l1]
    rw [if_neg (by simp), if_pos (by simp)]
    have := hc k (by simp at hk; omega)
    simpa [popR] using this
  | [a], k, hall, hk, hl, hc => by
    obtain ⟨k, rfl⟩ : ∃ m, k = m + 1 := ⟨k - 1, by omega⟩
    simp only [impl_chain.l1]
    rw [if_neg (by simp), if_pos (by simp)]
    have := hc k (by simp at hk; omega)
    simpa [popR] using this
theorem chain_loop (L : Nat) (hL : L ≤ 1000) (r : List S34) : ∀ (pre st : List S34) (k : Nat), allP r → allP st → pre.length + r.length = L → st.length ≤ pre.length → r.length * (L + 2) + 1 ≤ k →
    impl_chain.l0 k st.reverse (pre ++ r) (L : Int) (pre.length : Int) = some (chainR st r).reverse := by
  induction r with
  | nil =>
    intro pre st k _ _ h ha hk
    obtain ⟨k, rfl⟩ : ∃ m, k = m + 1 := ⟨k - 1, by omega⟩
    simp only [impl_chain.l0]
    rw [if_neg (by simp at h; omega)]
    rfl
  | cons p r ih =>
    intro pre st k hr hs h ha hk
    obtain ⟨k, rfl⟩ : ∃ m, k = m + 1 := ⟨k - 1, by omega⟩
    simp only [List.length_cons] at h hk
    rw [Nat.succ_mul] at hk
    simp only [impl_chain.l0]
    rw [if_pos (by omega), if_pos (by omega), if_pos (by simp; omega), rdPeg]
    have hq := popR_length p st
    refine chain_in (pre ++ p :: r) (L : Int) (pre.length : Int) p (hr p (by simp)) _ (r.length * (L + 2) + 1) st k hs (by omega) (by omega) (fun k hk => ?_)
    have := ih (pre ++ [p]) (p :: popR p st) k (fun q hq => hr q (List.mem_cons_of_mem _ hq)) (fun q hq => by
      rcases List.mem_cons.1 hq with rfl | hq
      · exact hr _ (by simp)
      · exact hs q (popR_sub p st q hq)) (by simp; omega) (by simp; omega) hk
    rw [w64 (by omega) (by omega)]
    simpa [chainR] using this
theorem chain_eq (k : Nat) (l : List S34) (hl : l.length ≤ 100) (hp : allP l) (hk : 20000 ≤ k) : impl_chain.f k l = some (chainR [] l).reverse := by
  unfold impl_chain.f
  have hm : l.length * (l.length + 2) ≤ 100 * 102 := Nat.mul_le_mul (by omega) (by omega)
  have := chain_loop l.length (by omega) l [] [] k hp (by intro q hq; simp at hq) (by simp) (by simp) (by omega)
  simpa using this
theorem chainR_length (l : List S34) : ∀ st, (chainR st l).length ≤ st.length + l.length := by
  induction l with
  | nil => intro st; simp [chainR]
  | cons p l ih =>
    intro st
    unfold chainR
    have h1 := ih (p :: popR p st)
    have h2 := popR_length p st
    simp only [List.length_cons] at h1 ⊢
    omega
theorem chainR_pos (l : List S34) : ∀ st, 0 < st.length → 0 < (chainR st l).length := by
  induction l with
  | nil => intro st h; exact h
  | cons p l ih => intro st h; exact ih _ (by simp)

/-- The band of pegs in order, of at least two. -/
def hullP (s : List S34) : List S34 := (chainR [] s).reverse.dropLast ++ (chainR [] s.reverse).reverse.dropLast
theorem concat_eq (k : Nat) (a b : List S34) (ha : a.length ≤ 100000) (hb : b.length ≤ 100000) (hk : 10 ≤ k) : slices_Concat_impl_Peg_impl_Peg.f k [a, b] = some (a ++ b) := by
  obtain ⟨k, rfl⟩ : ∃ m, k = m + 3 := ⟨k - 3, by omega⟩
  have hg : ∀ n : Int, 0 ≤ n → n ≤ 1000000 → slices_Grow_impl_Peg_impl_Peg.f n = some [] := by
    intro n h0 h1
    unfold slices_Grow_impl_Peg_impl_Peg.f
    rw [w64 (by omega) (by omega), if_neg (by omega)]
    by_cases c : n > 0
    · rw [if_pos c, if_pos h0, if_pos (by simp; omega), Option.bind_some, if_pos (by omega)]
      rfl
    · rw [if_neg c]
  have r0 : rd_L3 [a, b] 0 = a := rfl
  have r1 : rd_L3 [a, b] 1 = b := rfl
  unfold slices_Concat_impl_Peg_impl_Peg.f
  simp only [slices_Concat_impl_Peg_impl_Peg.l0, List.length_cons, List.length_nil, Nat.zero_add, Nat.reduceAdd]
  rw [r0, w64 (x := 0 + (a.length : Int)) (by omega) (by omega), w64 (x := (0 : Int) + 1) (by omega) (by omega)]
  simp only [Int.zero_add]
  rw [r1, w64 (x := (a.length : Int) + (b.length : Int)) (by omega) (by omega), w64 (x := (1 : Int) + 1) (by omega) (by omega)]
  rw [if_pos (by decide), if_pos (by decide), if_pos (by decide), if_neg (by omega), if_pos (by decide), if_pos (by decide), if_pos (by decide), if_neg (by omega), if_neg (by decide), hg _ (by omega) (by omega), Option.bind_some]
  obtain ⟨k, rfl⟩ : ∃ m, k = m + 3 := ⟨k - 3, by omega⟩
  simp only [slices_Concat_impl_Peg_impl_Peg.l1, List.length_cons, List.length_nil, Nat.zero_add, Nat.reduceAdd]
  rw [r0, w64 (x := (0 : Int) + 1) (by omega) (by omega)]
  simp only [List.nil_append, Int.zero_add]
  rw [r1, w64 (x := (1 : Int) + 1) (by omega) (by omega)]
  rw [if_pos (by decide), if_pos (by decide), if_pos (by decide), if_pos (by omega), if_pos (by decide), if_pos (by decide), if_pos (by decide), if_pos (by omega), if_neg (by decide)]
theorem reverse_eq (_k : Nat) (l : List S34) (hl : l.length ≤ 100000) : slices_Reverse_impl_Peg_impl_Peg.f l = some l.reverse := by
  unfold slices_Reverse_impl_Peg_impl_Peg.f
  rw [if_pos (by omega)]
theorem band_eq (k : Nat) (l : List S34) (h1 : 1 ≤ l.length) (hl : l.length ≤ 100) (hp : allP l) (hk : 20000 ≤ k) :
    impl_band.f k l = some (if l.length = 1 then sortP l else hullP (sortP l)) := by
  have hs : allP (sortP l) := fun q hq => hp q ((sortP_perm l).subset hq)
  have hn := sortP_length l
  unfold impl_band.f
  rw [sorted_eq l (by omega), Option.bind_some, hn]
  by_cases c : l.length = 1
  · rw [if_pos (by omega), if_pos c]
  · rw [if_neg (by omega), if_neg c, chain_eq k (sortP l) (by omega) hs hk, Option.bind_some, reverse_eq k _ (by omega), Option.bind_some, chain_eq k (sortP l).reverse (by simp; omega) (fun q hq => hs q (by simpa using hq)) hk, Option.bind_some]
    have e1 := chainR_length (sortP l) []
    have e2 := chainR_length (sortP l).reverse []
    have e3 : 0 < (chainR [] (sortP l)).length := by
      cases hc : sortP l with
      | nil => rw [hc] at hn; simp at hn; omega
      | cons a r => exact chainR_pos r _ (by simp)
    have e4 : 0 < (chainR [] (sortP l).reverse).length := by
      cases hc : (sortP l).reverse with
      | nil =>
        have h9 := congrArg List.length hc
        rw [List.length_reverse] at h9
        simp only [List.length_nil] at h9
        omega
      | cons a r => exact chainR_pos r _ (by simp)
    simp only [List.length_nil, List.length_reverse, Nat.zero_add] at e1 e2
    rw [List.length_reverse, List.length_reverse, w64 (x := ((chainR [] (sortP l)).length : Int) - 1) (by omega) (by omega), w64 (x := ((chainR [] (sortP l).reverse).length : Int) - 1) (by omega) (by omega)]
    rw [if_pos (by omega), if_pos (by omega), if_pos (by omega), if_pos (by omega)]
    rw [show (((chainR [] (sortP l)).length : Int) - 1).toNat = (chainR [] (sortP l)).length - 1 by omega, show (((chainR [] (sortP l).reverse).length : Int) - 1).toNat = (chainR [] (sortP l).reverse).length - 1 by omega]
    rw [concat_eq k _ _ (by simp; omega) (by simp; omega) (by omega), Option.bind_some]
    unfold hullP
    rw [List.dropLast_eq_take, List.dropLast_eq_take, List.length_reverse, List.length_reverse]

theorem bdBand_in (s : List S34) (sd n i : Int) (base : List S34) (hb : base.length ≤ 100000) (p : S34) (hp : pegP p.f0 p.f1) (R : List S34) (K0 : Nat) : ∀ (st : List S34) (k : Nat), allP st → K0 + st.length + 1 ≤ k → st.length ≤ 100000 →
    (∀ k, K0 ≤ k → spec_bdBand.l1 k s (base ++ (p :: popR p st).reverse) sd (base.length : Int) n (wrap64 (i + 1)) = some R) →
    spec_bdBand.l2 k s (base ++ st.reverse) sd (base.length : Int) n i p.f0 p.f1 = some R
  | b :: a :: r, k, hall, hk, hl, hc => by
    simp only [List.length_cons] at hk hl
    obtain ⟨k, rfl⟩ : ∃ m, k = m + 1 := ⟨k - 1, by omega⟩
    have hlen : (base ++ (b :: a :: r).reverse).length = base.length + r.length + 2 := by simp; omega
    have r1 : rd_T34 (base ++ (b :: a :: r).reverse) (((base.length + r.length : Nat) : Int)) = a := by rw [rev2, ← List.append_assoc, show ((base.length + r.length : Nat) : Int) = ((base ++ r.reverse).length : Int) by simp]; exact rdPeg _ _ _
    have r2 : rd_T34 (base ++ (b :: a :: r).reverse) (((base.length + r.length : Nat) : Int) + 1) = b := by rw [rev2', ← List.append_assoc, show ((base.length + r.length : Nat) : Int) + 1 = ((base ++ (r.reverse ++ [a])).length : Int) by simp; omega]; exact rdPeg _ _ _
    simp only [spec_bdBand.l2]
    rw [hlen, w64 (x := ((base.length + r.length + 2 : Nat) : Int) - 2) (by omega) (by omega), w64 (x := ((base.length + r.length + 2 : Nat) : Int) - 1) (by omega) (by omega), w64 (x := (base.length : Int) + 1) (by omega) (by omega), show ((base.length + r.length + 2 : Nat) : Int) - 2 = ((base.length + r.length : Nat) : Int) by omega, show ((base.length + r.length + 2 : Nat) : Int) - 1 = ((base.length + r.length : Nat) : Int) + 1 by omega, r1, r2]
    rw [if_pos (by omega), if_pos (by omega), if_pos (by omega), if_pos (by omega), if_pos (by omega), pgTurnP_eq (hall a (by simp)) (hall b (by simp)) hp, Option.bind_some]
    by_cases c : turnP a b p ≤ 0
    · rw [if_pos c, if_pos (by omega), show (((base.length + r.length : Nat) : Int) + 1).toNat = base.length + (r.length + 1) by omega]
      have h1 : (base ++ (b :: a :: r).reverse).take (base.length + (r.length + 1)) = base ++ (a :: r).reverse := by rw [rev2', ← List.append_assoc, List.take_left' (by simp)]; simp
      rw [h1]
      refine bdBand_in s sd n i base hb p hp R K0 (a :: r) k (fun q hq => hall q (List.mem_cons_of_mem _ hq)) (by simp only [List.length_cons]; omega) (by simp only [List.length_cons]; omega) (fun k hk => ?_)
      have := hc k hk
      unfold popR at this
      rw [if_pos c] at this
      exact this
    · rw [if_neg c, if_pos (by omega)]
      have := hc k (by omega)
      unfold popR at this
      rw [if_neg c, List.reverse_cons, ← List.append_assoc] at this
      exact this
  | [], k, hall, hk, hl, hc => by
    obtain ⟨k, rfl⟩ : ∃ m, k = m + 1 := ⟨k - 1, by omega⟩
    simp only [spec_bdBand.l2]
    rw [w64 (x := (base.length : Int) + 1) (by omega) (by omega), if_neg (by simp <;> omega), if_pos (by simp; omega)]
    have := hc k (by simp at hk; omega)
    simpa [popR] using this
  | [a], k, hall, hk, hl, hc => by
    obtain ⟨k, rfl⟩ : ∃ m, k = m + 1 := ⟨k - 1, by omega⟩
    simp only [spec_bdBand.l2]
    rw [w64 (x := (base.length : Int) + 1) (by omega) (by omega), if_neg (by simp <;> omega), if_pos (by simp; omega)]
    have := hc k (by simp at hk; omega)
    simpa [popR] using this
theorem bdBand_row (L : Nat) (hL : L ≤ 1000) (s : List S34) (hs : s.length = L) (sd : Int) (t : List S34) (ht : t.length = L) (base : List S34) (hb : base.length ≤ 1000)
    (hsd : (sd = 0 ∧ t = s) ∨ (sd = 1 ∧ t = s.reverse)) (R : List S34) (K0 : Nat) (r : List S34) : ∀ (pre st : List S34) (k : Nat), allP r → allP st → pre ++ r = t → st.length ≤ pre.length → 0 < st.length + r.length → K0 + r.length * (L + 4) + 1 ≤ k →
    (∀ k, K0 ≤ k → spec_bdBand.l0 k s (base ++ (chainR st r).reverse.dropLast) (wrap64 (sd + 1)) = some R) →
    spec_bdBand.l1 k s (base ++ st.reverse) sd (base.length : Int) (L : Int) (pre.length : Int) = some R := by
  induction r with
  | nil =>
    intro pre st k _ _ h ha hpos hk hc
    obtain ⟨k, rfl⟩ : ∃ m, k = m + 1 := ⟨k - 1, by omega⟩
    simp only [List.length_nil, Nat.add_zero] at hpos hk
    have hpre : pre.length = L := by rw [← ht, ← h]; simp
    simp only [spec_bdBand.l1]
    have hlen : (base ++ st.reverse).length = base.length + st.length := by simp
    rw [if_neg (by omega), hlen, w64 (x := ((base.length + st.length : Nat) : Int) - 1) (by omega) (by omega), if_pos (by omega), if_pos (by omega)]
    have h1 : (base ++ st.reverse).take (((base.length + st.length : Nat) : Int) - 1).toNat = base ++ st.reverse.dropLast := by
      rw [show (((base.length + st.length : Nat) : Int) - 1).toNat = base.length + (st.length - 1) by omega, List.take_length_add_append, List.dropLast_eq_take, List.length_reverse]
    rw [h1]
    exact hc k (by omega)
  | cons p r ih =>
    intro pre st k hr hst h ha hpos hk hc
    obtain ⟨k, rfl⟩ : ∃ m, k = m + 1 := ⟨k - 1, by omega⟩
    have hlen : pre.length + (r.length + 1) = L := by rw [← ht, ← h]; simp
    simp only [List.length_cons] at hk
    rw [Nat.succ_mul] at hk
    have hq := popR_length p st
    have hin : ∀ k, K0 + r.length * (L + 4) + 1 + st.length + 1 ≤ k → spec_bdBand.l2 k s (base ++ st.reverse) sd (base.length : Int) (L : Int) (pre.length : Int) p.f0 p.f1 = some R := fun k hk => by
      refine bdBand_in s sd (L : Int) (pre.length : Int) base (by omega) p (hr p (by simp)) R (K0 + r.length * (L + 4) + 1) st k hst (by omega) (by omega) (fun k hk => ?_)
      have := ih (pre ++ [p]) (p :: popR p st) k (fun q hq => hr q (List.mem_cons_of_mem _ hq)) (fun q hq => by
        rcases List.mem_cons.1 hq with rfl | hq
        · exact hr _ (by simp)
        · exact hst q (popR_sub p st q hq)) (by simpa using h) (by simp; omega) (by simp only [List.length_cons]; omega) hk (fun k hk => by
          have := hc k hk
          unfold chainR at this
          exact this)
      rw [w64 (by omega) (by omega)]
      simpa using this
    simp only [spec_bdBand.l1]
    rw [if_pos (by omega), if_pos (by omega), if_pos (by omega)]
    have hj : ∀ k, K0 + r.length * (L + 4) + 1 + st.length + 2 ≤ k → spec_bdBand.j2 k s (base ++ st.reverse) sd (base.length : Int) (L : Int) (pre.length : Int) p.f0 p.f1 = some R := fun k hk => by
      obtain ⟨k, rfl⟩ : ∃ m, k = m + 1 := ⟨k - 1, by omega⟩
      simp only [spec_bdBand.j2]
      exact hin k (by omega)
    rcases hsd with ⟨rfl, e⟩ | ⟨rfl, e⟩
    · rw [if_neg (by decide), show s = pre ++ p :: r by rw [h, e], rdPeg]
      have := hj k (by omega)
      rw [show s = pre ++ p :: r by rw [h, e]] at this
      exact this
    · have hrev : s = r.reverse ++ p :: pre.reverse := by
        have : s = t.reverse := by rw [e, List.reverse_reverse]
        rw [this, ← h]
        simp
      have hr2 : rd_T34 s (wrap64 (wrap64 ((s.length : Int) - 1) - (pre.length : Int))) = p := by
        rw [hs, w64 (x := (L : Int) - 1) (by omega) (by omega), w64 (by omega) (by omega), show (L : Int) - 1 - (pre.length : Int) = (r.reverse.length : Int) by simp; omega, hrev]
        exact rdPeg _ _ _
      rw [if_pos rfl, hr2, if_pos (by rw [hs, w64 (x := (L : Int) - 1) (by omega) (by omega), w64 (by omega) (by omega)]; omega), if_pos (by rw [hs, w64 (x := (L : Int) - 1) (by omega) (by omega), w64 (by omega) (by omega)]; omega)]
      exact hj k (by omega)
theorem bdBand_eq (k : Nat) (l : List S34) (h1 : 1 ≤ l.length) (hl : l.length ≤ 100) (hp : allP l) (hk : 40000 ≤ k) :
    spec_bdBand.f k l = some (if l.length < 3 then sortP l else hullP (sortP l)) := by
  have hs : allP (sortP l) := fun q hq => hp q ((sortP_perm l).subset hq)
  have hn := sortP_length l
  unfold spec_bdBand.f
  rw [bdSorted_eq k l (by omega) (by omega), Option.bind_some, hn]
  by_cases c : l.length < 3
  · rw [if_pos (by omega), if_pos c]
  · rw [if_neg (by omega), if_neg c]
    have hm : l.length * (l.length + 4) ≤ 100 * 104 := Nat.mul_le_mul (by omega) (by omega)
    have e1 := chainR_length (sortP l) []
    simp only [List.length_nil, Nat.zero_add] at e1
    generalize hsv : sortP l = s at *
    have hlast : ∀ k, 1 ≤ k → spec_bdBand.l0 k s (hullP s) (wrap64 (1 + 1)) = some (hullP s) := fun k hk => by
      obtain ⟨k, rfl⟩ : ∃ m, k = m + 1 := ⟨k - 1, by omega⟩
      simp only [spec_bdBand.l0]
      rw [w64 (by omega) (by omega), if_neg (by decide)]
    have hrow2 : ∀ k, 11000 ≤ k → spec_bdBand.l0 k s ((chainR [] s).reverse.dropLast) (wrap64 (0 + 1)) = some (hullP s) := fun k hk => by
      obtain ⟨k, rfl⟩ : ∃ m, k = m + 1 := ⟨k - 1, by omega⟩
      simp only [spec_bdBand.l0]
      rw [w64 (by omega) (by omega), if_pos (by decide), hn]
      have := bdBand_row l.length (by omega) s hn (0 + 1) s.reverse (by simpa using hn) ((chainR [] s).reverse.dropLast) (by simp; omega) (.inr ⟨by decide, rfl⟩) (hullP s) 1 s.reverse [] [] k (fun q hq => hs q (by simpa using hq)) (by intro q hq; simp at hq) (by simp) (by simp) (by simp; omega) (by rw [List.length_reverse, hn]; omega) (fun k hk => by rw [show (0 : Int) + 1 + 1 = 1 + 1 from rfl]; exact hlast k hk)
      simpa using this
    obtain ⟨k, rfl⟩ : ∃ m, k = m + 1 := ⟨k - 1, by omega⟩
    simp only [spec_bdBand.l0]
    rw [if_pos (by decide), hn]
    have := bdBand_row l.length (by omega) s hn 0 s hn [] (by simp) (.inl ⟨rfl, rfl⟩) (hullP s) 11000 s [] [] k hs (by intro q hq; simp at hq) (by simp) (by simp) (by simp; omega) (by rw [hn]; omega) (fun k hk => by simpa using hrow2 k hk)
    simpa using this

theorem hull_two (a b : S34) : hullP [a, b] = [a, b] := by
  unfold hullP
  simp [chainR, popR]
theorem bands_eq (k : Nat) (l : List S34) (h1 : 1 ≤ l.length) (hl : l.length ≤ 100) (hp : allP l) (hk : 40000 ≤ k) : ∃ r, spec_bdBand.f k l = some r ∧ impl_band.f k l = some r ∧ r.length ≤ 200 := by
  have hn := sortP_length l
  have q1 := chainR_length (sortP l) []
  have q2 := chainR_length (sortP l).reverse []
  simp only [List.length_nil, Nat.zero_add, List.length_reverse] at q1 q2
  have hh : (hullP (sortP l)).length ≤ 200 := by
    unfold hullP
    simp only [List.length_append, List.length_dropLast, List.length_reverse]
    omega
  refine ⟨_, bdBand_eq k l h1 hl hp hk, ?_, ?_⟩
  · rw [band_eq k l h1 hl hp (by omega)]
    by_cases c1 : l.length = 1
    · rw [if_pos c1, if_pos (by omega)]
    · rw [if_neg c1]
      by_cases c2 : l.length < 3
      · rw [if_pos c2]
        have h2 : (sortP l).length = 2 := by omega
        obtain ⟨a, b, e⟩ : ∃ a b, sortP l = [a, b] := by
          match hq : sortP l, h2 with
          | [a, b], _ => exact ⟨a, b, rfl⟩
        rw [e, hull_two]
      · rw [if_neg c2]
  · split
    · omega
    · exact hh

theorem goodB_pegs {l : List S34} (h : goodB l = true) : 1 ≤ l.length ∧ l.length ≤ 30 ∧ ∀ q ∈ l, pegP q.f0 q.f1 := by
  unfold goodB at h
  rw [Bool.and_eq_true, Bool.and_eq_true, decide_eq_true_eq, List.all_eq_true] at h
  refine ⟨h.1.1, h.1.2, fun q hq => ?_⟩
  have := h.2.1 q hq
  unfold pegB at this
  rwa [decide_eq_true_eq] at this

/-- The one pure statement of the law FnExactBandOf. -/
def FnExactBandOf.Pure : Prop :=
  ∀ (l0 : List (S43)), l0.length ≤ maxLen → (∀ x ∈ l0, I64 x.f0 ∧ I64 x.f1) → ∃ k, laws_FnExactBandOf.f k l0 = some true

theorem FnExactBandOf : FnExactBandOf.Pure := by
  intro l hl _
  obtain ⟨k, hk⟩ : ∃ k : Nat, 1048600 ≤ k := ⟨1048600, Nat.le_refl _⟩
  refine ⟨k + 3, ?_⟩
  unfold laws_FnExactBandOf.f
  rw [szPegS_eq l hl, Option.bind_some]
  by_cases c : 1048576 < l.length
  · rw [if_pos c, if_pos (by decide)]
  · rw [if_neg c, if_neg (by omega), toPegS_eq (k + 3) l (by omega) (by omega), Option.bind_some]
    have e : ∃ b g, b.length ≤ 200 ∧ ∀ k, 1048600 ≤ k → spec_BandOf.f k (l.map convPeg) = some (b, g) ∧ impl_BandOf.f k (l.map convPeg) = some (b, g) := by
      by_cases g : goodB (l.map convPeg) = true
      · obtain ⟨g1, g2, g3⟩ := goodB_pegs g
        obtain ⟨r, h1, h2, h3⟩ := bands_eq 40000 (l.map convPeg) g1 (by omega) g3 (by omega)
        refine ⟨r, true, h3, fun k hk => ?_⟩
        obtain ⟨r', h1', h2', _⟩ := bands_eq k (l.map convPeg) g1 (by omega) g3 (by omega)
        have er : r' = r := by
          rw [bdBand_eq k _ g1 (by omega) g3 (by omega)] at h1'
          rw [bdBand_eq 40000 _ g1 (by omega) g3 (by omega)] at h1
          exact Option.some.inj (h1'.symm.trans h1)
        subst er
        unfold spec_BandOf.f impl_BandOf.f
        rw [bdGood_eq k (by omega), areDiff_eq k (by omega), Option.bind_some, Option.bind_some, if_pos g, if_pos g, h1', h2', Option.bind_some]
        exact ⟨rfl, rfl⟩
      · refine ⟨[], false, by simp, fun k hk => ?_⟩
        unfold spec_BandOf.f impl_BandOf.f
        rw [bdGood_eq k (by omega), areDiff_eq k (by omega), Option.bind_some, Option.bind_some, if_neg g, if_neg g]
        exact ⟨rfl, rfl⟩
    obtain ⟨r, g, hr, hall⟩ := e
    rw [(hall (k + 3) (by omega)).1, Option.bind_some, Option.bind_some, (hall (k + 3) (by omega)).2, Option.bind_some, eqPegS_self (k + 3) r (by omega) (by omega), Option.bind_some, if_pos rfl]
    have hm0 : ∀ k, 1048600 ≤ k → laws_markPegS.f k (l.map convPeg) 1 = some (((1 + 2 * (l.map convPeg).length : Nat) : Int), markedPegs 1 (l.map convPeg).length) := fun k hk => markPegS_eq k 1 (by omega) _ (by simp; omega) (by simp; omega)
    have hm : ∀ k, 1048600 ≤ k → laws_markPegS.f k r 1 = some (((1 + 2 * r.length : Nat) : Int), markedPegs 1 r.length) := fun k hk => markPegS_eq k 1 (by omega) r (by omega) (by omega)
    have hh : ∀ k, 1048600 ≤ k → laws_heldPegS.f k (markedPegs 1 r.length) 1 = some ((1 + 2 * r.length : Nat) : Int) := fun k hk => heldPegS_eq k 1 (by omega) r.length (by omega) (by omega)
    simp only [laws_FnExactBandOf.j0]
    rw [if_neg (by simp), toPegS_eq (k + 2) l (by omega) (by omega), Option.bind_some, eqPegS_self (k + 2) (l.map convPeg) (by simp; omega) (by simp; omega), Option.bind_some, if_pos rfl, hm0 (k + 2) (by omega), Option.bind_some, if_neg (by omega), eqPegS_self (k + 2) r (by omega) (by omega), Option.bind_some, if_pos rfl]
    simp only [laws_FnExactBandOf.j1]
    rw [if_neg (by simp), hm (k + 1) (by omega), Option.bind_some, hh (k + 1) (by omega), Option.bind_some, if_neg (by omega), if_pos rfl, toPegS_eq (k + 1) l (by omega) (by omega), Option.bind_some, (hall (k + 1) (by omega)).2, Option.bind_some, eqPegS_self (k + 1) r (by omega) (by omega), Option.bind_some, if_pos rfl]
    simp only [laws_FnExactBandOf.j2]
    rw [if_neg (by simp), hh k (by omega), Option.bind_some, if_neg (by omega), if_pos rfl]

end Go.Proofs.Ytaclbccjcjdbpaa.Pure
