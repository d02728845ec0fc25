/- Lists that are around are sixteen but for turning and telling backwards, come in order, and stay around if they are told anew: for all arguments. No condition. -/
import Derived.Test.YtogafcjfaicpgaaMCx0
import Derived.Test.YtogafcjfaicpgaaMCx2
import Derived.Test.YtogafcjfaicpgaaMCx3
import Derived.Test.YtogafcjfaicpgaaMCx4
import Derived.Test.YtogafcjfaicpgaaMCx5
import Derived.Test.YtogafcjfaicpgaaMCx6
import Derived.Test.YtogafcjfaicpgaaMCx7
import Derived.Test.YtogafcjfaicpgaaMCx8
import Derived.Test.YtogafcjfaicpgaaMCx9
import Derived.Test.YtogafcjfaicpgaaMCx10
import Derived.Test.YtogafcjfaicpgaaMCx11
import Derived.Test.YtogafcjfaicpgaaMCx12
import Derived.Test.YtogafcjfaicpgaaMCx13
import Derived.Test.YtogafcjfaicpgaaMCx14
import Derived.Test.YtogafcjfaicpgaaMCx15
import Derived.Test.YtogafcjfaicpgaaMCx16
import Derived.Test.YtogafcjfaicpgaaMCx17
import Derived.Test.YtogafcjfaicpgaaMCx18
import Derived.Test.YtogafcjfaicpgaaMCx19
import Derived.Test.YtogafcjfaicpgaaMCx20
import Derived.Test.YtogafcjfaicpgaaVA
namespace Go.Proofs.Ytogafcjfaicpgaa.Pure
open Go.RowKit Go.Proofs.YtogafcjfaicpgaaV Go.Proofs.Ytogafcjfaicpgaa.MC Go.Proofs.YtogafcjfaicpgaaW.PrintWords Go.Proofs.YtogafcjfaicpgaaW.PrintLast Go.Proofs.YtogafcjfaicpgaaW.PrintMore

theorem in_eq (a lo hi : Int) : spec_l1In.f a lo hi = some (decide (lo ≤ a ∧ a ≤ hi)) := by
  unfold spec_l1In.f
  by_cases h : lo ≤ a
  · rw [if_pos h]; simp [h]
  · rw [if_neg h]; simp [h]

theorem within_eq (a lo hi : Int) : impl_within.f a lo hi = some (decide (lo ≤ a ∧ a ≤ hi)) := by
  unfold impl_within.f
  by_cases h : lo ≤ a
  · rw [if_pos h]; simp [h]
  · rw [if_neg h]; simp [h]

theorem w64 {x : Int} (h0 : -9223372036854775808 ≤ x) (h1 : x ≤ 9223372036854775807) : wrap64 x = x := by
  unfold wrap64
  omega

theorem mul_bd {x y : Int} (A B : Nat) (hx : -(A : Int) ≤ x ∧ x ≤ A) (hy : -(B : Int) ≤ y ∧ y ≤ B) : -((A * B : Nat) : Int) ≤ x * y ∧ x * y ≤ ((A * B : Nat) : Int) := by
  have h1 : x.natAbs ≤ A := by omega
  have h2 : y.natAbs ≤ B := by omega
  have h3 := Nat.mul_le_mul h1 h2
  rw [← Int.natAbs_mul] at h3
  omega

theorem rdNat (l : List Int) (i : Nat) (h : i < l.length) : rd l (i : Int) = l[i] := by
  unfold rd
  simp [List.getD_eq_getElem?_getD, List.getElem?_eq_getElem h]

def numB (n : Int) : Bool := decide (-6 ≤ n ∧ n ≤ 2)
/-- Numbers that may be around. -/
def numsB (l : List Int) : Bool := decide (3 ≤ l.length ∧ l.length ≤ 9) && l.all numB

theorem l1All_loop (lo hi : Int) (l : List Int) (hl : l.length ≤ 1048576) (d : Nat) : ∀ (k i : Nat), i + d = l.length → d < k →
    spec_l1All.l0 k lo hi l (l.length : Int) (i : Int) = some ((l.drop i).all fun n => decide (lo ≤ n ∧ n ≤ hi)) := by
  induction d with
  | zero =>
    intro k i hi' hk
    obtain ⟨k, rfl⟩ : ∃ m, k = m + 1 := ⟨k - 1, by omega⟩
    simp only [spec_l1All.l0]
    rw [if_neg (by omega), List.drop_of_length_le (by omega)]
    rfl
  | succ d ih =>
    intro k i hi' hk
    obtain ⟨k, rfl⟩ : ∃ m, k = m + 1 := ⟨k - 1, by omega⟩
    have hlt : i < l.length := by omega
    simp only [spec_l1All.l0]
    rw [if_pos (by omega), if_pos (by omega), if_pos (by omega), rdNat l i hlt, in_eq, Option.bind_some, List.drop_eq_getElem_cons hlt, List.all_cons]
    by_cases c : lo ≤ l[i] ∧ l[i] ≤ hi
    · rw [if_pos (by simpa using c), w64 (by omega) (by omega)]
      have := ih k (i + 1) (by omega) (by omega)
      rw [show ((i : Int) + 1) = ((i + 1 : Nat) : Int) by omega, this, decide_eq_true c, Bool.true_and]
    · rw [if_neg (by simpa using c), decide_eq_false c]
      rfl
theorem duNumber_eq (k : Nat) (hk : 20 ≤ k) (l : List Int) : spec_duNumber.f k l = some (numsB l) := by
  unfold spec_duNumber.f numsB
  rw [in_eq, Option.bind_some]
  by_cases c : 3 ≤ l.length ∧ l.length ≤ 9
  · rw [if_pos (by rw [decide_eq_true_eq]; omega)]
    have := l1All_loop (-6) 2 l (by omega) l.length k 0 (by omega) (by omega)
    rw [show ((0 : Nat) : Int) = 0 from rfl] at this
    unfold spec_l1All.f
    rw [this, Option.bind_some, decide_eq_true c]
    rfl
  · rw [if_neg (by rw [decide_eq_true_eq]; omega), decide_eq_false c]
    rfl

theorem indexInt_loop (l : List Int) (hl : l.length ≤ 1048576) (d : Nat) : ∀ (k i : Nat), i + d = l.length → d < k →
    ∃ r, slices_IndexFunc_int_int_64.l0 k l (l.length : Int) (i : Int) = some r ∧ decide (r ≥ 0) = (l.drop i).any fun n => !numB n := by
  induction d with
  | zero =>
    intro k i hi hk
    obtain ⟨k, rfl⟩ : ∃ m, k = m + 1 := ⟨k - 1, by omega⟩
    refine ⟨-1, ?_, ?_⟩
    · simp only [slices_IndexFunc_int_int_64.l0]; rw [if_neg (by omega)]
    · rw [List.drop_of_length_le (by omega)]; rfl
  | succ d ih =>
    intro k i hi hk
    obtain ⟨k, rfl⟩ : ∃ m, k = m + 1 := ⟨k - 1, by omega⟩
    have hlt : i < l.length := by omega
    simp only [slices_IndexFunc_int_int_64.l0]
    rw [if_pos (by omega), if_pos (by omega), if_pos (by omega), rdNat l i hlt]
    unfold impl_areNumbers_1.f
    rw [within_eq, Option.bind_some, Option.bind_some, List.drop_eq_getElem_cons hlt, List.any_cons]
    by_cases c : -6 ≤ l[i] ∧ l[i] ≤ 2
    · obtain ⟨r, h1, h2⟩ := ih k (i + 1) (by omega) (by omega)
      refine ⟨r, ?_, ?_⟩
      · rw [if_neg (by simp [c]), w64 (by omega) (by omega)]
        exact h1
      · rw [h2]; simp [numB, c]
    · exact ⟨(i : Int), by rw [if_pos (by rw [decide_eq_false c]; rfl)], by simp [numB, c]⟩
theorem areNumbers_eq (k : Nat) (hk : 20 ≤ k) (l : List Int) : impl_areNumbers.f k l = some (numsB l) := by
  unfold impl_areNumbers.f numsB
  rw [within_eq, Option.bind_some]
  by_cases c : 3 ≤ l.length ∧ l.length ≤ 9
  · rw [if_pos (by rw [decide_eq_true_eq]; omega)]
    obtain ⟨r, h1, h2⟩ := indexInt_loop l (by omega) l.length k 0 (by omega) (by omega)
    rw [show ((0 : Nat) : Int) = 0 from rfl] at h1
    unfold slices_ContainsFunc_int_int_49.f slices_IndexFunc_int_int_64.f
    rw [h1, Option.bind_some, Option.bind_some, h2, decide_eq_true c, List.drop_zero, Bool.true_and, List.all_eq_not_any_not]
  · rw [if_neg (by rw [decide_eq_true_eq]; omega), decide_eq_false c]
    rfl

theorem pegsBy_loop (l : List Int) (hl : l.length ≤ 9) (d : Nat) : ∀ (k k' i : Nat) (x : List S63), i + d = l.length → d < k → d < k' → x.length = i + 2 →
    ∃ r, spec_duMake.l0 k l x (l.length : Int) (i : Int) = some r ∧ impl_pegsBy.l0 k' l x (l.length : Int) (i : Int) = some r ∧ r.length = l.length + 2 ∧ ∀ j, j < i + 2 → r[j]? = x[j]? := by
  induction d with
  | zero =>
    intro k k' i x hi hk hk' hx
    obtain ⟨k, rfl⟩ : ∃ m, k = m + 1 := ⟨k - 1, by omega⟩
    obtain ⟨k', rfl⟩ : ∃ m, k' = m + 1 := ⟨k' - 1, by omega⟩
    refine ⟨x, ?_, ?_, by omega, fun _ _ => rfl⟩
    · simp only [spec_duMake.l0]
      rw [if_neg (by omega)]
    · simp only [impl_pegsBy.l0]
      rw [if_neg (by omega)]
  | succ d ih =>
    intro k k' i x hi hk hk' hx
    obtain ⟨k, rfl⟩ : ∃ m, k = m + 1 := ⟨k - 1, by omega⟩
    obtain ⟨k', rfl⟩ : ∃ m, k' = m + 1 := ⟨k' - 1, by omega⟩
    have e1 : wrap64 ((i : Int) + 1) = ((i + 1 : Nat) : Int) := w64 (by omega) (by omega)
    have e2 : wrap64 ((x.length : Int) - 1) = ((i + 1 : Nat) : Int) := by rw [w64 (by omega) (by omega)]; omega
    have e3 : wrap64 ((x.length : Int) - 2) = (i : Int) := by rw [w64 (by omega) (by omega)]; omega
    have hn : (l.length : Int) ≠ 0 := by omega
    have hm0 : 0 ≤ Int.tmod ((i + 1 : Nat) : Int) (l.length : Int) := Int.tmod_nonneg _ (by omega)
    have hm1 : Int.tmod ((i + 1 : Nat) : Int) (l.length : Int) < (l.length : Int) := Int.tmod_lt_of_pos _ (by omega)
    simp only [spec_duMake.l0, impl_pegsBy.l0]
    rw [e1, e2, e3, if_pos (by omega), if_neg hn, if_pos hm0, if_pos hm1, if_pos (by omega), if_pos (by omega), if_pos (by omega), if_pos (by omega), if_pos (by omega),
      if_pos (by omega), if_neg hn, if_pos hm0, if_pos hm1, if_pos (by omega), if_pos (by omega), if_pos (by omega), if_pos (by omega), if_pos (by omega)]
    generalize (⟨wrap64 (_ - _), wrap64 (_ - _)⟩ : S63) = q
    obtain ⟨r, h1, h2, h3, h4⟩ := ih k k' (i + 1) (x ++ [q]) (by omega) (by omega) (by omega) (by simp; omega)
    refine ⟨r, h1, h2, h3, fun j hj => ?_⟩
    rw [h4 j (by omega), List.getElem?_append_left (by omega)]
theorem pegsBy_eq (l : List Int) (hl : l.length ≤ 9) : ∃ r, (∀ k, 10 ≤ k → spec_duMake.f k l = some r) ∧ (∀ k, 10 ≤ k → impl_pegsBy.f k l = some r) ∧ r.length = l.length + 2 := by
  obtain ⟨r, h1, h2, h3, _⟩ := pegsBy_loop l hl l.length 10 10 0 [⟨1, 0⟩, ⟨0, 1⟩] (by omega) (by omega) (by omega) rfl
  refine ⟨r, fun k hk => ?_, fun k hk => ?_, h3⟩
  · obtain ⟨r1, g1, g2, _, _⟩ := pegsBy_loop l hl l.length k 10 0 [⟨1, 0⟩, ⟨0, 1⟩] (by omega) (by omega) (by omega) rfl
    rw [h2] at g2
    rw [Option.some.inj g2]
    exact g1
  · obtain ⟨r1, g1, g2, _, _⟩ := pegsBy_loop l hl l.length 10 k 0 [⟨1, 0⟩, ⟨0, 1⟩] (by omega) (by omega) (by omega) rfl
    rw [h1] at g1
    rw [Option.some.inj g1]
    exact g2

def sumW (l : List Int) (s : Int) : Int := l.foldl (fun a n => wrap64 (a + n)) s
theorem duSum_loop (l : List Int) (hl : l.length ≤ 9) (d : Nat) : ∀ (k i : Nat) (s : Int), i + d = l.length → d < k → spec_duSum.l0 k s l (l.length : Int) (i : Int) = some (sumW (l.drop i) s) := by
  induction d with
  | zero =>
    intro k i s hi hk
    obtain ⟨k, rfl⟩ : ∃ m, k = m + 1 := ⟨k - 1, by omega⟩
    simp only [spec_duSum.l0]
    rw [if_neg (by omega), List.drop_of_length_le (by omega)]
    rfl
  | succ d ih =>
    intro k i s hi hk
    obtain ⟨k, rfl⟩ : ∃ m, k = m + 1 := ⟨k - 1, by omega⟩
    have hlt : i < l.length := by omega
    simp only [spec_duSum.l0]
    rw [if_pos (by omega), if_pos (by omega), if_pos (by omega), rdNat l i hlt, w64 (x := (i : Int) + 1) (by omega) (by omega), show ((i : Int) + 1) = ((i + 1 : Nat) : Int) by omega, ih k (i + 1) _ (by omega) (by omega), List.drop_eq_getElem_cons hlt]
    rfl
/-- What is asked of numbers around. -/
def isAroundB (l : List Int) (r : List S63) : Bool :=
  ((rd_T63 r (l.length : Int)).f0 == (rd_T63 r 0).f0 && (rd_T63 r (l.length : Int)).f1 == (rd_T63 r 0).f1) && ((rd_T63 r ((l.length : Int) + 1)).f0 == (rd_T63 r 1).f0 && (rd_T63 r ((l.length : Int) + 1)).f1 == (rd_T63 r 1).f1) && sumW l 0 == 3 * (l.length : Int) - 12
theorem areAround_loop (l : List Int) (hl : l.length ≤ 9) (r : List S63) (hr : ∀ k, 10 ≤ k → impl_pegsBy.f k l = some r) (hlen : r.length = l.length + 2) (d : Nat) : ∀ (k i : Nat) (s : Int), i + d = l.length → d + 11 ≤ k → sumW (l.drop i) s = sumW l 0 →
    impl_areAround.l0 k l s l (l.length : Int) (i : Int) = some (isAroundB l r) := by
  induction d with
  | zero =>
    intro k i s hi hk hs
    obtain ⟨k, rfl⟩ : ∃ m, k = m + 1 := ⟨k - 1, by omega⟩
    rw [List.drop_of_length_le (by omega)] at hs
    have hs' : s = sumW l 0 := hs
    subst hs'
    simp only [impl_areAround.l0]
    rw [if_neg (by omega), w64 (x := 3 * (l.length : Int)) (by omega) (by omega), w64 (x := 3 * (l.length : Int) - 12) (by omega) (by omega), hr k (by omega), Option.bind_some, w64 (x := (l.length : Int) + 1) (by omega) (by omega), if_pos (show 0 ≤ (l.length : Int) by omega), if_pos (show (l.length : Int) < (r.length : Int) by omega), if_pos (show 0 < (r.length : Int) by omega), if_pos (show 0 ≤ (l.length : Int) + 1 by omega), if_pos (show (l.length : Int) + 1 < (r.length : Int) by omega), if_pos (show 1 < (r.length : Int) by omega)]
    unfold isAroundB
    generalize ((rd_T63 r (l.length : Int)).f0 == (rd_T63 r 0).f0 && (rd_T63 r (l.length : Int)).f1 == (rd_T63 r 0).f1) = b1
    generalize ((rd_T63 r ((l.length : Int) + 1)).f0 == (rd_T63 r 1).f0 && (rd_T63 r ((l.length : Int) + 1)).f1 == (rd_T63 r 1).f1) = b2
    by_cases c : sumW l 0 = 3 * (l.length : Int) - 12
    · rw [if_pos c, beq_iff_eq.mpr c]
      cases b1 <;> cases b2 <;> rfl
    · rw [if_neg c, beq_eq_false_iff_ne.mpr c]
      cases b1 <;> cases b2 <;> rfl
  | succ d ih =>
    intro k i s hi hk hs
    obtain ⟨k, rfl⟩ : ∃ m, k = m + 1 := ⟨k - 1, by omega⟩
    have hlt : i < l.length := by omega
    simp only [impl_areAround.l0]
    rw [if_pos (by omega), if_pos (by omega), if_pos (by omega), rdNat l i hlt, w64 (x := (i : Int) + 1) (by omega) (by omega), show ((i : Int) + 1) = ((i + 1 : Nat) : Int) by omega]
    refine ih k (i + 1) _ (by omega) (by omega) ?_
    rw [List.drop_eq_getElem_cons hlt] at hs
    exact hs
theorem duIs_eq (k : Nat) (hk : 20 ≤ k) (l : List Int) (hl : l.length ≤ 9) (r : List S63) (hr : ∀ k, 10 ≤ k → spec_duMake.f k l = some r) (hlen : r.length = l.length + 2) : spec_duIs.f k l = some (isAroundB l r) := by
  unfold spec_duIs.f spec_duSum.f
  have h1 := duSum_loop l hl l.length k 0 0 (by omega) (by omega)
  rw [show ((0 : Nat) : Int) = 0 from rfl, List.drop_zero] at h1
  rw [hr k (by omega), Option.bind_some, h1, Option.bind_some, w64 (x := 3 * (l.length : Int)) (by omega) (by omega), w64 (x := 3 * (l.length : Int) - 12) (by omega) (by omega), w64 (x := (l.length : Int) + 1) (by omega) (by omega), if_pos (show 0 ≤ (l.length : Int) by omega), if_pos (show (l.length : Int) < (r.length : Int) by omega), if_pos (show 0 < (r.length : Int) by omega), if_pos (show 0 ≤ (l.length : Int) + 1 by omega), if_pos (show (l.length : Int) + 1 < (r.length : Int) by omega), if_pos (show 1 < (r.length : Int) by omega)]
  unfold isAroundB
  generalize ((rd_T63 r (l.length : Int)).f0 == (rd_T63 r 0).f0 && (rd_T63 r (l.length : Int)).f1 == (rd_T63 r 0).f1) = b1
  generalize ((rd_T63 r ((l.length : Int) + 1)).f0 == (rd_T63 r 1).f0 && (rd_T63 r ((l.length : Int) + 1)).f1 == (rd_T63 r 1).f1) = b2
  cases b1 <;> cases b2 <;> simp
theorem areAround_eq (k : Nat) (hk : 30 ≤ k) (l : List Int) (hl : l.length ≤ 9) : impl_areAround.f k l = spec_duIs.f k l ∧ ∃ b, spec_duIs.f k l = some b := by
  obtain ⟨r, h1, h2, h3⟩ := pegsBy_eq l hl
  have g1 := areAround_loop l hl r h2 h3 l.length k 0 0 (by omega) (by omega) (by rw [List.drop_zero])
  rw [duIs_eq k (by omega) l hl r h1 h3]
  exact ⟨g1, _, rfl⟩

theorem take_set_next (y O : List Int) (i : Nat) (v : Int) (hy : i < y.length) (h : y.take i = O.take i) (hv : O[i]? = some v) : (y.set i v).take (i + 1) = O.take (i + 1) := by
  rw [List.take_set, List.take_add_one, List.take_add_one, h, hv, List.getElem?_eq_getElem hy]
  simp only [Option.toList_some]
  have hO : i < O.length := by
    rcases Nat.lt_or_ge i O.length with h | h
    · exact h
    · rw [List.getElem?_eq_none h] at hv
      exact absurd hv (by simp)
  rw [List.set_append_right _ _ (by simp; omega)]
  simp [Nat.min_eq_left (Nat.le_of_lt hO)]

def onL (l : List Int) (f : Nat) : List Int := (List.range l.length).map fun i => l.getD ((f + i) % l.length) 0
def backL (l : List Int) (f : Nat) : List Int := (List.range l.length).map fun i => l.getD ((f + l.length - i) % l.length) 0
def ltL : List Int → List Int → Bool
  | x :: a, y :: b => if x = y then ltL a b else decide (x < y)
  | _, _ => false
def bstep (b x : List Int) : List Int := if ltL x b = true then x else b
/-- The first one of all ways to tell a list. -/
def leastF (l : List Int) : Nat → Nat → List Int → List Int
  | 0, _, b => b
  | d + 1, f, b => leastF l d (f + 1) (bstep (bstep b (onL l f)) (backL l f))
theorem onL_length (l : List Int) (f : Nat) : (onL l f).length = l.length := by simp [onL]
theorem backL_length (l : List Int) (f : Nat) : (backL l f).length = l.length := by simp [backL]
theorem bstep_length (b x : List Int) (n : Nat) (h1 : b.length = n) (h2 : x.length = n) : (bstep b x).length = n := by
  unfold bstep
  split
  · exact h2
  · exact h1
theorem onL_get (l : List Int) (f i : Nat) (hi : i < l.length) : (onL l f)[i]? = some (rd l (((f + i) % l.length : Nat) : Int)) := by
  unfold onL
  rw [List.getElem?_map, List.getElem?_range hi]
  exact congrArg some (by unfold rd; rw [Int.toNat_natCast])
theorem backL_get (l : List Int) (f i : Nat) (hi : i < l.length) : (backL l f)[i]? = some (rd l (((f + l.length - i) % l.length : Nat) : Int)) := by
  unfold backL
  rw [List.getElem?_map, List.getElem?_range hi]
  exact congrArg some (by unfold rd; rw [Int.toNat_natCast])
theorem leastF_length (l : List Int) (d : Nat) : ∀ f b, b.length = l.length → (leastF l d f b).length = l.length := by
  induction d with
  | zero => intro f b h; exact h
  | succ d ih => intro f b h; exact ih _ _ (bstep_length _ _ _ (bstep_length _ _ _ h (onL_length l f)) (backL_length l f))
theorem tmodNat (a b : Nat) : Int.tmod (a : Int) (b : Int) = ((a % b : Nat) : Int) := rfl
theorem idx_on (n f i : Nat) (hn : n ≤ 9) (hf : f < n) (hi : i < n) : Int.tmod (wrap64 ((Int.tmod (wrap64 ((f : Int) + wrap64 ((i : Int) * 1))) (n : Int)) + (n : Int))) (n : Int) = (((f + i) % n : Nat) : Int) := by
  have hm := Nat.mod_lt (f + i) (show 0 < n by omega)
  rw [w64 (x := (i : Int) * 1) (by omega) (by omega), w64 (x := (f : Int) + (i : Int) * 1) (by omega) (by omega), show (f : Int) + (i : Int) * 1 = ((f + i : Nat) : Int) by omega, tmodNat, w64 (by omega) (by omega), show (((f + i) % n : Nat) : Int) + (n : Int) = (((f + i) % n + n : Nat) : Int) by omega, tmodNat, Nat.add_mod_right, Nat.mod_mod]
theorem idx_back (n f i : Nat) (hn : n ≤ 9) (hf : f < n) (hi : i < n) : Int.tmod (wrap64 ((Int.tmod (wrap64 ((f : Int) + wrap64 ((i : Int) * (-1)))) (n : Int)) + (n : Int))) (n : Int) = (((f + n - i) % n : Nat) : Int) := by
  rw [w64 (x := (i : Int) * (-1)) (by omega) (by omega), w64 (x := (f : Int) + (i : Int) * (-1)) (by omega) (by omega)]
  by_cases c : i ≤ f
  · have hm := Nat.mod_lt (f - i) (show 0 < n by omega)
    rw [show (f : Int) + (i : Int) * (-1) = ((f - i : Nat) : Int) by omega, tmodNat, w64 (by omega) (by omega), show (((f - i) % n : Nat) : Int) + (n : Int) = (((f - i) % n + n : Nat) : Int) by omega, tmodNat, Nat.add_mod_right, Nat.mod_mod, show f + n - i = f - i + n by omega, Nat.add_mod_right]
  · rw [show (f : Int) + (i : Int) * (-1) = -((i - f : Nat) : Int) by omega, Int.neg_tmod, tmodNat, Nat.mod_eq_of_lt (show i - f < n by omega), w64 (by omega) (by omega), show -((i - f : Nat) : Int) + (n : Int) = ((f + n - i : Nat) : Int) by omega, tmodNat]
theorem idxS_on (n f i : Nat) (hn : n ≤ 9) (hf : f < n) (hi : i < n) : Int.tmod (wrap64 ((f : Int) + (i : Int))) (n : Int) = (((f + i) % n : Nat) : Int) := by
  rw [w64 (by omega) (by omega), show (f : Int) + (i : Int) = ((f + i : Nat) : Int) by omega, tmodNat]
theorem idxS_back (n f i : Nat) (hn : n ≤ 9) (hf : f < n) (hi : i < n) : Int.tmod (wrap64 ((wrap64 ((f : Int) + (n : Int))) - (i : Int))) (n : Int) = (((f + n - i) % n : Nat) : Int) := by
  rw [w64 (x := (f : Int) + (n : Int)) (by omega) (by omega), w64 (by omega) (by omega), show (f : Int) + (n : Int) - (i : Int) = ((f + n - i : Nat) : Int) by omega, tmodNat]

theorem duBefore_loop (a b : List Int) (n : Nat) (ha : a.length = n) (hb : b.length = n) (hn : n ≤ 1000) (d : Nat) : ∀ (k i : Nat), i + d = n → d < k → spec_duBefore.l0 k a b (n : Int) (i : Int) = some (ltL (a.drop i) (b.drop i)) := by
  induction d with
  | zero =>
    intro k i hi hk
    obtain ⟨k, rfl⟩ : ∃ m, k = m + 1 := ⟨k - 1, by omega⟩
    simp only [spec_duBefore.l0]
    rw [if_neg (by omega), List.drop_of_length_le (by omega)]
    rfl
  | succ d ih =>
    intro k i hi hk
    obtain ⟨k, rfl⟩ : ∃ m, k = m + 1 := ⟨k - 1, by omega⟩
    have h1 : i < a.length := by omega
    have h2 : i < b.length := by omega
    simp only [spec_duBefore.l0]
    rw [if_pos (by omega), if_pos (by omega), if_pos (by omega), if_pos (by omega), rdNat a i h1, rdNat b i h2, List.drop_eq_getElem_cons h1, List.drop_eq_getElem_cons h2]
    unfold ltL
    by_cases c : a[i] = b[i]
    · rw [if_pos c, if_pos c, w64 (by omega) (by omega)]
      exact ih k (i + 1) (by omega) (by omega)
    · rw [if_neg c, if_neg c]
theorem duBefore_eq (k : Nat) (a b : List Int) (n : Nat) (ha : a.length = n) (hb : b.length = n) (hn : n ≤ 1000) (hk : n < k) : spec_duBefore.f k a b = some (ltL a b) := by
  unfold spec_duBefore.f
  rw [ha]
  exact duBefore_loop a b n ha hb hn n k 0 (by omega) hk

theorem cmpI_eq (x y : Int) : cmp_Compare_int.f x y = some (if x < y then -1 else if x > y then 1 else 0) := by
  unfold cmp_Compare_int.f cmp_isNaN_int.f
  simp only [bne_self_eq_false, Option.bind_some]
  rw [if_neg (by decide), if_neg (by decide)]
  split
  · rfl
  · split <;> rfl
theorem cmpL_loop (a b : List Int) (n : Nat) (ha : a.length = n) (hb : b.length = n) (hn : n ≤ 1000) (d : Nat) : ∀ (k i : Nat), i + d = n → d < k → ∃ c : Int, slices_Compare_int_int.l0 k a b a (n : Int) (i : Int) = some c ∧ decide (c < 0) = ltL (a.drop i) (b.drop i) := by
  induction d with
  | zero =>
    intro k i hi hk
    obtain ⟨k, rfl⟩ : ∃ m, k = m + 1 := ⟨k - 1, by omega⟩
    refine ⟨0, ?_, ?_⟩
    · simp only [slices_Compare_int_int.l0]
      rw [if_neg (by omega), if_neg (by omega)]
    · rw [List.drop_of_length_le (by omega)]
      rfl
  | succ d ih =>
    intro k i hi hk
    obtain ⟨k, rfl⟩ : ∃ m, k = m + 1 := ⟨k - 1, by omega⟩
    have h1 : i < a.length := by omega
    have h2 : i < b.length := by omega
    simp only [slices_Compare_int_int.l0]
    rw [if_pos (by omega), if_pos (by omega), if_pos (by omega), if_neg (by omega), if_pos (by omega), rdNat a i h1, rdNat b i h2, List.drop_eq_getElem_cons h1, List.drop_eq_getElem_cons h2, cmpI_eq, Option.bind_some]
    unfold ltL
    by_cases c : a[i] = b[i]
    · obtain ⟨r, e1, e2⟩ := ih k (i + 1) (by omega) (by omega)
      refine ⟨r, ?_, ?_⟩
      · rw [if_pos (by rw [if_neg (by omega), if_neg (by omega)]), w64 (by omega) (by omega)]
        exact e1
      · rw [if_pos c, e2]
    · rw [if_neg c]
      by_cases q : a[i] < b[i]
      · refine ⟨-1, ?_, ?_⟩
        · rw [if_pos q, if_neg (by decide)]
        · rw [decide_eq_true q]
          rfl
      · refine ⟨1, ?_, ?_⟩
        · rw [if_neg q, if_pos (show a[i] > b[i] by omega), if_neg (by decide)]
        · rw [decide_eq_false q]
          rfl
theorem cmpL_eq (k : Nat) (a b : List Int) (n : Nat) (ha : a.length = n) (hb : b.length = n) (hn : n ≤ 1000) (hk : n < k) : ∃ c : Int, slices_Compare_int_int.f k a b = some c ∧ decide (c < 0) = ltL a b := by
  unfold slices_Compare_int_int.f
  rw [ha]
  exact cmpL_loop a b n ha hb hn n k 0 (by omega) hk

theorem leastI_l2 (l b O : List Int) (n f : Nat) (st : Int) (steps : List Int) (x19 x20 : Int) (hl : l.length = n) (hn : n ≤ 9) (hO : O.length = n) (hb : b.length = n) (hq : 0 < n)
    (hI : ∀ i, i < n → ∃ j, j < n ∧ Int.tmod (wrap64 ((Int.tmod (wrap64 ((f : Int) + wrap64 ((i : Int) * st))) (n : Int)) + (n : Int))) (n : Int) = ((j : Nat) : Int) ∧ O[i]? = some (rd l ((j : Nat) : Int)))
    (K0 : Nat) (R : List Int) (hK : 20 ≤ K0) (hc : ∀ k, K0 ≤ k → impl_leastNumbers.l1 k l (bstep b O) (n : Int) (f : Int) (n : Int) (f : Int) steps x19 (wrap64 (x20 + 1)) = some R) (d : Nat) : ∀ (k i : Nat) (y : List Int), i + d = n → K0 + d + 1 ≤ k → y.length = n → y.take i = O.take i →
    impl_leastNumbers.l2 k l b (n : Int) (f : Int) st y (n : Int) (f : Int) steps x19 x20 (n : Int) (i : Int) = some R := by
  induction d with
  | zero =>
    intro k i y hi hk hy hp
    obtain ⟨k, rfl⟩ : ∃ m, k = m + 1 := ⟨k - 1, by omega⟩
    rw [List.take_of_length_le (by omega), List.take_of_length_le (by omega)] at hp
    subst hp
    obtain ⟨c, e1, e2⟩ := cmpL_eq k y b n hO hb (by omega) (by omega)
    simp only [impl_leastNumbers.l2]
    rw [if_neg (by omega), e1, Option.bind_some]
    have := hc k (by omega)
    unfold bstep at this
    rw [← e2] at this
    by_cases q : c < 0
    · rw [if_pos q]
      rw [decide_eq_true q, if_pos rfl] at this
      exact this
    · rw [if_neg q]
      rw [decide_eq_false q, if_neg (by decide)] at this
      exact this
  | succ d ih =>
    intro k i y hi hk hy hp
    obtain ⟨k, rfl⟩ : ∃ m, k = m + 1 := ⟨k - 1, by omega⟩
    obtain ⟨j, hj, ej, eO⟩ := hI i (by omega)
    simp only [impl_leastNumbers.l2]
    rw [if_pos (by omega), if_neg (by omega), ej, if_pos (by omega), if_pos (by omega), if_pos (by omega), if_pos (by omega), w64 (x := (i : Int) + 1) (by omega) (by omega), Int.toNat_natCast]
    exact ih k (i + 1) _ (by omega) (by omega) (by simpa using hy) (take_set_next y O i _ (by omega) hp eO)
theorem leastI_l0 (l : List Int) (n : Nat) (hl : l.length = n) (hn : n ≤ 9) (d : Nat) : ∀ (k f : Nat) (b : List Int), f + d = n → d * 100 + 100 ≤ k → b.length = n →
    impl_leastNumbers.l0 k l b (n : Int) (n : Int) (f : Int) = some (leastF l d f b) := by
  induction d with
  | zero =>
    intro k f b hf hk hb
    obtain ⟨k, rfl⟩ : ∃ m, k = m + 1 := ⟨k - 1, by omega⟩
    simp only [impl_leastNumbers.l0]
    rw [if_neg (by omega)]
    unfold slices_Clone_int_int.f
    simp only [Option.bind_some, List.nil_append, List.length_nil]
    rw [if_pos (by omega)]
    rfl
  | succ d ih =>
    intro k f b hf hk hb
    rw [Nat.succ_mul] at hk
    obtain ⟨k, rfl⟩ : ∃ m, k = m + 2 := ⟨k - 2, by omega⟩
    simp only [impl_leastNumbers.l0]
    rw [if_pos (by omega), Option.bind_some]
    have h3 : ∀ (b : List Int), b.length = n → ∀ k, d * 100 + 101 ≤ k → impl_leastNumbers.l1 k l b (n : Int) (f : Int) (n : Int) (f : Int) [1, -1] 2 2 = some (leastF l d (f + 1) b) := by
      intro b hb k hk
      obtain ⟨k, rfl⟩ : ∃ m, k = m + 1 := ⟨k - 1, by omega⟩
      simp only [impl_leastNumbers.l1]
      rw [if_neg (by omega), w64 (by omega) (by omega)]
      exact ih k (f + 1) b (by omega) (by omega) hb
    have h2 : ∀ (b : List Int), b.length = n → ∀ k, d * 100 + 130 ≤ k → impl_leastNumbers.l1 k l b (n : Int) (f : Int) (n : Int) (f : Int) [1, -1] 2 1 = some (leastF l d (f + 1) (bstep b (backL l f))) := by
      intro b hb k hk
      obtain ⟨k, rfl⟩ : ∃ m, k = m + 1 := ⟨k - 1, by omega⟩
      simp only [impl_leastNumbers.l1]
      rw [if_pos (by decide), if_pos (by decide), if_pos (by decide), if_pos (by omega), if_pos (by omega), Option.bind_some, show rd [1, -1] 1 = -1 from rfl, List.length_replicate, Int.toNat_natCast]
      have := leastI_l2 l b (backL l f) n f (-1) [1, -1] 2 1 hl hn (by rw [backL_length, hl]) hb (by omega) (fun i hi => ⟨(f + n - i) % n, Nat.mod_lt _ (by omega), idx_back n f i hn (by omega) hi, by rw [backL_get l f i (by omega), hl]⟩) (d * 100 + 101) (leastF l d (f + 1) (bstep b (backL l f))) (by omega) (fun k hk => by
        rw [w64 (x := (1 : Int) + 1) (by omega) (by omega)]
        exact h3 _ (bstep_length _ _ _ hb (by rw [backL_length, hl])) k hk) n k 0 (List.replicate n 0) (by omega) (by omega) (by simp) (by simp)
      exact this
    simp only [impl_leastNumbers.l1]
    rw [if_pos (by simp), if_pos (by decide), if_pos (by decide), if_pos (by omega), if_pos (by omega), Option.bind_some, show rd [1, -1] 0 = 1 from rfl, List.length_replicate, Int.toNat_natCast]
    have := leastI_l2 l b (onL l f) n f 1 [1, -1] 2 0 hl hn (by rw [onL_length, hl]) hb (by omega) (fun i hi => ⟨(f + i) % n, Nat.mod_lt _ (by omega), idx_on n f i hn (by omega) hi, by rw [onL_get l f i (by omega), hl]⟩) (d * 100 + 130) (leastF l (d + 1) f b) (by omega) (fun k hk => by
      rw [w64 (x := (0 : Int) + 1) (by omega) (by omega)]
      exact h2 _ (bstep_length _ _ _ hb (by rw [onL_length, hl])) k hk) n k 0 (List.replicate n 0) (by omega) (by omega) (by simp) (by simp)
    exact this

theorem leastS_l1 (l b O B : List Int) (n f : Nat) (hl : l.length = n) (hn : n ≤ 9) (hf : f < n) (hO : O = onL l f) (hB : B = backL l f) (hb : b.length = n)
    (K0 : Nat) (R : List Int) (hK : 20 ≤ K0) (hc : ∀ k, K0 ≤ k → spec_duLeast.l0 k l (n : Int) (bstep (bstep b O) B) (wrap64 ((f : Int) + 1)) = some R) (d : Nat) : ∀ (k i : Nat) (y z : List Int), i + d = n → K0 + d + 1 ≤ k → y.length = n → z.length = n → y.take i = O.take i → z.take i = B.take i →
    spec_duLeast.l1 k l (n : Int) b (f : Int) y z (n : Int) (i : Int) = some R := by
  have hOl : O.length = n := by rw [hO, onL_length, hl]
  have hBl : B.length = n := by rw [hB, backL_length, hl]
  induction d with
  | zero =>
    intro k i y z hi hk hy hz hp hq
    obtain ⟨k, rfl⟩ : ∃ m, k = m + 1 := ⟨k - 1, by omega⟩
    rw [List.take_of_length_le (by omega), List.take_of_length_le (by omega)] at hp hq
    rw [hp, hq]
    have := hc k (by omega)
    simp only [spec_duLeast.l1]
    rw [if_neg (by omega), duBefore_eq k O b n hOl hb (by omega) (by omega), Option.bind_some]
    unfold bstep at this
    by_cases c : ltL O b = true
    · rw [if_pos c] at this
      rw [if_pos c, duBefore_eq k B O n hBl hOl (by omega) (by omega), Option.bind_some]
      by_cases e : ltL B O = true
      · rw [if_pos e] at this
        rw [if_pos e]
        exact this
      · rw [if_neg e] at this
        rw [if_neg e]
        exact this
    · rw [if_neg c] at this
      rw [if_neg c, duBefore_eq k B b n hBl hb (by omega) (by omega), Option.bind_some]
      by_cases e : ltL B b = true
      · rw [if_pos e] at this
        rw [if_pos e]
        exact this
      · rw [if_neg e] at this
        rw [if_neg e]
        exact this
  | succ d ih =>
    intro k i y z hi hk hy hz hp hq
    obtain ⟨k, rfl⟩ : ∃ m, k = m + 1 := ⟨k - 1, by omega⟩
    have m1 := Nat.mod_lt (f + i) (show 0 < n by omega)
    have m2 := Nat.mod_lt (f + n - i) (show 0 < n by omega)
    simp only [spec_duLeast.l1]
    rw [if_pos (by omega), if_neg (by omega), idxS_on n f i hn hf (by omega), idxS_back n f i hn hf (by omega), if_pos (by omega), if_pos (by omega), if_pos (by omega), if_pos (by omega), if_pos (by omega), if_pos (by omega), if_pos (by omega), w64 (x := (i : Int) + 1) (by omega) (by omega), Int.toNat_natCast]
    exact ih k (i + 1) _ _ (by omega) (by omega) (by simpa using hy) (by simpa using hz) (take_set_next y O i _ (by omega) hp (by rw [hO, onL_get l f i (by omega), hl])) (take_set_next z B i _ (by omega) hq (by rw [hB, backL_get l f i (by omega), hl]))
theorem leastS_l0 (l : List Int) (n : Nat) (hl : l.length = n) (hn : n ≤ 9) (d : Nat) : ∀ (k f : Nat) (b : List Int), f + d = n → d * 100 + 100 ≤ k → b.length = n →
    spec_duLeast.l0 k l (n : Int) b (f : Int) = some (leastF l d f b) := by
  induction d with
  | zero =>
    intro k f b hf hk hb
    obtain ⟨k, rfl⟩ : ∃ m, k = m + 1 := ⟨k - 1, by omega⟩
    simp only [spec_duLeast.l0]
    rw [if_neg (by omega)]
    rfl
  | succ d ih =>
    intro k f b hf hk hb
    rw [Nat.succ_mul] at hk
    obtain ⟨k, rfl⟩ : ∃ m, k = m + 1 := ⟨k - 1, by omega⟩
    simp only [spec_duLeast.l0]
    rw [if_pos (by omega), if_pos (by omega), if_pos (by omega), hl, Int.toNat_natCast]
    have := leastS_l1 l b (onL l f) (backL l f) n f hl hn (by omega) rfl rfl hb (d * 100 + 100) (leastF l (d + 1) f b) (by omega) (fun k hk => by
      rw [w64 (x := (f : Int) + 1) (by omega) (by omega)]
      exact ih k (f + 1) _ (by omega) hk (bstep_length _ _ _ (bstep_length _ _ _ hb (by rw [onL_length, hl])) (by rw [backL_length, hl]))) n k 0 (List.replicate n 0) (List.replicate n 0) (by omega) (by omega) (by simp) (by simp) (by simp) (by simp)
    exact this
theorem least_both (k : Nat) (hk : 2000 ≤ k) (l : List Int) (hl : l.length ≤ 9) : spec_duLeast.f k l = some (leastF l l.length 0 l) ∧ impl_leastNumbers.f k l = some (leastF l l.length 0 l) := by
  constructor
  · unfold spec_duLeast.f spec_l1Own.f
    simp only [Option.bind_some, List.nil_append, List.length_nil]
    rw [if_pos (by omega), Option.bind_some]
    exact leastS_l0 l l.length rfl hl l.length k 0 l (by omega) (by omega) rfl
  · unfold impl_leastNumbers.f
    exact leastI_l0 l l.length rfl hl l.length k 0 l (by omega) (by omega) rfl

theorem numsB_length {l : List Int} (h : numsB l = true) : 3 ≤ l.length ∧ l.length ≤ 9 := by
  unfold numsB at h
  rw [Bool.and_eq_true, decide_eq_true_eq] at h
  exact h.1

theorem cloneInt_eq (l : List Int) (hl : l.length ≤ 2000000) : slices_Clone_int_int.f l = some l := by
  unfold slices_Clone_int_int.f
  simp only [Option.bind_some, List.nil_append, List.length_nil]
  rw [if_pos (by omega)]

theorem ownInt_eq (l : List Int) (hl : l.length ≤ 2000000) : spec_l1Own.f l = some l := by
  unfold spec_l1Own.f
  simp only [Option.bind_some, List.nil_append, List.length_nil]
  rw [if_pos (by omega)]

/-- A 1 put in, and the two beside it made greater (as the reference does it, and as the program does it). -/
def putLS (l : List Int) (i : Nat) : List Int :=
  let y := l.take i ++ [1] ++ l.drop i
  let y1 := y.set ((i + l.length) % (l.length + 1)) (wrap64 (rd y (((i + l.length) % (l.length + 1) : Nat) : Int) + 1))
  y1.set ((i + 1) % (l.length + 1)) (wrap64 (rd y1 (((i + 1) % (l.length + 1) : Nat) : Int) + 1))
def putLI (l : List Int) (i : Nat) : List Int :=
  let y1 := l.set ((i + l.length - 1) % l.length) (wrap64 (rd l (((i + l.length - 1) % l.length : Nat) : Int) + 1))
  let y2 := y1.set (i % l.length) (wrap64 (rd y1 ((i % l.length : Nat) : Int) + 1))
  y2.take i ++ [1] ++ y2.drop i
theorem putLI_length (l : List Int) (i : Nat) : (putLI l i).length = l.length + 1 := by
  unfold putLI
  simp
  omega
theorem putL_eq (l : List Int) (i : Nat) (h3 : 3 ≤ l.length) (h8 : l.length ≤ 8) (hi : i ≤ l.length) : putLS l i = putLI l i := by
  have hc : i = 0 ∨ i = 1 ∨ i = 2 ∨ i = 3 ∨ i = 4 ∨ i = 5 ∨ i = 6 ∨ i = 7 ∨ i = 8 := by omega
  match l, h3, h8, hi with
  | [a, b, c], _, _, hi =>
    simp only [List.length_cons, List.length_nil] at hi
    rcases hc with rfl | rfl | rfl | rfl | rfl | rfl | rfl | rfl | rfl <;> first | (simp [putLS, putLI, rd]; done) | omega
  | [a, b, c, d], _, _, hi =>
    simp only [List.length_cons, List.length_nil] at hi
    rcases hc with rfl | rfl | rfl | rfl | rfl | rfl | rfl | rfl | rfl <;> first | (simp [putLS, putLI, rd]; done) | omega
  | [a, b, c, d, e], _, _, hi =>
    simp only [List.length_cons, List.length_nil] at hi
    rcases hc with rfl | rfl | rfl | rfl | rfl | rfl | rfl | rfl | rfl <;> first | (simp [putLS, putLI, rd]; done) | omega
  | [a, b, c, d, e, f], _, _, hi =>
    simp only [List.length_cons, List.length_nil] at hi
    rcases hc with rfl | rfl | rfl | rfl | rfl | rfl | rfl | rfl | rfl <;> first | (simp [putLS, putLI, rd]; done) | omega
  | [a, b, c, d, e, f, g], _, _, hi =>
    simp only [List.length_cons, List.length_nil] at hi
    rcases hc with rfl | rfl | rfl | rfl | rfl | rfl | rfl | rfl | rfl <;> first | (simp [putLS, putLI, rd]; done) | omega
  | [a, b, c, d, e, f, g, h], _, _, hi =>
    simp only [List.length_cons, List.length_nil] at hi
    rcases hc with rfl | rfl | rfl | rfl | rfl | rfl | rfl | rfl | rfl <;> first | (simp [putLS, putLI, rd]; done) | omega

theorem withOne_eq (l : List Int) (i : Nat) (h3 : 3 ≤ l.length) (h9 : l.length ≤ 9) (hi : i ≤ l.length) : impl_withOne.f l (i : Int) = some (putLI l i) := by
  unfold impl_withOne.f slices_Insert_int_int.f
  have m1 : (i + l.length - 1) % l.length < l.length := Nat.mod_lt _ (by omega)
  have m2 : i % l.length < l.length := Nat.mod_lt _ (by omega)
  have e1 : Int.tmod (wrap64 (wrap64 ((i : Int) - 1) + (l.length : Int))) (l.length : Int) = (((i + l.length - 1) % l.length : Nat) : Int) := by
    rw [w64 (x := (i : Int) - 1) (by omega) (by omega), w64 (by omega) (by omega), show (i : Int) - 1 + l.length = ((i + l.length - 1 : Nat) : Int) by omega]
    rfl
  have e2 : Int.tmod (i : Int) (l.length : Int) = ((i % l.length : Nat) : Int) := rfl
  rw [cloneInt_eq l (by omega), Option.bind_some, if_neg (by omega), e1, e2, if_pos (by omega), if_pos (by omega), Option.bind_some, if_pos (by omega), if_pos (by omega), if_pos (show ([1] : List Int).length = 1 from rfl), if_pos (by omega), if_pos (by simp; omega), if_pos (by simp; omega), if_pos (by simp; omega), Option.bind_some]
  simp only [Int.toNat_natCast]
  rfl

/-- The letters of a draw's text are bytes. -/
def bytesP (l : List Int) : Prop := l.length ≤ 9223372036854775807 ∧ ∀ x ∈ l, 0 ≤ x ∧ x ≤ 255
theorem and255 (x : Int) : 0 ≤ wrap64 (Go.bits .and .u64 x 255) ∧ wrap64 (Go.bits .and .u64 x 255) ≤ 255 := by
  obtain ⟨n, hn, e⟩ : ∃ n : Nat, n ≤ 255 ∧ Go.bits .and .u64 x 255 = IntKind.u64.wrap (n : Int) := by
    refine ⟨(BitVec.ofInt 64 x).toNat &&& 255, Nat.and_le_right, ?_⟩
    show IntKind.u64.wrap (((BitVec.ofInt 64 x &&& BitVec.ofInt 64 255).toNat : Nat) : Int) = _
    rw [BitVec.toNat_and, show (BitVec.ofInt 64 255).toNat = 255 from rfl]
  have e2 : IntKind.u64.wrap (n : Int) = n := by
    simp [IntKind.wrap, IntKind.bits, IntKind.signed]
    omega
  rw [e, e2, w64 (by omega) (by omega)]
  omega
theorem rd_byte (l : List Int) (h : bytesP l) (i : Int) : 0 ≤ rd l i ∧ rd l i ≤ 255 := by
  unfold rd
  by_cases c : i.toNat < l.length
  · rw [List.getD_eq_getElem?_getD, List.getElem?_eq_getElem c, Option.getD_some]
    exact h.2 _ (List.getElem_mem c)
  · rw [List.getD_eq_getElem?_getD, List.getElem?_eq_none (by omega)]
    decide
theorem next_some (l : List Int) (h : bytesP l) (at_ sd : Int) (ha : 0 ≤ at_ ∧ at_ ≤ 1000000) : ∃ b sd', spec_l1Cur_next.f l at_ sd = some (b, at_ + 1, sd') ∧ 0 ≤ b ∧ b ≤ 255 := by
  have hb := rd_byte l h at_
  have hl := h.1
  unfold spec_l1Cur_next.f
  rw [w64 (x := at_ + 1) (by omega) (by omega), w64 (x := rd l at_) (by omega) (by omega)]
  by_cases c : at_ < (l.length : Int)
  · rw [if_pos c, if_pos ha.1, if_pos (by omega)]
    exact ⟨_, _, rfl, hb⟩
  · rw [if_neg c, if_neg (by omega)]
    exact ⟨_, _, rfl, and255 _⟩
theorem pick_some (l : List Int) (h : bytesP l) (at_ sd n : Int) (ha : 0 ≤ at_ ∧ at_ ≤ 1000000) (hn : 2 ≤ n ∧ n ≤ 200) : ∃ b sd', spec_l1Cur_pick.f l at_ sd n = some (b, at_ + 1, sd') ∧ 0 ≤ b ∧ b < n := by
  obtain ⟨b, sd', e, h1, h2⟩ := next_some l h at_ sd ha
  unfold spec_l1Cur_pick.f
  rw [if_neg (by omega), e, Option.bind_some, if_neg (by omega), if_neg (by omega)]
  refine ⟨_, _, rfl, Int.tmod_nonneg _ h1, Int.tmod_lt_of_pos _ (by omega)⟩

theorem among_some (l : List Int) (h : bytesP l) (at_ sd : Int) (L : List Int) (ha : 0 ≤ at_ ∧ at_ ≤ 1000000) (hn : 2 ≤ L.length ∧ L.length ≤ 200) : ∃ b sd', spec_l1Cur_among.f l at_ sd L = some (b, at_ + 1, sd') := by
  obtain ⟨b, sd', e, h1, h2⟩ := pick_some l h at_ sd (L.length : Int) ha (by omega)
  unfold spec_l1Cur_among.f
  rw [e, Option.bind_some, if_pos h1, if_pos h2]
  exact ⟨_, _, rfl⟩

/-- The last two of the points that numbers make. -/
def mkP (l : List Int) : Nat → Nat → Int → Int → Int → Int → Int × Int × Int × Int
  | 0, _, a, b, c, d => (a, b, c, d)
  | n + 1, i, a, b, c, d => mkP l n (i + 1) c d (wrap64 (wrap64 (l.getD ((i + 1) % l.length) 0 * c) - a)) (wrap64 (wrap64 (l.getD ((i + 1) % l.length) 0 * d) - b))
/-- Are numbers around? -/
def aroundC (l : List Int) : Bool := (sumW l 0 == 3 * (l.length : Int) - 12) && (mkP l l.length 0 1 0 0 1 == (1, 0, 0, 1))
theorem mkP_loop (l : List Int) (hl : l.length ≤ 9) (d : Nat) : ∀ (k i : Nat) (x : List S63) (p q : S63), i + d = l.length → d < k → x.length = i + 2 → x[i]? = some p → x[i + 1]? = some q →
    ∃ (r : List S63) (P Q : S63), spec_duMake.l0 k l x (l.length : Int) (i : Int) = some r ∧ r.length = l.length + 2 ∧ (∀ j, j < i + 2 → r[j]? = x[j]?) ∧ mkP l d i p.f0 p.f1 q.f0 q.f1 = (P.f0, P.f1, Q.f0, Q.f1) ∧ r[l.length]? = some P ∧ r[l.length + 1]? = some Q := by
  induction d with
  | zero =>
    intro k i x p q hi hk hx hp hq
    obtain ⟨k, rfl⟩ : ∃ m, k = m + 1 := ⟨k - 1, by omega⟩
    obtain rfl : i = l.length := by omega
    refine ⟨x, p, q, ?_, hx, fun _ _ => rfl, rfl, hp, hq⟩
    simp only [spec_duMake.l0]
    rw [if_neg (by omega)]
  | succ d ih =>
    intro k i x p q hi hk hx hp hq
    obtain ⟨k, rfl⟩ : ∃ m, k = m + 1 := ⟨k - 1, by omega⟩
    have e1 : wrap64 ((i : Int) + 1) = ((i + 1 : Nat) : Int) := w64 (by omega) (by omega)
    have e2 : wrap64 ((x.length : Int) - 1) = ((i + 1 : Nat) : Int) := by rw [w64 (by omega) (by omega)]; omega
    have e3 : wrap64 ((x.length : Int) - 2) = (i : Int) := by rw [w64 (by omega) (by omega)]; omega
    have hn : (l.length : Int) ≠ 0 := by omega
    have hm : Int.tmod ((i + 1 : Nat) : Int) (l.length : Int) = (((i + 1) % l.length : Nat) : Int) := rfl
    have hlt : (i + 1) % l.length < l.length := Nat.mod_lt _ (by omega)
    have g1 : rd_T63 x (i : Int) = p := by
      unfold rd_T63
      rw [Int.toNat_natCast, List.getD_eq_getElem?_getD, hp]; rfl
    have g2 : rd_T63 x ((i + 1 : Nat) : Int) = q := by
      unfold rd_T63
      rw [Int.toNat_natCast, List.getD_eq_getElem?_getD, hq]; rfl
    have g3 : rd l (((i + 1) % l.length : Nat) : Int) = l.getD ((i + 1) % l.length) 0 := by
      unfold rd
      rw [Int.toNat_natCast]
    simp only [spec_duMake.l0]
    rw [e1, e2, e3, if_pos (by omega), if_neg hn, hm, if_pos (by omega), if_pos (by omega), if_pos (by omega), if_pos (by omega), if_pos (by omega), if_pos (by omega), if_pos (by omega), g1, g2, g3]
    obtain ⟨r, P, Q, h1, h2, h3, h4, h5, h6⟩ := ih k (i + 1) (x ++ [(⟨wrap64 (wrap64 (l.getD ((i + 1) % l.length) 0 * q.f0) - p.f0), wrap64 (wrap64 (l.getD ((i + 1) % l.length) 0 * q.f1) - p.f1)⟩ : S63)]) q _ (by omega) (by omega) (by simp; omega) (by rw [List.getElem?_append_left (by omega)]; exact hq) (by rw [List.getElem?_append_right (by omega), show i + 1 + 1 - x.length = 0 by omega]; rfl)
    refine ⟨r, P, Q, h1, h2, fun j hj => ?_, h4, h5, h6⟩
    rw [h3 j (by omega), List.getElem?_append_left (by omega)]
theorem rd_get (r : List S63) (i : Nat) (p : S63) (h : r[i]? = some p) : rd_T63 r (i : Int) = p := by
  unfold rd_T63
  rw [Int.toNat_natCast, List.getD_eq_getElem?_getD, h]; rfl
theorem around_both (k : Nat) (hk : 30 ≤ k) (l : List Int) (hl : l.length ≤ 9) : impl_areAround.f k l = some (aroundC l) ∧ spec_duIs.f k l = some (aroundC l) := by
  obtain ⟨h1, _⟩ := areAround_eq k hk l hl
  obtain ⟨r, hr1, hr2, hr3⟩ := pegsBy_eq l hl
  have h2 := duIs_eq k (by omega) l hl r hr1 hr3
  obtain ⟨r', P, Q, q1, q2, q3, q4, q5, q6⟩ := mkP_loop l hl l.length 10 0 [⟨1, 0⟩, ⟨0, 1⟩] ⟨1, 0⟩ ⟨0, 1⟩ (by omega) (by omega) rfl rfl rfl
  have er : r' = r := by
    have := hr1 10 (by omega)
    unfold spec_duMake.f at this
    exact Option.some.inj (q1.symm.trans this)
  subst er
  have e : isAroundB l r' = aroundC l := by
    unfold isAroundB aroundC
    have e0 : rd_T63 r' 0 = ⟨1, 0⟩ := rd_get r' 0 _ ((q3 0 (by omega)).trans rfl)
    have e1 : rd_T63 r' 1 = ⟨0, 1⟩ := rd_get r' 1 _ ((q3 1 (by omega)).trans rfl)
    have e2 := rd_get r' l.length P q5
    have e3 : rd_T63 r' ((l.length : Int) + 1) = Q := rd_get r' (l.length + 1) Q q6
    rw [e0, e1, e2, e3, q4]
    have e4 : ((P.f0, P.f1, Q.f0, Q.f1) == ((1, 0, 0, 1) : Int × Int × Int × Int)) = ((P.f0 == 1 && P.f1 == 0) && (Q.f0 == 0 && Q.f1 == 1)) := by
      rw [Bool.eq_iff_iff]
      simp only [beq_iff_eq, Prod.mk.injEq, Bool.and_eq_true]
      exact ⟨fun h => ⟨⟨h.1, h.2.1⟩, h.2.2.1, h.2.2.2⟩, fun h => ⟨h.1.1, h.1.2, h.2.1, h.2.2⟩⟩
    rw [e4, Bool.and_comm]
  rw [h1, h2, e]
  exact ⟨rfl, rfl⟩

theorem same_loop (A B : List Int) (hA : A.length ≤ 100000) (hAB : A.length = B.length) (d : Nat) : ∀ (k i : Nat), i + d = A.length → d < k → spec_l1Same.l0 k A B (A.length : Int) (i : Int) = some (A.drop i == B.drop i) := by
  induction d with
  | zero =>
    intro k i hi hk
    obtain ⟨k, rfl⟩ : ∃ m, k = m + 1 := ⟨k - 1, by omega⟩
    simp only [spec_l1Same.l0]
    rw [if_neg (by omega), List.drop_of_length_le (by omega), List.drop_of_length_le (by omega)]
    rfl
  | succ d ih =>
    intro k i hi hk
    obtain ⟨k, rfl⟩ : ∃ m, k = m + 1 := ⟨k - 1, by omega⟩
    have h1 : i < A.length := by omega
    have h2 : i < B.length := by omega
    simp only [spec_l1Same.l0]
    rw [if_pos (by omega), if_pos (by omega), if_pos (by omega), if_pos (by omega), rdNat A i h1, rdNat B i h2, w64 (x := (i : Int) + 1) (by omega) (by omega), List.drop_eq_getElem_cons h1, List.drop_eq_getElem_cons h2]
    by_cases c : A[i] = B[i]
    · have := ih k (i + 1) (by omega) (by omega)
      rw [if_pos c, show (i : Int) + 1 = ((i + 1 : Nat) : Int) by omega, this, c]
      congr 1
      rw [Bool.eq_iff_iff, beq_iff_eq, beq_iff_eq, List.cons.injEq]
      exact ⟨fun h => ⟨rfl, h⟩, fun h => h.2⟩
    · rw [if_neg c]
      congr 1
      symm
      rw [beq_eq_false_iff_ne]
      intro h
      exact c (List.cons.inj h).1
theorem sameL_eq (k : Nat) (A B : List Int) (hA : A.length ≤ 100000) (hk : A.length < k) : spec_l1Same.f k A B = some (A == B) := by
  unfold spec_l1Same.f
  by_cases c : A.length = B.length
  · rw [if_pos (by omega)]
    have := same_loop A B hA c A.length k 0 (by omega) hk
    simpa using this
  · rw [if_neg (by omega)]
    congr 1
    symm
    rw [beq_eq_false_iff_ne]
    intro h
    exact c (by rw [h])
theorem equal_loop (A B : List Int) (hA : A.length ≤ 100000) (hAB : A.length = B.length) (d : Nat) : ∀ (k i : Nat), i + d = A.length → d < k → slices_Equal_int_int.l0 k A B (A.length : Int) (i : Int) = some (A.drop i == B.drop i) := by
  induction d with
  | zero =>
    intro k i hi hk
    obtain ⟨k, rfl⟩ : ∃ m, k = m + 1 := ⟨k - 1, by omega⟩
    simp only [slices_Equal_int_int.l0]
    rw [if_neg (by omega), List.drop_of_length_le (by omega), List.drop_of_length_le (by omega)]
    rfl
  | succ d ih =>
    intro k i hi hk
    obtain ⟨k, rfl⟩ : ∃ m, k = m + 1 := ⟨k - 1, by omega⟩
    have h1 : i < A.length := by omega
    have h2 : i < B.length := by omega
    simp only [slices_Equal_int_int.l0]
    rw [if_pos (by omega), if_pos (by omega), if_pos (by omega), if_pos (by omega), rdNat A i h1, rdNat B i h2, w64 (x := (i : Int) + 1) (by omega) (by omega), List.drop_eq_getElem_cons h1, List.drop_eq_getElem_cons h2]
    by_cases c : A[i] = B[i]
    · have := ih k (i + 1) (by omega) (by omega)
      rw [if_pos c, show (i : Int) + 1 = ((i + 1 : Nat) : Int) by omega, this, c]
      congr 1
      rw [Bool.eq_iff_iff, beq_iff_eq, beq_iff_eq, List.cons.injEq]
      exact ⟨fun h => ⟨rfl, h⟩, fun h => h.2⟩
    · rw [if_neg c]
      congr 1
      symm
      rw [beq_eq_false_iff_ne]
      intro h
      exact c (List.cons.inj h).1
theorem equal_eq (k : Nat) (A B : List Int) (hA : A.length ≤ 100000) (hk : A.length < k) : slices_Equal_int_int.f k A B = some (A == B) := by
  unfold slices_Equal_int_int.f
  by_cases c : A.length = B.length
  · rw [if_pos (by omega)]
    have := equal_loop A B hA c A.length k 0 (by omega) hk
    simpa using this
  · rw [if_neg (by omega)]
    congr 1
    symm
    rw [beq_eq_false_iff_ne]
    intro h
    exact c (by rw [h])

theorem containsN_loop (s : List (List Int)) (t : List Int) (hs : s.length ≤ 1000000) (hl : ∀ x ∈ s, x.length ≤ 9) (d : Nat) : ∀ (k i : Nat), i + d = s.length → d + 20 < k → ∃ m, slices_IndexFunc_int_int_58.l0 k s (s.length : Int) (i : Int) t = some m ∧ decide (m ≥ 0) = (s.drop i).any (fun x => x == t) := by
  induction d with
  | zero =>
    intro k i hi hk
    obtain ⟨k, rfl⟩ : ∃ m, k = m + 1 := ⟨k - 1, by omega⟩
    simp only [slices_IndexFunc_int_int_58.l0]
    rw [if_neg (by omega), List.drop_of_length_le (by omega)]
    exact ⟨_, rfl, rfl⟩
  | succ d ih =>
    intro k i hi hk
    obtain ⟨k, rfl⟩ : ∃ m, k = m + 1 := ⟨k - 1, by omega⟩
    have h1 : i < s.length := by omega
    have hx : rd_L2 s (i : Int) = s[i] := by
      unfold rd_L2
      rw [Int.toNat_natCast, List.getD_eq_getElem?_getD, List.getElem?_eq_getElem h1]; rfl
    have hxl := hl s[i] (List.getElem_mem h1)
    simp only [slices_IndexFunc_int_int_58.l0]
    unfold impl_allAround_1_1.f
    rw [if_pos (by omega), if_pos (by omega), if_pos (by omega), hx, equal_eq k s[i] t (by omega) (by omega), Option.bind_some, Option.bind_some, List.drop_eq_getElem_cons h1, List.any_cons, w64 (x := (i : Int) + 1) (by omega) (by omega)]
    by_cases c : (s[i] == t) = true
    · rw [if_pos c, c]
      exact ⟨_, rfl, by rw [Bool.true_or, decide_eq_true_eq]; omega⟩
    · rw [if_neg c, Bool.eq_false_iff.2 c, Bool.false_or]
      exact ih k (i + 1) (by omega) (by omega)
theorem containsN_eq (k : Nat) (s : List (List Int)) (t : List Int) (hs : s.length ≤ 1000000) (hl : ∀ x ∈ s, x.length ≤ 9) (hk : s.length + 20 < k) : slices_ContainsFunc_int_int_41.f k s t = some (s.any (fun x => x == t)) := by
  obtain ⟨m, h1, h2⟩ := containsN_loop s t hs hl s.length k 0 (by omega) hk
  unfold slices_ContainsFunc_int_int_41.f slices_IndexFunc_int_int_58.f
  rw [show (0 : Int) = ((0 : Nat) : Int) from rfl, h1, Option.bind_some]
  rw [List.drop_zero] at h2
  exact congrArg some h2

/-- A list put to those that were found. -/
def putC (s : List (List Int)) (l : List Int) : List (List Int) := if (numsB l && aroundC l) = true then (if s.any (fun x => x == leastF l l.length 0 l) = true then s else s ++ [leastF l l.length 0 l]) else s
theorem putC_length (s : List (List Int)) (l : List Int) : (putC s l).length ≤ s.length + 1 ∧ s.length ≤ (putC s l).length := by
  unfold putC
  split
  · split
    · omega
    · simp
  · omega
theorem putC_short (s : List (List Int)) (l : List Int) (hs : ∀ x ∈ s, x.length ≤ 9) : ∀ x ∈ putC s l, x.length ≤ 9 := by
  intro x hx
  unfold putC at hx
  split at hx
  · rename_i c
    rw [Bool.and_eq_true] at c
    have hn := numsB_length c.1
    split at hx
    · exact hs x hx
    · rcases List.mem_append.1 hx with hx | hx
      · exact hs x hx
      · have : x = leastF l l.length 0 l := by simpa using hx
        rw [this, leastF_length l l.length 0 l rfl]
        exact hn.2
  · exact hs x hx
theorem putC_eq (k : Nat) (l : List Int) (s : List (List Int)) (hs : s.length ≤ 1000000) (hl : ∀ x ∈ s, x.length ≤ 9) (hk : s.length + 3000 ≤ k) : impl_allAround_1.f k l s = some (putC s l) := by
  unfold impl_allAround_1.f putC
  rw [areNumbers_eq k (by omega), Option.bind_some]
  by_cases c1 : numsB l = true
  · have hn := numsB_length c1
    rw [if_pos c1, (around_both k (by omega) l hn.2).1, Option.bind_some, c1, Bool.true_and]
    by_cases c2 : aroundC l = true
    · rw [if_pos c2, if_pos c2, (least_both k (by omega) l hn.2).2, Option.bind_some, containsN_eq k s _ hs hl (by omega), Option.bind_some]
      by_cases c3 : s.any (fun x => x == leastF l l.length 0 l) = true
      · rw [if_pos c3, if_pos c3]
      · rw [if_neg c3, if_neg c3, if_pos (by omega)]
    · rw [if_neg c2, if_neg c2]
  · rw [if_neg c1, Bool.eq_false_iff.2 c1, Bool.false_and, if_neg (by decide)]

/-- The numbers from 3 - d up to 2. -/
def upTo : Nat → List Int
  | 0 => []
  | d + 1 => (2 - (d : Int)) :: upTo d
def listsC : Nat → List Int → List (List Int) → List (List Int)
  | 0, l, s => putC s l
  | r + 1, l, s => (upTo 9).foldl (fun s x => listsC r (l ++ [x]) s) s
theorem fold_length {f : List (List Int) → Int → List (List Int)} {B : Nat} (h : ∀ s x, (f s x).length ≤ s.length + B) (xs : List Int) : ∀ s, (xs.foldl f s).length ≤ s.length + xs.length * B := by
  induction xs with
  | nil => intro s; simp
  | cons x xs ih =>
    intro s
    have h1 := ih (f s x)
    have h2 := h s x
    rw [List.foldl_cons, List.length_cons, Nat.succ_mul]
    omega
theorem listsC_length (r : Nat) : ∀ l s, (listsC r l s).length ≤ s.length + 9 ^ r := by
  induction r with
  | zero => intro l s; exact (putC_length s l).1
  | succ r ih =>
    intro l s
    have := fold_length (f := fun s x => listsC r (l ++ [x]) s) (B := 9 ^ r) (fun s x => ih (l ++ [x]) s) (upTo 9) s
    unfold listsC
    rw [Nat.pow_succ, Nat.mul_comm]
    exact this
theorem fold_short {f : List (List Int) → Int → List (List Int)} (h : ∀ s x, (∀ y ∈ s, y.length ≤ 9) → ∀ y ∈ f s x, y.length ≤ 9) (xs : List Int) : ∀ s, (∀ y ∈ s, y.length ≤ 9) → ∀ y ∈ xs.foldl f s, y.length ≤ 9 := by
  induction xs with
  | nil => intro s hs; exact hs
  | cons x xs ih => intro s hs; exact ih (f s x) (h s x hs)
theorem listsC_short (r : Nat) : ∀ l s, (∀ y ∈ s, y.length ≤ 9) → ∀ y ∈ listsC r l s, y.length ≤ 9 := by
  induction r with
  | zero => intro l s hs; exact putC_short s l hs
  | succ r ih => intro l s hs; exact fold_short (f := fun s x => listsC r (l ++ [x]) s) (fun s x hs => ih (l ++ [x]) s hs) (upTo 9) s hs
theorem lists_eq (n : Nat) (hn : n ≤ 4) (r : Nat) : ∀ (k : Nat) (l : List Int) (s : List (List Int)), l.length + r = n → s.length + 9 ^ r ≤ 100000 → (∀ y ∈ s, y.length ≤ 9) → 110000 + 20 * r ≤ k → impl_lists.f k l (n : Int) s = some (listsC r l s) := by
  induction r with
  | zero =>
    intro k l s hl hs hsh hk
    obtain ⟨k, rfl⟩ : ∃ m, k = m + 1 := ⟨k - 1, by omega⟩
    simp only [impl_lists.f]
    rw [if_pos (by omega), putC_eq k l s (by omega) hsh (by omega)]
    rfl
  | succ r ih =>
    intro k l s hl hs hsh hk
    rw [Nat.pow_succ] at hs
    obtain ⟨k, rfl⟩ : ∃ m, k = m + 1 := ⟨k - 1, by omega⟩
    simp only [impl_lists.f]
    rw [if_neg (by omega)]
    have loop : ∀ (d k : Nat) (s : List (List Int)), d ≤ 9 → s.length + d * 9 ^ r ≤ 100000 → (∀ y ∈ s, y.length ≤ 9) → 110000 + 20 * r + d + 1 ≤ k → impl_lists.l0 k l (n : Int) s (3 - (d : Int)) = some ((upTo d).foldl (fun s x => listsC r (l ++ [x]) s) s) := by
      intro d
      induction d with
      | zero =>
        intro k s _ _ _ hk
        obtain ⟨k, rfl⟩ : ∃ m, k = m + 1 := ⟨k - 1, by omega⟩
        simp only [impl_lists.l0]
        rw [if_neg (by omega)]
        rfl
      | succ d ihd =>
        intro k s hd hs hsh hk
        rw [Nat.succ_mul] at hs
        obtain ⟨k, rfl⟩ : ∃ m, k = m + 1 := ⟨k - 1, by omega⟩
        have e : (3 : Int) - ((d + 1 : Nat) : Int) = 2 - (d : Int) := by omega
        have h1 := listsC_length r (l ++ [2 - (d : Int)]) s
        simp only [impl_lists.l0]
        rw [e, if_pos (by omega), if_pos (by omega), ih k (l ++ [2 - (d : Int)]) s (by simp; omega) (by omega) hsh (by omega), Option.bind_some, w64 (x := (2 - (d : Int)) + 1) (by omega) (by omega), show 2 - (d : Int) + 1 = 3 - (d : Int) by omega]
        exact ihd k _ (by omega) (by omega) (listsC_short r _ s hsh) (by omega)
    exact loop 9 k s (by omega) (by omega) hsh (by omega)

def rowC (n : Nat) (s : List (List Int)) (row : List Int) : List (List Int) := (List.range n).foldl (fun s j => putC s (putLI row j)) s
theorem row_in (n : Nat) (hn : n ≤ 9) (L : List (List Int)) (i : Nat) (row : List Int) (h3 : 3 ≤ row.length) (h9 : n = row.length + 1) (K0 : Nat) (hK0 : 4000 ≤ K0) (R : List (List Int)) (d : Nat) : ∀ (k j : Nat) (s : List (List Int)), j + d = n → s.length + d ≤ 900 → (∀ y ∈ s, y.length ≤ 9) → K0 + d + 1 ≤ k →
    (∀ k, K0 ≤ k → impl_allAround.l0 k (n : Int) (((List.range n).drop j).foldl (fun s j => putC s (putLI row j)) s) L (wrap64 ((i : Int) + 1)) = some R) → impl_allAround.l1 k (n : Int) s L (i : Int) row (j : Int) = some R := by
  induction d with
  | zero =>
    intro k j s hj hs hsh hk hc
    obtain ⟨k, rfl⟩ : ∃ m, k = m + 1 := ⟨k - 1, by omega⟩
    simp only [impl_allAround.l1]
    rw [if_neg (by omega)]
    have := hc k (by omega)
    rw [List.drop_of_length_le (by simp; omega)] at this
    exact this
  | succ d ih =>
    intro k j s hj hs hsh hk hc
    obtain ⟨k, rfl⟩ : ∃ m, k = m + 1 := ⟨k - 1, by omega⟩
    have h1 := (putC_length s (putLI row j)).1
    simp only [impl_allAround.l1]
    rw [if_pos (by omega), withOne_eq row j h3 (by omega) (by omega), Option.bind_some, putC_eq k _ s (by omega) hsh (by omega), Option.bind_some, w64 (x := (j : Int) + 1) (by omega) (by omega)]
    refine ih k (j + 1) (putC s (putLI row j)) (by omega) (by omega) (putC_short s _ hsh) (by omega) (fun k hk => ?_)
    have := hc k hk
    rw [List.drop_eq_getElem_cons (by simp; omega), List.foldl_cons, List.getElem_range] at this
    exact this
theorem rowC_length (n : Nat) (s : List (List Int)) (row : List Int) : (rowC n s row).length ≤ s.length + n := by
  unfold rowC
  have : ∀ (js : List Nat) (s : List (List Int)), (js.foldl (fun s j => putC s (putLI row j)) s).length ≤ s.length + js.length := by
    intro js
    induction js with
    | nil => intro s; simp
    | cons j js ih =>
      intro s
      have h1 := ih (putC s (putLI row j))
      have h2 := (putC_length s (putLI row j)).1
      rw [List.foldl_cons, List.length_cons]
      omega
  simpa using this (List.range n) s
theorem rowC_short (n : Nat) (s : List (List Int)) (row : List Int) (hs : ∀ y ∈ s, y.length ≤ 9) : ∀ y ∈ rowC n s row, y.length ≤ 9 := by
  unfold rowC
  have : ∀ (js : List Nat) (s : List (List Int)), (∀ y ∈ s, y.length ≤ 9) → ∀ y ∈ js.foldl (fun s j => putC s (putLI row j)) s, y.length ≤ 9 := by
    intro js
    induction js with
    | nil => intro s h; exact h
    | cons j js ih => intro s h; exact ih _ (putC_short s _ h)
  exact this (List.range n) s hs
theorem rows_loop (n : Nat) (hn : n ≤ 9) (h4 : 4 < n) (L : List (List Int)) (hL : L.length ≤ 20) (hLr : ∀ row ∈ L, row.length + 1 = n) (d : Nat) : ∀ (k i : Nat) (s : List (List Int)), i + d = L.length → s.length + d * 9 ≤ 800 → (∀ y ∈ s, y.length ≤ 9) → 4000 + d * 20 + 1 ≤ k → 0 < ((L.drop i).foldl (rowC n) s).length →
    impl_allAround.l0 k (n : Int) s L (i : Int) = some (sortN ((L.drop i).foldl (rowC n) s)) := by
  induction d with
  | zero =>
    intro k i s hi hs hsh hk hpos
    obtain ⟨k, rfl⟩ : ∃ m, k = m + 1 := ⟨k - 1, by omega⟩
    simp only [impl_allAround.l0]
    rw [List.drop_of_length_le (by omega)] at hpos ⊢
    have hpos : 0 < s.length := hpos
    rw [if_neg (by omega), if_pos hpos, if_pos (by omega)]
    rfl
  | succ d ih =>
    intro k i s hi hs hsh hk hpos
    obtain ⟨k, rfl⟩ : ∃ m, k = m + 1 := ⟨k - 1, by omega⟩
    have hlt : i < L.length := by omega
    have hrow := hLr L[i] (List.getElem_mem hlt)
    have hx : L.getD ((i : Int)).toNat ([] : List Int) = L[i] := by rw [Int.toNat_natCast, List.getD_eq_getElem?_getD, List.getElem?_eq_getElem hlt]; rfl
    have h1 := rowC_length n s L[i]
    rw [List.drop_eq_getElem_cons hlt, List.foldl_cons] at hpos ⊢
    simp only [impl_allAround.l0]
    rw [if_pos (by omega), if_pos (by omega), hx]
    refine row_in n hn L i L[i] (by omega) (by omega) (4000 + d * 20 + 1) (by omega) _ n k 0 s (by omega) (by omega) hsh (by omega) (fun k hk => ?_)
    rw [List.drop_zero, w64 (x := (i : Int) + 1) (by omega) (by omega)]
    exact ih k (i + 1) (rowC n s L[i]) (by omega) (by omega) (rowC_short n s _ hsh) hk hpos

def frmC : List Int → Int
  | [] => -6
  | x :: _ => x
def skipC (n : Nat) (r : Nat) (b : List Int) (s x : Int) : Bool := decide (s + x + 2 * (r : Int) < 3 * (n : Int) - 12) || decide (s + x + (r : Int) * (if b = [] then x else frmC b) > 3 * (n : Int) - 12)
def duC (n : Nat) : Nat → List Int → Int → List (List Int)
  | 0, b, s => if (s == 3 * (n : Int) - 12 && (aroundC b && (leastF b b.length 0 b == b))) = true then [b] else []
  | r + 1, b, s => (upTo (3 - frmC b).toNat).flatMap fun x => if skipC n r b s x = true then [] else duC n r (b ++ [x]) (s + x)
theorem upTo_length (d : Nat) : (upTo d).length = d := by
  induction d with
  | zero => rfl
  | succ d ih => unfold upTo; rw [List.length_cons, ih]
theorem flat_length {f : Int → List (List Int)} {B : Nat} (h : ∀ x, (f x).length ≤ B) (xs : List Int) : (xs.flatMap f).length ≤ xs.length * B := by
  induction xs with
  | nil => simp
  | cons x xs ih =>
    have := h x
    rw [List.flatMap_cons, List.length_append, List.length_cons, Nat.succ_mul]
    omega
theorem duC_length (n : Nat) (r : Nat) : ∀ b s, (∀ y ∈ b, -6 ≤ y) → (duC n r b s).length ≤ 9 ^ r := by
  induction r with
  | zero =>
    intro b s _
    unfold duC
    split <;> simp
  | succ r ih =>
    intro b s hb
    have hf : (3 - frmC b).toNat ≤ 9 := by
      cases b with
      | nil => decide
      | cons y b => have := hb y (by simp); show (3 - y).toNat ≤ 9; omega
    have key : ∀ d, d ≤ 9 → ((upTo d).flatMap fun x => if skipC n r b s x = true then [] else duC n r (b ++ [x]) (s + x)).length ≤ d * 9 ^ r := by
      intro d
      induction d with
      | zero => intro _; simp [upTo]
      | succ d ihd =>
        intro hd
        have h1 := ihd (by omega)
        unfold upTo
        rw [List.flatMap_cons, List.length_append, Nat.succ_mul]
        have h2 : (if skipC n r b s (2 - (d : Int)) = true then [] else duC n r (b ++ [2 - (d : Int)]) (s + (2 - (d : Int)))).length ≤ 9 ^ r := by
          split
          · simp
          · refine ih _ _ (fun y hy => ?_)
            rcases List.mem_append.1 hy with hy | hy
            · exact hb y hy
            · have : y = 2 - (d : Int) := by simpa using hy
              omega
        omega
    unfold duC
    have h1 := key _ hf
    have h2 : (3 - frmC b).toNat * 9 ^ r ≤ 9 * 9 ^ r := Nat.mul_le_mul_right _ hf
    rw [Nat.pow_succ]
    omega
theorem duAll_eq (n : Nat) (hn : n ≤ 9) (r : Nat) : ∀ (k : Nat) (b : List Int) (s : Int) (out : List (List Int)), b.length + r = n → (∀ y ∈ b, -6 ≤ y ∧ y ≤ 2) → (-100 + 6 * (r : Int) ≤ s ∧ s ≤ 100 - 2 * (r : Int)) → out.length + 9 ^ r ≤ 1000000000 → 3000 + 40 * r ≤ k → spec_duAll.f k (n : Int) b s out = some (out ++ duC n r b s) := by
  induction r with
  | zero =>
    intro k b s out hb hy hs ho hk
    obtain ⟨k, rfl⟩ : ∃ m, k = m + 1 := ⟨k - 1, by omega⟩
    simp only [spec_duAll.f]
    rw [if_pos (by omega), w64 (x := 3 * (n : Int)) (by omega) (by omega), w64 (x := 3 * (n : Int) - 12) (by omega) (by omega)]
    unfold duC
    by_cases c1 : s = 3 * (n : Int) - 12
    · rw [if_pos c1, (around_both k (by omega) b (by omega)).2, Option.bind_some, beq_iff_eq.mpr c1, Bool.true_and]
      by_cases c2 : aroundC b = true
      · rw [if_pos c2, (least_both k (by omega) b (by omega)).1, Option.bind_some, sameL_eq k _ b (by rw [leastF_length b b.length 0 b rfl]; omega) (by rw [leastF_length b b.length 0 b rfl]; omega), Option.bind_some, c2, Bool.true_and]
        by_cases c3 : (leastF b b.length 0 b == b) = true
        · rw [if_pos c3, if_pos c3, ownInt_eq b (by omega), Option.bind_some, if_pos (by omega)]
        · rw [if_neg c3, if_neg c3, List.append_nil]
      · rw [if_neg c2, Bool.eq_false_iff.2 c2, Bool.false_and, if_neg (by decide), List.append_nil]
    · rw [if_neg c1, beq_eq_false_iff_ne.mpr c1, Bool.false_and, if_neg (by decide), List.append_nil]
  | succ r ih =>
    intro k b s out hb hy hs ho hk
    rw [Nat.pow_succ] at ho
    obtain ⟨k, rfl⟩ : ∃ m, k = m + 1 := ⟨k - 1, by omega⟩
    have hfr : -6 ≤ frmC b ∧ frmC b ≤ 2 := by
      cases b with
      | nil => exact ⟨by decide, by decide⟩
      | cons y b => exact hy y (by simp)
    have loop : ∀ (d k : Nat) (o : List (List Int)), d ≤ 9 → o.length + d * 9 ^ r ≤ 1000000000 → 3000 + 40 * r + 3 * d + 1 ≤ k → spec_duAll.l0 k (n : Int) b s o (frmC b) (3 - (d : Int)) = some (o ++ ((upTo d).flatMap fun x => if skipC n r b s x = true then [] else duC n r (b ++ [x]) (s + x))) := by
      intro d
      induction d with
      | zero =>
        intro k o _ _ hk
        obtain ⟨k, rfl⟩ : ∃ m, k = m + 1 := ⟨k - 1, by omega⟩
        simp only [spec_duAll.l0]
        rw [if_neg (by omega)]
        simp [upTo]
      | succ d ihd =>
        intro k o hd ho hk
        rw [Nat.succ_mul] at ho
        obtain ⟨k, rfl⟩ : ∃ m, k = m + 3 := ⟨k - 3, by omega⟩
        obtain ⟨x, hx⟩ : ∃ x : Int, x = 2 - (d : Int) := ⟨_, rfl⟩
        have e : (3 : Int) - ((d + 1 : Nat) : Int) = x := by omega
        have hup : upTo (d + 1) = x :: upTo d := by rw [hx]; rfl
        have hleft : wrap64 (wrap64 ((n : Int) - 1) - (b.length : Int)) = (r : Int) := by
          rw [w64 (x := (n : Int) - 1) (by omega) (by omega), w64 (by omega) (by omega)]
          omega
        have hnext : ∀ (k : Nat) (o : List (List Int)), o.length + d * 9 ^ r ≤ 1000000000 → 3000 + 40 * r + 3 * d + 1 ≤ k → spec_duAll.l0 k (n : Int) b s o (frmC b) (wrap64 (x + 1)) = some (o ++ ((upTo d).flatMap fun x => if skipC n r b s x = true then [] else duC n r (b ++ [x]) (s + x))) := fun k o ho hk => by
          rw [w64 (x := x + 1) (by omega) (by omega), show x + 1 = 3 - (d : Int) by omega]
          exact ihd k o (by omega) ho hk
        have hj3 : ∀ q : Bool, q = skipC n r b s x → spec_duAll.j3 (k + 1) (n : Int) b s o (frmC b) x q = some (o ++ ((if skipC n r b s x = true then [] else duC n r (b ++ [x]) (s + x)) ++ ((upTo d).flatMap fun x => if skipC n r b s x = true then [] else duC n r (b ++ [x]) (s + x)))) := by
          intro q hq
          simp only [spec_duAll.j3]
          by_cases c : q = true
          · rw [if_pos c, if_pos (by rw [← hq]; exact c), List.nil_append]
            exact hnext k o (by omega) (by omega)
          · have hlen := duC_length n r (b ++ [x]) (s + x) (fun y hyy => by
              rcases List.mem_append.1 hyy with hyy | hyy
              · exact (hy y hyy).1
              · have : y = x := by simpa using hyy
                omega)
            rw [if_neg c, if_neg (by rw [← hq]; exact c), ownInt_eq b (by omega), Option.bind_some, if_pos (by omega), w64 (x := s + x) (by omega) (by omega), ih k (b ++ [x]) (s + x) o (by simp; omega) (fun y hyy => by
              rcases List.mem_append.1 hyy with hyy | hyy
              · exact hy y hyy
              · have : y = x := by simpa using hyy
                omega) (by omega) (by omega) (by omega), Option.bind_some, hnext k _ (by rw [List.length_append]; omega) (by omega), List.append_assoc]
        have hj2 : ∀ low : Int, (low = if b = [] then x else frmC b) → spec_duAll.j2 (k + 2) (n : Int) b s o (frmC b) x (r : Int) low = some (o ++ ((if skipC n r b s x = true then [] else duC n r (b ++ [x]) (s + x)) ++ ((upTo d).flatMap fun x => if skipC n r b s x = true then [] else duC n r (b ++ [x]) (s + x)))) := by
          intro low hlow
          have hlb : -6 ≤ low ∧ low ≤ 2 := by
            rw [hlow]
            split
            · omega
            · exact hfr
          have hr9 : r ≤ 9 := by omega
          have hmul := mul_bd (x := (r : Int)) (y := low) 9 6 (by omega) (by omega)
          simp only [spec_duAll.j2]
          rw [w64 (x := s + x) (by omega) (by omega), w64 (x := 2 * (r : Int)) (by omega) (by omega), w64 (x := s + x + 2 * (r : Int)) (by omega) (by omega), w64 (x := 3 * (n : Int)) (by omega) (by omega), w64 (x := 3 * (n : Int) - 12) (by omega) (by omega), w64 (x := (r : Int) * low) (by omega) (by omega), w64 (x := s + x + (r : Int) * low) (by omega) (by omega)]
          by_cases c : s + x + 2 * (r : Int) < 3 * (n : Int) - 12
          · rw [if_pos c]
            refine hj3 true ?_
            unfold skipC
            rw [decide_eq_true c, Bool.true_or]
          · rw [if_neg c]
            refine hj3 _ ?_
            unfold skipC
            rw [decide_eq_false c, Bool.false_or, ← hlow]
        simp only [spec_duAll.l0]
        rw [e, if_pos (by omega), hleft, hup, List.flatMap_cons]
        by_cases cb : b.length = 0
        · rw [if_pos (by omega)]
          refine hj2 x ?_
          rw [if_pos (List.length_eq_zero_iff.1 cb)]
        · rw [if_neg (by omega)]
          refine hj2 (frmC b) ?_
          rw [if_neg (fun h => cb (by rw [h]; rfl))]
    have hstart : ∀ k, 3000 + 40 * r + 29 ≤ k → spec_duAll.j0 k (n : Int) b s out (frmC b) = some (out ++ duC n (r + 1) b s) := by
      intro k hk
      obtain ⟨k, rfl⟩ : ∃ m, k = m + 1 := ⟨k - 1, by omega⟩
      simp only [spec_duAll.j0]
      have hd : (3 - frmC b).toNat ≤ 9 := by omega
      have hm : (3 - frmC b).toNat * 9 ^ r ≤ 9 * 9 ^ r := Nat.mul_le_mul_right _ hd
      have := loop (3 - frmC b).toNat k out hd (by omega) (by omega)
      rw [show (3 : Int) - ((3 - frmC b).toNat : Int) = frmC b by omega] at this
      rw [this]
      rfl
    simp only [spec_duAll.f]
    rw [if_neg (by omega)]
    cases b with
    | nil =>
      rw [if_neg (by simp)]
      exact hstart k (by omega)
    | cons y b =>
      rw [if_pos (by simp), if_pos (by simp)]
      exact hstart k (by omega)

theorem du3 : duC 3 3 [] 0 = [[-1, -1, -1]] := by decide +kernel
theorem du4 : duC 4 4 [] 0 = [[-2, 0, 2, 0], [-1, 0, 1, 0], [0, 0, 0, 0]] := by decide +kernel
theorem du5 : duC 5 5 [] 0 = [[-1, 0, 2, 1, 1], [0, 0, 1, 1, 1]] := by decide +kernel
theorem du6 : duC 6 6 [] 0 = [[-1, 0, 2, 2, 1, 2], [0, 0, 1, 2, 1, 2], [0, 1, 1, 2, 1, 1], [1, 1, 1, 1, 1, 1]] := by decide +kernel
theorem du7 : duC 7 7 [] 0 = [[0, 1, 1, 2, 2, 1, 2], [1, 1, 1, 1, 2, 1, 2]] := by decide +kernel
theorem du8 : duC 8 8 [] 0 = [[0, 2, 1, 2, 2, 2, 1, 2], [1, 1, 2, 1, 2, 2, 1, 2], [1, 2, 1, 2, 1, 2, 1, 2]] := by decide +kernel
theorem du9 : duC 9 9 [] 0 = [[1, 2, 2, 1, 2, 2, 1, 2, 2]] := by decide +kernel
theorem al3 : sortN (listsC 3 [] []) = [[-1, -1, -1]] := by decide +kernel
theorem al4 : sortN (listsC 4 [] []) = [[-2, 0, 2, 0], [-1, 0, 1, 0], [0, 0, 0, 0]] := by decide +kernel
theorem al5 : sortN ([[-2, 0, 2, 0], [-1, 0, 1, 0], [0, 0, 0, 0]].foldl (rowC 5) []) = [[-1, 0, 2, 1, 1], [0, 0, 1, 1, 1]] := by decide +kernel
theorem al6 : sortN ([[-1, 0, 2, 1, 1], [0, 0, 1, 1, 1]].foldl (rowC 6) []) = [[-1, 0, 2, 2, 1, 2], [0, 0, 1, 2, 1, 2], [0, 1, 1, 2, 1, 1], [1, 1, 1, 1, 1, 1]] := by decide +kernel
theorem al7 : sortN ([[-1, 0, 2, 2, 1, 2], [0, 0, 1, 2, 1, 2], [0, 1, 1, 2, 1, 1], [1, 1, 1, 1, 1, 1]].foldl (rowC 7) []) = [[0, 1, 1, 2, 2, 1, 2], [1, 1, 1, 1, 2, 1, 2]] := by decide +kernel
theorem al8 : sortN ([[0, 1, 1, 2, 2, 1, 2], [1, 1, 1, 1, 2, 1, 2]].foldl (rowC 8) []) = [[0, 2, 1, 2, 2, 2, 1, 2], [1, 1, 2, 1, 2, 2, 1, 2], [1, 2, 1, 2, 1, 2, 1, 2]] := by decide +kernel
theorem al9 : sortN ([[0, 2, 1, 2, 2, 2, 1, 2], [1, 1, 2, 1, 2, 2, 1, 2], [1, 2, 1, 2, 1, 2, 1, 2]].foldl (rowC 9) []) = [[1, 2, 2, 1, 2, 2, 1, 2, 2]] := by decide +kernel
/-- The lists of n numbers. -/
def aroundL : Nat → List (List Int)
  | 3 => [[-1, -1, -1]]
  | 4 => [[-2, 0, 2, 0], [-1, 0, 1, 0], [0, 0, 0, 0]]
  | 5 => [[-1, 0, 2, 1, 1], [0, 0, 1, 1, 1]]
  | 6 => [[-1, 0, 2, 2, 1, 2], [0, 0, 1, 2, 1, 2], [0, 1, 1, 2, 1, 1], [1, 1, 1, 1, 1, 1]]
  | 7 => [[0, 1, 1, 2, 2, 1, 2], [1, 1, 1, 1, 2, 1, 2]]
  | 8 => [[0, 2, 1, 2, 2, 2, 1, 2], [1, 1, 2, 1, 2, 2, 1, 2], [1, 2, 1, 2, 1, 2, 1, 2]]
  | 9 => [[1, 2, 2, 1, 2, 2, 1, 2, 2]]
  | _ => []
theorem sortN_length (l : List (List Int)) : (sortN l).length = l.length := (sortN_perm l).length_eq
theorem allFirst (n : Nat) (hn : n ≤ 4) (M : List (List Int)) (hM : sortN (listsC n [] []) = M) (hpos : 0 < M.length) (k : Nat) (hk : 120000 ≤ k) : impl_allAround.f k (n : Int) = some M := by
  obtain ⟨k, rfl⟩ : ∃ m, k = m + 1 := ⟨k - 1, by omega⟩
  have h1 := sortN_length (listsC n [] [])
  have h2 := listsC_length n [] []
  have h3 : 9 ^ n ≤ 9 ^ 4 := Nat.pow_le_pow_right (by omega) hn
  rw [hM] at h1
  simp only [impl_allAround.f]
  rw [if_pos (by omega), lists_eq n hn n k [] [] (by simp) (by simp; omega) (by intro y hy; simp at hy) (by omega), Option.bind_some, if_pos (by omega), if_pos (by simp at h2; omega), hM]
theorem allNext (n : Nat) (h4 : 4 < n) (hn : n ≤ 9) (L M : List (List Int)) (hL : ∀ k, 120000 + 100 * (n - 5) ≤ k → impl_allAround.f k ((n - 1 : Nat) : Int) = some L) (hl : L.length ≤ 4) (hLr : ∀ row ∈ L, row.length + 1 = n) (hM : sortN (L.foldl (rowC n) []) = M) (hpos : 0 < M.length) (k : Nat) (hk : 120000 + 100 * (n - 4) ≤ k) : impl_allAround.f k (n : Int) = some M := by
  obtain ⟨k, rfl⟩ : ∃ m, k = m + 1 := ⟨k - 1, by omega⟩
  have h1 := sortN_length (L.foldl (rowC n) [])
  rw [hM] at h1
  simp only [impl_allAround.f]
  rw [if_neg (by omega), w64 (x := (n : Int) - 1) (by omega) (by omega), show (n : Int) - 1 = ((n - 1 : Nat) : Int) by omega, hL k (by omega), Option.bind_some]
  have := rows_loop n hn h4 L (by omega) hLr L.length k 0 [] (by omega) (by simp; omega) (by intro y hy; simp at hy) (by omega) (by rw [List.drop_zero]; omega)
  rw [List.drop_zero, hM] at this
  exact this
theorem around_impl (n : Nat) (h3 : 3 ≤ n) (hn : n ≤ 9) : ∀ k, 121000 ≤ k → impl_allAround.f k (n : Int) = some (aroundL n) := by
  have g3 : ∀ k, 120000 ≤ k → impl_allAround.f k ((3 : Nat) : Int) = some (aroundL 3) := fun k hk => allFirst 3 (by omega) _ al3 (by decide) k hk
  have g4 : ∀ k, 120000 + 100 * (5 - 5) ≤ k → impl_allAround.f k ((5 - 1 : Nat) : Int) = some (aroundL 4) := fun k hk => allFirst 4 (by omega) _ al4 (by decide) k (by omega)
  have g5 : ∀ k, 120000 + 100 * (6 - 5) ≤ k → impl_allAround.f k ((6 - 1 : Nat) : Int) = some (aroundL 5) := fun k hk => allNext 5 (by omega) (by omega) _ _ g4 (by decide) (by decide) al5 (by decide) k (by omega)
  have g6 : ∀ k, 120000 + 100 * (7 - 5) ≤ k → impl_allAround.f k ((7 - 1 : Nat) : Int) = some (aroundL 6) := fun k hk => allNext 6 (by omega) (by omega) _ _ g5 (by decide) (by decide) al6 (by decide) k (by omega)
  have g7 : ∀ k, 120000 + 100 * (8 - 5) ≤ k → impl_allAround.f k ((8 - 1 : Nat) : Int) = some (aroundL 7) := fun k hk => allNext 7 (by omega) (by omega) _ _ g6 (by decide) (by decide) al7 (by decide) k (by omega)
  have g8 : ∀ k, 120000 + 100 * (9 - 5) ≤ k → impl_allAround.f k ((9 - 1 : Nat) : Int) = some (aroundL 8) := fun k hk => allNext 8 (by omega) (by omega) _ _ g7 (by decide) (by decide) al8 (by decide) k (by omega)
  have g9 : ∀ k, 120000 + 100 * (10 - 5) ≤ k → impl_allAround.f k ((10 - 1 : Nat) : Int) = some (aroundL 9) := fun k hk => allNext 9 (by omega) (by omega) _ _ g8 (by decide) (by decide) al9 (by decide) k (by omega)
  intro k hk
  obtain rfl | rfl | rfl | rfl | rfl | rfl | rfl : n = 3 ∨ n = 4 ∨ n = 5 ∨ n = 6 ∨ n = 7 ∨ n = 8 ∨ n = 9 := by omega
  · exact g3 k (by omega)
  · exact g4 k (by omega)
  · exact g5 k (by omega)
  · exact g6 k (by omega)
  · exact g7 k (by omega)
  · exact g8 k (by omega)
  · exact g9 k (by omega)
theorem around_spec (n : Nat) (h3 : 3 ≤ n) (hn : n ≤ 9) (k : Nat) (hk : 121000 ≤ k) : spec_duAll.f k (n : Int) [] 0 [] = some (aroundL n) := by
  have h9 : 9 ^ n ≤ 9 ^ 9 := Nat.pow_le_pow_right (by omega) hn
  rw [duAll_eq n hn n k [] 0 [] (by simp) (by intro y hy; simp at hy) (by omega) (by simp; omega) (by omega), List.nil_append]
  congr 1
  obtain rfl | rfl | rfl | rfl | rfl | rfl | rfl : n = 3 ∨ n = 4 ∨ n = 5 ∨ n = 6 ∨ n = 7 ∨ n = 8 ∨ n = 9 := by omega
  · exact du3
  · exact du4
  · exact du5
  · exact du6
  · exact du7
  · exact du8
  · exact du9
theorem allAround_both (k : Nat) (hk : 121000 ≤ k) (a : Int) : spec_AllAround.f k a = some (if 3 ≤ a ∧ a ≤ 9 then (aroundL a.toNat, true) else ([], false)) ∧ impl_AllAround.f k a = some (if 3 ≤ a ∧ a ≤ 9 then (aroundL a.toNat, true) else ([], false)) := by
  unfold spec_AllAround.f impl_AllAround.f
  rw [in_eq, within_eq, Option.bind_some, Option.bind_some]
  by_cases c : 3 ≤ a ∧ a ≤ 9
  · obtain ⟨n, rfl⟩ : ∃ n : Nat, a = (n : Int) := ⟨a.toNat, by omega⟩
    rw [decide_eq_true c, if_pos rfl, if_pos rfl, if_pos c, around_spec n (by omega) (by omega) k hk, around_impl n (by omega) (by omega) k hk]
    exact ⟨rfl, rfl⟩
  · rw [decide_eq_false c, if_neg c]
    exact ⟨rfl, rfl⟩

/-- One list is another one told from another place on. -/
def Rot (l x : List Int) : Prop := ∃ a b, l = a ++ b ∧ x = b ++ a
theorem Rot.refl (l : List Int) : Rot l l := ⟨[], l, rfl, by simp⟩
theorem Rot.symm {l x : List Int} (h : Rot l x) : Rot x l := by
  obtain ⟨a, b, rfl, rfl⟩ := h
  exact ⟨b, a, rfl, rfl⟩
theorem Rot.trans {l x y : List Int} (h : Rot l x) (g : Rot x y) : Rot l y := by
  obtain ⟨a, b, rfl, rfl⟩ := h
  obtain ⟨c, d, e, rfl⟩ := g
  rcases List.append_eq_append_iff.1 e with ⟨m, rfl, rfl⟩ | ⟨m, rfl, rfl⟩
  · exact ⟨m, d ++ b, by simp, by simp⟩
  · exact ⟨a ++ c, m, by simp, by simp⟩
theorem Rot.rev {l x : List Int} (h : Rot l x) : Rot l.reverse x.reverse := by
  obtain ⟨a, b, rfl, rfl⟩ := h
  exact ⟨b.reverse, a.reverse, by simp, by simp⟩
theorem Rot.perm {l x : List Int} (h : Rot l x) : List.Perm l x := by
  obtain ⟨a, b, rfl, rfl⟩ := h
  exact List.perm_append_comm
/-- One list is another one turned, or told backwards and turned. -/
def Way (l x : List Int) : Prop := Rot l x ∨ Rot l x.reverse
theorem Way.refl (l : List Int) : Way l l := .inl (Rot.refl l)
theorem Way.symm {l x : List Int} (h : Way l x) : Way x l := by
  rcases h with h | h
  · exact .inl h.symm
  · have := h.symm.rev
    rw [List.reverse_reverse] at this
    exact .inr this
theorem Way.trans {l x y : List Int} (h : Way l x) (g : Way x y) : Way l y := by
  rcases h with h | h <;> rcases g with g | g
  · exact .inl (h.trans g)
  · exact .inr (h.trans g)
  · exact .inr (h.trans g.rev)
  · have := h.trans g.rev
    rw [List.reverse_reverse] at this
    exact .inl this
theorem Way.perm {l x : List Int} (h : Way l x) : List.Perm l x := by
  rcases h with h | h
  · exact h.perm
  · exact h.perm.trans (List.reverse_perm x)
theorem Way.length {l x : List Int} (h : Way l x) : l.length = x.length := h.perm.length_eq
theorem onL_eq (l : List Int) (f : Nat) (hf : f < l.length) : onL l f = l.drop f ++ l.take f := by
  apply List.ext_getElem?
  intro i
  by_cases hi : i < l.length
  · unfold onL
    rw [List.getElem?_map, List.getElem?_range hi, Option.map_some, List.getD_eq_getElem?_getD]
    by_cases c : f + i < l.length
    · rw [Nat.mod_eq_of_lt c, List.getElem?_append_left (by rw [List.length_drop]; omega), List.getElem?_drop, List.getElem?_eq_getElem c]
      rfl
    · rw [Nat.mod_eq_sub_mod (by omega), Nat.mod_eq_of_lt (by omega), List.getElem?_append_right (by rw [List.length_drop]; omega), List.length_drop, List.getElem?_take_of_lt (by omega), show i - (l.length - f) = f + i - l.length by omega, List.getElem?_eq_getElem (by omega)]
      rfl
  · rw [List.getElem?_eq_none (by rw [onL_length]; omega), List.getElem?_eq_none (by rw [List.length_append, List.length_drop, List.length_take]; omega)]
theorem backL_eq (l : List Int) (f : Nat) (hf : f < l.length) : backL l f = (l.drop (f + 1) ++ l.take (f + 1)).reverse := by
  apply List.ext_getElem?
  intro i
  by_cases hi : i < l.length
  · unfold backL
    rw [List.getElem?_map, List.getElem?_range hi, Option.map_some, List.getD_eq_getElem?_getD, List.reverse_append]
    by_cases c : i ≤ f
    · rw [Nat.mod_eq_sub_mod (by omega), Nat.mod_eq_of_lt (by omega), List.getElem?_append_left (by rw [List.length_reverse, List.length_take]; omega), List.getElem?_reverse (by rw [List.length_take]; omega), List.length_take, List.getElem?_take_of_lt (by omega), show min (f + 1) l.length - 1 - i = f + l.length - i - l.length by omega, List.getElem?_eq_getElem (by omega)]
      rfl
    · rw [Nat.mod_eq_of_lt (by omega), List.getElem?_append_right (by rw [List.length_reverse, List.length_take]; omega), List.getElem?_reverse (by rw [List.length_reverse, List.length_take, List.length_drop]; omega), List.getElem?_drop, List.length_drop, List.length_reverse, List.length_take, show f + 1 + (l.length - (f + 1) - 1 - (i - min (f + 1) l.length)) = f + l.length - i by omega, List.getElem?_eq_getElem (by omega)]
      rfl
  · rw [List.getElem?_eq_none (by rw [backL_length]; omega), List.getElem?_eq_none (by rw [List.length_reverse, List.length_append, List.length_drop, List.length_take]; omega)]
theorem way_on (l : List Int) (f : Nat) (hf : f < l.length) : Way l (onL l f) := by
  rw [onL_eq l f hf]
  exact .inl ⟨l.take f, l.drop f, (List.take_append_drop f l).symm, rfl⟩
theorem way_back (l : List Int) (f : Nat) (hf : f < l.length) : Way l (backL l f) := by
  rw [backL_eq l f hf]
  refine .inr ?_
  rw [List.reverse_reverse]
  exact ⟨l.take (f + 1), l.drop (f + 1), (List.take_append_drop (f + 1) l).symm, rfl⟩
theorem rot_on {l x : List Int} (h : Rot l x) (hl : 0 < l.length) : ∃ f, f < l.length ∧ x = onL l f := by
  obtain ⟨a, b, rfl, rfl⟩ := h
  by_cases c : b.length = 0
  · obtain rfl := List.eq_nil_of_length_eq_zero c
    refine ⟨0, hl, ?_⟩
    rw [onL_eq _ _ hl]
    simp
  · refine ⟨a.length, by rw [List.length_append]; omega, ?_⟩
    rw [onL_eq _ _ (by rw [List.length_append]; omega)]
    simp
theorem way_of {l x : List Int} (h : Way l x) (hl : 0 < l.length) : ∃ f, f < l.length ∧ (x = onL l f ∨ x = backL l f) := by
  rcases h with h | h
  · obtain ⟨f, hf, e⟩ := rot_on h hl
    exact ⟨f, hf, .inl e⟩
  · obtain ⟨f, hf, e⟩ := rot_on h hl
    have ex : x = (onL l f).reverse := by rw [← e, List.reverse_reverse]
    by_cases c : f = 0
    · subst c
      refine ⟨l.length - 1, by omega, .inr ?_⟩
      rw [ex, backL_eq l _ (by omega), onL_eq l 0 hl, show l.length - 1 + 1 = l.length by omega]
      simp
    · refine ⟨f - 1, by omega, .inr ?_⟩
      rw [ex, backL_eq l _ (by omega), onL_eq l f hf, show f - 1 + 1 = f by omega]

theorem ltL_irrefl : ∀ a : List Int, ltL a a = false
  | [] => rfl
  | x :: a => by unfold ltL; rw [if_pos rfl]; exact ltL_irrefl a
theorem ltL_trans3 : ∀ a b c : List Int, a.length = b.length → b.length = c.length → ltL b a = false → ltL c b = false → ltL c a = false
  | [], b, c, h, h2, _, _ => by
    obtain rfl := List.eq_nil_of_length_eq_zero (show b.length = 0 by rw [← h]; rfl)
    obtain rfl := List.eq_nil_of_length_eq_zero (show c.length = 0 by rw [← h2]; rfl)
    rfl
  | x :: a, b, c, h, h2, g, g2 => by
    match b, c, h, h2 with
    | y :: b, z :: c, h, h2 =>
      unfold ltL at g g2 ⊢
      by_cases e1 : y = x
      · rw [if_pos e1] at g
        by_cases e2 : z = y
        · rw [if_pos e2] at g2
          rw [if_pos (by omega)]
          exact ltL_trans3 a b c (by simpa using h) (by simpa using h2) g g2
        · rw [if_neg e2, decide_eq_false_iff_not] at g2
          rw [if_neg (by omega), decide_eq_false_iff_not]
          omega
      · rw [if_neg e1, decide_eq_false_iff_not] at g
        by_cases e2 : z = y
        · rw [if_neg (by omega), decide_eq_false_iff_not]
          omega
        · rw [if_neg e2, decide_eq_false_iff_not] at g2
          rw [if_neg (by omega), decide_eq_false_iff_not]
          omega
theorem ltL_antisymm : ∀ a b : List Int, a.length = b.length → ltL a b = false → ltL b a = false → a = b
  | [], b, h, _, _ => (List.eq_nil_of_length_eq_zero (show b.length = 0 by rw [← h]; rfl)).symm
  | x :: a, b, h, g, g2 => by
    match b, h with
    | y :: b, h =>
      unfold ltL at g g2
      by_cases e1 : x = y
      · rw [if_pos e1] at g
        rw [if_pos e1.symm] at g2
        rw [e1, ltL_antisymm a b (by simpa using h) g g2]
      · rw [if_neg e1, decide_eq_false_iff_not] at g
        rw [if_neg (fun e => e1 e.symm), decide_eq_false_iff_not] at g2
        omega
theorem ltL_asymm : ∀ a b : List Int, ltL a b = true → ltL b a = false
  | [], b, h => by unfold ltL at h; cases h
  | x :: a, [], h => by unfold ltL at h; cases h
  | x :: a, y :: b, h => by
    unfold ltL at h ⊢
    by_cases e1 : x = y
    · rw [if_pos e1] at h
      rw [if_pos e1.symm]
      exact ltL_asymm a b h
    · rw [if_neg e1, decide_eq_true_eq] at h
      rw [if_neg (fun e => e1 e.symm), decide_eq_false_iff_not]
      omega
theorem bstep_le (b x : List Int) (_h : b.length = x.length) : ltL b (bstep b x) = false ∧ ltL x (bstep b x) = false := by
  unfold bstep
  by_cases c : ltL x b = true
  · rw [if_pos c]
    exact ⟨ltL_asymm x b c, ltL_irrefl x⟩
  · rw [if_neg c]
    exact ⟨ltL_irrefl b, by simpa using c⟩
theorem leastF_le (l : List Int) (d : Nat) : ∀ f b, f + d = l.length → b.length = l.length → Way l b → Way l (leastF l d f b) ∧ ltL b (leastF l d f b) = false ∧ (∀ g, f ≤ g → g < l.length → ltL (onL l g) (leastF l d f b) = false ∧ ltL (backL l g) (leastF l d f b) = false) := by
  induction d with
  | zero =>
    intro f b hf hb hw
    exact ⟨hw, ltL_irrefl b, fun g h1 h2 => by omega⟩
  | succ d ih =>
    intro f b hf hb hw
    have l1 := bstep_length b (onL l f) l.length hb (onL_length l f)
    have l2 := bstep_length (bstep b (onL l f)) (backL l f) l.length l1 (backL_length l f)
    obtain ⟨a1, a2⟩ := bstep_le b (onL l f) (by rw [hb, onL_length])
    obtain ⟨a3, a4⟩ := bstep_le (bstep b (onL l f)) (backL l f) (by rw [l1, backL_length])
    have w1 : Way l (bstep b (onL l f)) := by
      unfold bstep
      split
      · exact way_on l f (by omega)
      · exact hw
    have w2 : Way l (bstep (bstep b (onL l f)) (backL l f)) := by
      rw [bstep]
      split
      · exact way_back l f (by omega)
      · exact w1
    obtain ⟨b1, b2, b3⟩ := ih (f + 1) _ (by omega) l2 w2
    have l3 := leastF_length l d (f + 1) _ l2
    unfold leastF
    have t1 := ltL_trans3 _ _ _ (l3.trans l2.symm) (l2.trans l1.symm) b2 a3
    refine ⟨b1, ltL_trans3 _ _ _ (l3.trans l1.symm) (l1.trans hb.symm) t1 a1, fun g h1 h2 => ?_⟩
    by_cases c : g = f
    · subst c
      exact ⟨ltL_trans3 _ _ _ (l3.trans l1.symm) (l1.trans (onL_length l g).symm) t1 a2, ltL_trans3 _ _ _ (l3.trans l2.symm) (l2.trans (backL_length l g).symm) b2 a4⟩
    · exact b3 g (by omega) h2
/-- The first of a list's ways. -/
def leastW (l : List Int) : List Int := leastF l l.length 0 l
theorem leastW_way (l : List Int) : Way l (leastW l) := (leastF_le l l.length 0 l (by omega) rfl (Way.refl l)).1
theorem leastW_le (l x : List Int) (h : Way l x) : ltL x (leastW l) = false := by
  by_cases hl : 0 < l.length
  · obtain ⟨f, hf, e | e⟩ := way_of h hl
    · rw [e]
      exact ((leastF_le l l.length 0 l (by omega) rfl (Way.refl l)).2.2 f (by omega) hf).1
    · rw [e]
      exact ((leastF_le l l.length 0 l (by omega) rfl (Way.refl l)).2.2 f (by omega) hf).2
  · have h1 := h.length
    obtain rfl := List.eq_nil_of_length_eq_zero (show x.length = 0 by omega)
    rfl
theorem leastW_eq (l x : List Int) (h : Way l x) : leastW x = leastW l := by
  have h1 := leastW_way l
  have h2 := leastW_way x
  refine ltL_antisymm _ _ ?_ (leastW_le l _ (h.trans h2)) (leastW_le x _ (h.symm.trans h1))
  rw [← h2.length, ← h1.length, h.length]
theorem leastW_again (l : List Int) : leastW (leastW l) = leastW l := leastW_eq l _ (leastW_way l)

/-- One number's step on the last two points. -/
def stepM (s : Int × Int × Int × Int) (x : Int) : Int × Int × Int × Int := (s.2.2.1, s.2.2.2, x * s.2.2.1 - s.1, x * s.2.2.2 - s.2.1)
def foldM (l : List Int) (s : Int × Int × Int × Int) : Int × Int × Int × Int := l.foldl stepM s
def mulM (p q : Int × Int × Int × Int) : Int × Int × Int × Int := (p.1 * q.1 + p.2.1 * q.2.2.1, p.1 * q.2.1 + p.2.1 * q.2.2.2, p.2.2.1 * q.1 + p.2.2.2 * q.2.2.1, p.2.2.1 * q.2.1 + p.2.2.2 * q.2.2.2)
def unitM : Int × Int × Int × Int := (1, 0, 0, 1)
def detM (p : Int × Int × Int × Int) : Int := p.1 * p.2.2.2 - p.2.1 * p.2.2.1
theorem foldM_mul (l : List Int) : ∀ s, foldM l s = mulM (foldM l unitM) s := by
  induction l with
  | nil => intro s; simp [foldM, mulM, unitM]
  | cons x l ih =>
    intro s
    show foldM l (stepM s x) = mulM (foldM l (stepM unitM x)) s
    rw [ih (stepM s x), ih (stepM unitM x)]
    obtain ⟨a, b, c, d⟩ := foldM l unitM
    obtain ⟨e, f, g, h⟩ := s
    simp only [mulM, stepM, unitM, Prod.mk.injEq]
    refine ⟨?_, ?_, ?_, ?_⟩ <;> grind
theorem foldM_append (a b : List Int) : foldM (a ++ b) unitM = mulM (foldM b unitM) (foldM a unitM) := by
  rw [← foldM_mul b (foldM a unitM)]
  exact List.foldl_append
theorem foldM_det (l : List Int) : ∀ s, detM (foldM l s) = detM s := by
  induction l with
  | nil => intro s; rfl
  | cons x l ih =>
    intro s
    show detM (foldM l (stepM s x)) = detM s
    rw [ih]
    obtain ⟨e, f, g, h⟩ := s
    simp only [detM, stepM]
    grind
theorem mulM_comm_unit (p q : Int × Int × Int × Int) (hp : detM p = 1) (h : mulM p q = unitM) : mulM q p = unitM := by
  obtain ⟨a, b, c, d⟩ := p
  obtain ⟨e, f, g, i⟩ := q
  simp only [mulM, unitM, detM, Prod.mk.injEq] at *
  obtain ⟨h1, h2, h3, h4⟩ := h
  have e1 : e = d := by grind
  have e2 : f = -b := by grind
  have e3 : g = -c := by grind
  have e4 : i = a := by grind
  subst e1 e2 e3 e4
  refine ⟨?_, ?_, ?_, ?_⟩ <;> grind
theorem foldM_rot {l x : List Int} (h : Rot l x) (hl : foldM l unitM = unitM) : foldM x unitM = unitM := by
  obtain ⟨a, b, rfl, rfl⟩ := h
  rw [foldM_append] at hl ⊢
  exact mulM_comm_unit _ _ (by rw [foldM_det]; rfl) hl
def flipM (p : Int × Int × Int × Int) : Int × Int × Int × Int := (p.1, -p.2.2.1, -p.2.1, p.2.2.2)
theorem foldM_rev (l : List Int) : foldM l.reverse unitM = flipM (foldM l unitM) := by
  induction l with
  | nil => rfl
  | cons x l ih =>
    rw [List.reverse_cons, foldM_append, ih]
    have e : foldM (x :: l) unitM = mulM (foldM l unitM) (foldM [x] unitM) := foldM_append [x] l
    rw [e]
    obtain ⟨a, b, c, d⟩ := foldM l unitM
    simp only [mulM, flipM, foldM, List.foldl_cons, List.foldl_nil, stepM, unitM, Prod.mk.injEq]
    refine ⟨?_, ?_, ?_, ?_⟩ <;> grind
theorem foldM_way {l x : List Int} (h : Way l x) (hl : foldM l unitM = unitM) : foldM x unitM = unitM := by
  rcases h with h | h
  · exact foldM_rot h hl
  · have := foldM_rot h hl
    rw [foldM_rev] at this
    generalize foldM x unitM = p at this ⊢
    obtain ⟨a, b, c, d⟩ := p
    simp only [flipM, unitM, Prod.mk.injEq] at this ⊢
    refine ⟨?_, ?_, ?_, ?_⟩ <;> omega

theorem smallS (_b x c a B : Int) (hB : 0 ≤ B ∧ B ≤ 1000000000) (hx : -6 ≤ x ∧ x ≤ 2) (hc : -B ≤ c ∧ c ≤ B) (ha : -B ≤ a ∧ a ≤ B) : wrap64 (wrap64 (x * c) - a) = x * c - a ∧ -(7 * B) ≤ x * c - a ∧ x * c - a ≤ 7 * B := by
  have h1 : x * c ≤ 6 * B ∧ -(6 * B) ≤ x * c := by
    have hx' : x = -6 ∨ x = -5 ∨ x = -4 ∨ x = -3 ∨ x = -2 ∨ x = -1 ∨ x = 0 ∨ x = 1 ∨ x = 2 := by omega
    rcases hx' with rfl | rfl | rfl | rfl | rfl | rfl | rfl | rfl | rfl <;> omega
  rw [w64 (x := x * c) (by omega) (by omega), w64 (by omega) (by omega)]
  exact ⟨rfl, by omega, by omega⟩
theorem mkP_fold (l : List Int) (hx : ∀ x ∈ l, -6 ≤ x ∧ x ≤ 2) (d : Nat) : ∀ (i : Nat) (B a b c e : Int), i + d = l.length → (0 ≤ B ∧ B * 7 ^ d ≤ 7000000000) → (-B ≤ a ∧ a ≤ B) → (-B ≤ b ∧ b ≤ B) → (-B ≤ c ∧ c ≤ B) → (-B ≤ e ∧ e ≤ B) →
    mkP l d i a b c e = foldM ((onL l 1).drop i) (a, b, c, e) := by
  induction d with
  | zero =>
    intro i B a b c e hi _ _ _ _ _
    rw [List.drop_of_length_le (by rw [onL_length]; omega)]
    rfl
  | succ d ih =>
    intro i B a b c e hi hB ha hb hc he
    have hp : (0 : Int) < 7 ^ d := Int.pow_pos (by decide)
    have hB7 : B * 7 * 7 ^ d ≤ 7000000000 := by
      have := hB.2
      rw [Int.pow_succ, Int.mul_comm (7 ^ d) 7, ← Int.mul_assoc] at this
      exact this
    have hB1 : B ≤ 1000000000 := by
      have : B * 7 * 1 ≤ B * 7 * 7 ^ d := Int.mul_le_mul_of_nonneg_left (by omega) (by omega)
      omega
    have hlt : (i + 1) % l.length < l.length := Nat.mod_lt _ (by omega)
    have hget : (onL l 1)[i]? = some (l.getD ((i + 1) % l.length) 0) := by
      rw [onL_get l 1 i (by omega), Nat.add_comm 1 i]
      unfold rd
      rw [Int.toNat_natCast]
    have hxx : -6 ≤ l.getD ((i + 1) % l.length) 0 ∧ l.getD ((i + 1) % l.length) 0 ≤ 2 := by
      rw [List.getD_eq_getElem?_getD, List.getElem?_eq_getElem hlt]
      exact hx _ (List.getElem_mem hlt)
    have hlen : i < (onL l 1).length := by rw [onL_length]; omega
    rw [List.getElem?_eq_getElem hlen] at hget
    rw [List.drop_eq_getElem_cons hlen, Option.some.inj hget]
    obtain ⟨e1, g1⟩ := smallS 0 _ c a B ⟨hB.1, hB1⟩ hxx hc ha
    obtain ⟨e2, g2⟩ := smallS 0 _ e b B ⟨hB.1, hB1⟩ hxx he hb
    unfold mkP
    rw [e1, e2]
    exact ih (i + 1) (B * 7) _ _ _ _ (by omega) ⟨by omega, hB7⟩ (by omega) (by omega) (by omega) (by omega)
theorem sumW_sum (l : List Int) : ∀ s : Int, l.length ≤ 9 → (∀ x ∈ l, -6 ≤ x ∧ x ≤ 2) → (-1000 - 6 * (9 - (l.length : Int)) ≤ s ∧ s ≤ 1000 + 6 * (9 - (l.length : Int))) → sumW l s = s + l.sum := by
  induction l with
  | nil => intro s _ _ _; simp [sumW]
  | cons x l ih =>
    intro s hl hx hs
    have hx0 := hx x (by simp)
    rw [List.length_cons] at hl hs
    show sumW l (wrap64 (s + x)) = _
    rw [w64 (by omega) (by omega), ih (s + x) (by omega) (fun y hy => hx y (by simp [hy])) (by omega), List.sum_cons]
    omega
theorem numsB_iff (l : List Int) : numsB l = true ↔ (3 ≤ l.length ∧ l.length ≤ 9) ∧ ∀ x ∈ l, -6 ≤ x ∧ x ≤ 2 := by
  unfold numsB
  rw [Bool.and_eq_true, decide_eq_true_eq, List.all_eq_true]
  simp only [numB, decide_eq_true_eq]
theorem aroundC_iff (l : List Int) (h : numsB l = true) : aroundC l = true ↔ l.sum = 3 * (l.length : Int) - 12 ∧ foldM l unitM = unitM := by
  obtain ⟨hl, hx⟩ := (numsB_iff l).1 h
  unfold aroundC
  have h1 := sumW_sum l 0 hl.2 hx (by omega)
  have hpow : (7 : Int) ^ l.length ≤ 7 ^ 9 := by
    have h2 : l.length = 3 ∨ l.length = 4 ∨ l.length = 5 ∨ l.length = 6 ∨ l.length = 7 ∨ l.length = 8 ∨ l.length = 9 := by omega
    rcases h2 with e | e | e | e | e | e | e <;> rw [e] <;> decide
  have h2 := mkP_fold l hx l.length 0 1 1 0 0 1 (by omega) ⟨by omega, by omega⟩ (by omega) (by omega) (by omega) (by omega)
  rw [h1, h2, Bool.and_eq_true, beq_iff_eq, beq_iff_eq, List.drop_zero, Int.zero_add]
  have hr : Rot l (onL l 1) := by
    rw [onL_eq l 1 (by omega)]
    exact ⟨l.take 1, l.drop 1, (List.take_append_drop 1 l).symm, rfl⟩
  constructor
  · rintro ⟨g1, g2⟩
    exact ⟨g1, foldM_rot hr.symm g2⟩
  · rintro ⟨g1, g2⟩
    exact ⟨g1, foldM_rot hr g2⟩
theorem numsB_way {l x : List Int} (h : Way l x) (hn : numsB l = true) : numsB x = true := by
  rw [numsB_iff] at hn ⊢
  refine ⟨by rw [← h.length]; exact hn.1, fun y hy => hn.2 y (h.perm.mem_iff.2 hy)⟩
theorem sum_perm {l x : List Int} (h : List.Perm l x) : l.sum = x.sum := by
  induction h with
  | nil => rfl
  | cons x _ ih => rw [List.sum_cons, List.sum_cons, ih]
  | swap x y l => simp only [List.sum_cons]; omega
  | trans _ _ ih1 ih2 => rw [ih1, ih2]
theorem aroundC_way {l x : List Int} (h : Way l x) (hn : numsB l = true) : aroundC x = aroundC l := by
  rw [Bool.eq_iff_iff, aroundC_iff l hn, aroundC_iff x (numsB_way h hn), ← sum_perm h.perm, ← h.length]
  exact ⟨fun ⟨a, b⟩ => ⟨a, foldM_way h.symm b⟩, fun ⟨a, b⟩ => ⟨a, foldM_way h b⟩⟩

theorem mem_upTo (x : Int) (d : Nat) (h1 : 3 - (d : Int) ≤ x) (h2 : x ≤ 2) : x ∈ upTo d := by
  induction d with
  | zero => omega
  | succ d ih =>
    unfold upTo
    by_cases c : x = 2 - (d : Int)
    · rw [c]; exact List.mem_cons_self
    · exact List.mem_cons_of_mem _ (ih (by omega))
theorem sum_ge (l : List Int) (f : Int) (h : ∀ x ∈ l, f ≤ x) : (l.length : Int) * f ≤ l.sum := by
  induction l with
  | nil => simp
  | cons x l ih =>
    have h1 := h x (by simp)
    have h2 := ih (fun y hy => h y (by simp [hy]))
    rw [List.length_cons, List.sum_cons, show ((l.length + 1 : Nat) : Int) = (l.length : Int) + 1 by omega, Int.add_mul, Int.one_mul]
    omega
theorem sum_le2 (l : List Int) (h : ∀ x ∈ l, x ≤ 2) : l.sum ≤ 2 * (l.length : Int) := by
  induction l with
  | nil => simp
  | cons x l ih =>
    have h1 := h x (by simp)
    have h2 := ih (fun y hy => h y (by simp [hy]))
    rw [List.length_cons, List.sum_cons]
    omega
theorem least_head (m : List Int) (h : leastW m = m) : ∀ x ∈ m, frmC m ≤ x := by
  intro x hx
  obtain ⟨a, b, e⟩ := List.append_of_mem hx
  have hw : Way m (x :: b ++ a) := .inl ⟨a, x :: b, e, rfl⟩
  have hle := leastW_le m _ hw
  rw [h] at hle
  match m, hx with
  | y :: m, hx =>
    show y ≤ x
    rw [List.cons_append] at hle
    unfold ltL at hle
    by_cases c : x = y
    · omega
    · rw [if_neg c, decide_eq_false_iff_not] at hle
      omega
theorem duC_mem (n : Nat) (m : List Int) (hn : m.length = n) (hx : ∀ x ∈ m, -6 ≤ x ∧ x ≤ 2) (hs : m.sum = 3 * (n : Int) - 12) (ha : aroundC m = true) (hl : leastW m = m) (r : Nat) : ∀ b c : List Int, b ++ c = m → c.length = r → m ∈ duC n r b b.sum := by
  have hh := least_head m hl
  induction r with
  | zero =>
    intro b c e hc
    obtain rfl := List.eq_nil_of_length_eq_zero hc
    rw [List.append_nil] at e
    subst e
    unfold duC
    have h2 : (leastF b b.length 0 b == b) = true := beq_iff_eq.2 hl
    rw [if_pos (by rw [beq_iff_eq.2 hs, ha, h2]; rfl)]
    exact List.mem_singleton.2 rfl
  | succ r ih =>
    intro b c e hc
    match c, hc with
    | x :: c, hc =>
      rw [List.length_cons] at hc
      have hmx : x ∈ m := by rw [← e]; simp
      have hx0 := hx x hmx
      have hfr : frmC b ≤ x ∧ (if b = [] then x else frmC b) = frmC m ∧ -6 ≤ frmC b := by
        match b, e with
        | [], e =>
          rw [List.nil_append] at e
          rw [← e]
          exact ⟨hx0.1, by rw [if_pos rfl]; rfl, Int.le_refl (-6)⟩
        | y :: b, e =>
          have h1 := hh x hmx
          have hy := hx y (by rw [← e]; simp)
          rw [← e] at h1 ⊢
          exact ⟨h1, by rw [if_neg (by simp)]; rfl, hy.1⟩
      have hsum : b.sum + x + c.sum = 3 * (n : Int) - 12 := by
        rw [← hs, ← e, List.sum_append, List.sum_cons]
        omega
      have g1 := sum_le2 c (fun y hy => (hx y (by rw [← e]; simp [hy])).2)
      have g2 := sum_ge c (frmC m) (fun y hy => hh y (by rw [← e]; simp [hy]))
      rw [show c.length = r by omega] at g1 g2
      unfold duC
      rw [List.mem_flatMap]
      refine ⟨x, mem_upTo x _ (by omega) hx0.2, ?_⟩
      have hk : skipC n r b b.sum x = false := by
        unfold skipC
        rw [hfr.2.1, decide_eq_false (by omega), decide_eq_false (by omega)]
        rfl
      rw [if_neg (by rw [hk]; decide)]
      have := ih (b ++ [x]) c (by rw [← e]; simp) (by omega)
      rw [List.sum_append, List.sum_cons, List.sum_nil, Int.add_zero] at this
      exact this
theorem aroundL_all (m : List Int) (h : numsB m = true) (ha : aroundC m = true) (hl : leastW m = m) : m ∈ aroundL m.length := by
  obtain ⟨hn, hx⟩ := (numsB_iff m).1 h
  obtain ⟨hs, _⟩ := (aroundC_iff m h).1 ha
  have := duC_mem m.length m rfl hx hs ha hl m.length [] m rfl rfl
  rw [List.sum_nil] at this
  have hc : m.length = 3 ∨ m.length = 4 ∨ m.length = 5 ∨ m.length = 6 ∨ m.length = 7 ∨ m.length = 8 ∨ m.length = 9 := by omega
  rcases hc with e | e | e | e | e | e | e <;> rw [e] at this ⊢
  · rw [du3] at this; exact this
  · rw [du4] at this; exact this
  · rw [du5] at this; exact this
  · rw [du6] at this; exact this
  · rw [du7] at this; exact this
  · rw [du8] at this; exact this
  · rw [du9] at this; exact this

def sortedB (L : List (List Int)) : Bool := (List.range (L.length - 1)).all fun i => ltL (L.getD i []) (L.getD (i + 1) [])
def chkL (n : Nat) : Bool := ((aroundL n).all fun x => numsB x && (aroundC x && (leastW x == x && (x.length == n && x.sum == 3 * (n : Int) - 12)))) && (sortedB (aroundL n) && decide (1 ≤ (aroundL n).length ∧ (aroundL n).length ≤ 4))
theorem chkL_all (n : Nat) (h : 3 ≤ n ∧ n ≤ 9) : chkL n = true := by
  have hc : n = 3 ∨ n = 4 ∨ n = 5 ∨ n = 6 ∨ n = 7 ∨ n = 8 ∨ n = 9 := by omega
  rcases hc with rfl | rfl | rfl | rfl | rfl | rfl | rfl <;> decide +kernel
theorem aroundL_row (n : Nat) (h : 3 ≤ n ∧ n ≤ 9) (x : List Int) (hx : x ∈ aroundL n) : numsB x = true ∧ aroundC x = true ∧ leastW x = x ∧ x.length = n ∧ x.sum = 3 * (n : Int) - 12 := by
  have := chkL_all n h
  unfold chkL at this
  rw [Bool.and_eq_true, List.all_eq_true] at this
  have := this.1 x hx
  simp only [Bool.and_eq_true, beq_iff_eq] at this
  exact this
theorem aroundL_size (n : Nat) (h : 3 ≤ n ∧ n ≤ 9) : 1 ≤ (aroundL n).length ∧ (aroundL n).length ≤ 4 := by
  have := chkL_all n h
  unfold chkL at this
  rw [Bool.and_eq_true, Bool.and_eq_true, decide_eq_true_eq] at this
  exact this.2.2
theorem aroundL_sorted (n : Nat) (h : 3 ≤ n ∧ n ≤ 9) (i : Nat) (hi : i + 1 < (aroundL n).length) : ltL ((aroundL n).getD i []) ((aroundL n).getD (i + 1) []) = true := by
  have := chkL_all n h
  unfold chkL at this
  rw [Bool.and_eq_true, Bool.and_eq_true] at this
  have := this.2.1
  unfold sortedB at this
  rw [List.all_eq_true] at this
  exact this i (List.mem_range.2 (by omega))

theorem eSame_loop (A B : List Int) (hA : A.length ≤ 100000) (hAB : A.length = B.length) (d : Nat) : ∀ (k i : Nat), i + d = A.length → d < k → laws_eSame.l0 k A B (A.length : Int) (i : Int) = some (A.drop i == B.drop i) := by
  induction d with
  | zero =>
    intro k i hi hk
    obtain ⟨k, rfl⟩ : ∃ m, k = m + 1 := ⟨k - 1, by omega⟩
    simp only [laws_eSame.l0]
    rw [if_neg (by omega), List.drop_of_length_le (by omega), List.drop_of_length_le (by omega)]
    rfl
  | succ d ih =>
    intro k i hi hk
    obtain ⟨k, rfl⟩ : ∃ m, k = m + 1 := ⟨k - 1, by omega⟩
    have h1 : i < A.length := by omega
    have h2 : i < B.length := by omega
    simp only [laws_eSame.l0]
    rw [if_pos (by omega), if_pos (by omega), if_pos (by omega), if_pos (by omega), rdNat A i h1, rdNat B i h2, w64 (x := (i : Int) + 1) (by omega) (by omega), List.drop_eq_getElem_cons h1, List.drop_eq_getElem_cons h2]
    by_cases c : A[i] = B[i]
    · have := ih k (i + 1) (by omega) (by omega)
      rw [if_pos c, show (i : Int) + 1 = ((i + 1 : Nat) : Int) by omega, this, c]
      congr 1
      rw [Bool.eq_iff_iff, beq_iff_eq, beq_iff_eq, List.cons.injEq]
      exact ⟨fun h => ⟨rfl, h⟩, fun h => h.2⟩
    · rw [if_neg c]
      congr 1
      symm
      rw [beq_eq_false_iff_ne]
      intro h
      exact c (List.cons.inj h).1
theorem eSame_eq (k : Nat) (A B : List Int) (hA : A.length ≤ 100000) (hk : A.length < k) : laws_eSame.f k A B = some (A == B) := by
  unfold laws_eSame.f
  by_cases c : A.length = B.length
  · rw [if_pos (by omega)]
    have := eSame_loop A B hA c A.length k 0 (by omega) hk
    simpa using this
  · rw [if_neg (by omega)]
    congr 1
    symm
    rw [beq_eq_false_iff_ne]
    intro h
    exact c (by rw [h])
theorem rdRow (L : List (List Int)) (i : Nat) (h : i < L.length) : rd_L2 L (i : Int) = L[i] := by
  unfold rd_L2
  simp [List.getD_eq_getElem?_getD, List.getElem?_eq_getElem h]
theorem eRows_loop (L : List (List Int)) (hL : L.length ≤ 1000) (hr : ∀ x ∈ L, x.length ≤ 9) (d : Nat) : ∀ (k i : Nat), i + d = L.length → d + 20 < k → laws_eRows.l0 k L L (L.length : Int) (i : Int) = some true := by
  induction d with
  | zero =>
    intro k i hi hk
    obtain ⟨k, rfl⟩ : ∃ m, k = m + 1 := ⟨k - 1, by omega⟩
    simp only [laws_eRows.l0]
    rw [if_neg (by omega)]
  | succ d ih =>
    intro k i hi hk
    obtain ⟨k, rfl⟩ : ∃ m, k = m + 1 := ⟨k - 1, by omega⟩
    have h1 : i < L.length := by omega
    have h2 := hr _ (List.getElem_mem h1)
    simp only [laws_eRows.l0]
    rw [if_pos (by omega), if_pos (by omega), if_pos (by omega), if_pos (by omega), rdRow L i h1, eSame_eq k _ _ (by omega) (by omega), Option.bind_some, if_pos (by simp), w64 (by omega) (by omega)]
    exact ih k (i + 1) (by omega) (by omega)
theorem eRows_self (k : Nat) (L : List (List Int)) (hL : L.length ≤ 1000) (hr : ∀ x ∈ L, x.length ≤ 9) (hk : L.length + 20 < k) : laws_eRows.f k L L = some true := by
  unfold laws_eRows.f
  rw [if_pos rfl]
  exact eRows_loop L hL hr L.length k 0 (by omega) hk
theorem eSum_loop (l : List Int) (hl : l.length ≤ 9) (d : Nat) : ∀ (k i : Nat) (s : Int), i + d = l.length → d < k → laws_eSum.l0 k s l (l.length : Int) (i : Int) = some (sumW (l.drop i) s) := by
  induction d with
  | zero =>
    intro k i s hi hk
    obtain ⟨k, rfl⟩ : ∃ m, k = m + 1 := ⟨k - 1, by omega⟩
    simp only [laws_eSum.l0]
    rw [if_neg (by omega), List.drop_of_length_le (by omega)]
    rfl
  | succ d ih =>
    intro k i s hi hk
    obtain ⟨k, rfl⟩ : ∃ m, k = m + 1 := ⟨k - 1, by omega⟩
    have hlt : i < l.length := by omega
    simp only [laws_eSum.l0]
    rw [if_pos (by omega), if_pos (by omega), if_pos (by omega), rdNat l i hlt, w64 (x := (i : Int) + 1) (by omega) (by omega), show ((i : Int) + 1) = ((i + 1 : Nat) : Int) by omega, ih k (i + 1) _ (by omega) (by omega), List.drop_eq_getElem_cons hlt]
    rfl
theorem eSum_eq (k : Nat) (l : List Int) (h : numsB l = true) (hk : 20 ≤ k) : laws_eSum.f k l = some l.sum := by
  obtain ⟨hl, hx⟩ := (numsB_iff l).1 h
  unfold laws_eSum.f
  have := eSum_loop l hl.2 l.length k 0 0 (by omega) (by omega)
  rw [show ((0 : Nat) : Int) = 0 from rfl] at this
  rw [this, List.drop_zero, sumW_sum l 0 hl.2 hx (by omega), Int.zero_add]
theorem eBefore_loop (A B : List Int) (hA : A.length ≤ 100000) (hAB : A.length = B.length) (d : Nat) : ∀ (k i : Nat), i + d = A.length → 2 * d + 2 ≤ k → laws_eBefore.l0 k A B (i : Int) = some (ltL (A.drop i) (B.drop i)) := by
  induction d with
  | zero =>
    intro k i hi hk
    obtain ⟨k, rfl⟩ : ∃ m, k = m + 2 := ⟨k - 2, by omega⟩
    simp only [laws_eBefore.l0, laws_eBefore.j1]
    rw [if_neg (by omega), if_neg (by decide), List.drop_of_length_le (by omega), decide_eq_false (by omega)]
    rfl
  | succ d ih =>
    intro k i hi hk
    obtain ⟨k, rfl⟩ : ∃ m, k = m + 2 := ⟨k - 2, by omega⟩
    have h1 : i < A.length := by omega
    have h2 : i < B.length := by omega
    simp only [laws_eBefore.l0, laws_eBefore.j1]
    rw [if_pos (by omega), if_pos (by rw [decide_eq_true_eq]; omega), if_pos (by omega), if_pos (by omega), if_pos (by omega), rdNat A i h1, rdNat B i h2, w64 (x := (i : Int) + 1) (by omega) (by omega), List.drop_eq_getElem_cons h1, List.drop_eq_getElem_cons h2]
    unfold ltL
    by_cases c : A[i] = B[i]
    · rw [if_pos c, if_pos c]
      exact ih k (i + 1) (by omega) (by omega)
    · rw [if_neg c, if_neg c]
theorem eBefore_eq (k : Nat) (A B : List Int) (hA : A.length ≤ 9) (hAB : A.length = B.length) (hk : 30 ≤ k) : laws_eBefore.f k A B = some (ltL A B) :=
  eBefore_loop A B (by omega) hAB A.length k 0 (by omega) (by omega)
theorem areAround_all (k : Nat) (hk : 30 ≤ k) (l : List Int) : impl_AreAround.f k l = some (if numsB l = true then (aroundC l, true) else (false, false)) := by
  unfold impl_AreAround.f
  rw [areNumbers_eq k (by omega), Option.bind_some]
  by_cases c : numsB l = true
  · rw [if_pos c, if_pos c, (around_both k hk l ((numsB_iff l).1 c).1.2).1]
    rfl
  · rw [if_neg c, if_neg c]
theorem leastN_all (k : Nat) (hk : 2000 ≤ k) (l : List Int) : impl_LeastNumbers.f k l = some (if numsB l = true then (leastW l, true) else ([], false)) ∧ spec_LeastNumbers.f k l = some (if numsB l = true then (leastW l, true) else ([], false)) := by
  unfold impl_LeastNumbers.f spec_LeastNumbers.f
  rw [areNumbers_eq k (by omega), duNumber_eq k (by omega), Option.bind_some, Option.bind_some]
  by_cases c : numsB l = true
  · obtain ⟨e1, e2⟩ := least_both k hk l ((numsB_iff l).1 c).1.2
    rw [if_pos c, if_pos c, if_pos c, e1, e2]
    exact ⟨rfl, rfl⟩
  · rw [if_neg c, if_neg c, if_neg c]
    exact ⟨rfl, rfl⟩

theorem pick_any (l : List Int) (h : bytesP l) (at_ sd n : Int) (ha : 0 ≤ at_ ∧ at_ ≤ 1000000) (hn : 1 ≤ n ∧ n ≤ 200) : ∃ b a' sd', spec_l1Cur_pick.f l at_ sd n = some (b, a', sd') ∧ (0 ≤ b ∧ b < n) ∧ (at_ ≤ a' ∧ a' ≤ at_ + 1) := by
  by_cases c : n = 1
  · subst c
    unfold spec_l1Cur_pick.f
    rw [if_pos (by omega)]
    exact ⟨_, _, _, rfl, by omega, by omega⟩
  · obtain ⟨b, sd', e, h1, h2⟩ := pick_some l h at_ sd n ha (by omega)
    exact ⟨b, at_ + 1, sd', e, ⟨h1, h2⟩, by omega⟩
theorem around_long (l : List Int) (h : bytesP l) (d : Nat) : ∀ (k : Nat) (y : List Int) (at_ sd : Int), 10 ≤ y.length + d → d < k → (0 ≤ at_ ∧ at_ + (d : Int) ≤ 1000) → ∃ r a' sd', spec_l1Cur_around.l0 k y l at_ sd = some (r, a', sd') := by
  induction d with
  | zero =>
    intro k y at_ sd hy hk ha
    obtain ⟨k, rfl⟩ : ∃ m, k = m + 1 := ⟨k - 1, by omega⟩
    obtain ⟨b, a1, s1, e, hb, ha1⟩ := pick_any l h at_ sd 2 (by omega) (by omega)
    simp only [spec_l1Cur_around.l0]
    rw [e, Option.bind_some]
    dsimp only
    rw [w64 (x := 9 + b) (by omega) (by omega), if_neg (by omega)]
    exact ⟨_, _, _, rfl⟩
  | succ d ih =>
    intro k y at_ sd hy hk ha
    obtain ⟨k, rfl⟩ : ∃ m, k = m + 1 := ⟨k - 1, by omega⟩
    obtain ⟨b, a1, s1, e, hb, ha1⟩ := pick_any l h at_ sd 2 (by omega) (by omega)
    simp only [spec_l1Cur_around.l0]
    rw [e, Option.bind_some]
    dsimp only
    rw [w64 (x := 9 + b) (by omega) (by omega)]
    by_cases c : (y.length : Int) < 9 + b
    · rw [if_pos c, if_pos (by omega)]
      exact ih k (y ++ [2]) a1 s1 (by rw [List.length_append, List.length_singleton]; omega) (by omega) (by omega)
    · rw [if_neg c]
      exact ⟨_, _, _, rfl⟩
theorem drawAround_some (l : List Int) (h : bytesP l) (k : Nat) (hk : 122000 ≤ k) : ∃ r a' sd', spec_l1Cur_around.f k l 0 0 = some (r, a', sd') := by
  unfold spec_l1Cur_around.f
  obtain ⟨b1, a1, s1, e1, hb1, ha1⟩ := pick_any l h 0 0 5 (by omega) (by omega)
  rw [e1, Option.bind_some]
  dsimp only
  rw [w64 (x := 3 + b1) (by omega) (by omega)]
  obtain ⟨n, hn, hn2⟩ : ∃ n : Nat, 3 + b1 = (n : Int) ∧ 3 ≤ n ∧ n ≤ 7 := ⟨(3 + b1).toNat, by omega, by omega⟩
  rw [hn, (allAround_both k (by omega) n).1, if_pos (by omega), Int.toNat_natCast, Option.bind_some]
  dsimp only
  have hs := aroundL_size n (by omega)
  obtain ⟨b2, a2, s2, e2, hb2, ha2⟩ := pick_any l h a1 s1 ((aroundL n).length : Int) (by omega) (by omega)
  rw [e2, Option.bind_some]
  dsimp only
  obtain ⟨i, rfl⟩ : ∃ i : Nat, b2 = (i : Int) := ⟨b2.toNat, by omega⟩
  have hi : i < (aroundL n).length := by omega
  rw [if_pos (by omega), if_pos (by omega), rdRow _ i hi]
  have hrow := (aroundL_row n (by omega) _ (List.getElem_mem hi)).2.2.2.1
  generalize (aroundL n)[i] = row at hrow ⊢
  obtain ⟨b3, a3, s3, e3, hb3, ha3⟩ := pick_any l h a2 s2 (row.length : Int) (by omega) (by omega)
  rw [e3, Option.bind_some]
  dsimp only
  rw [if_pos (by omega), if_pos (by omega), ownInt_eq _ (by rw [List.length_drop]; omega), Option.bind_some, Option.bind_some, if_pos (by rw [List.length_drop, List.length_take]; omega), Option.bind_some]
  have hy : (row.drop b3.toNat ++ row.take b3.toNat).length = row.length := by rw [List.length_append, List.length_drop, List.length_take]; omega
  generalize row.drop b3.toNat ++ row.take b3.toNat = y at hy ⊢
  obtain ⟨b4, a4, s4, e4, hb4, ha4⟩ := pick_any l h a3 s3 12 (by omega) (by omega)
  rw [e4, Option.bind_some]
  dsimp only
  by_cases c0 : b4 = 0
  · obtain ⟨b5, a5, s5, e5, hb5, ha5⟩ := pick_any l h a4 s4 (row.length : Int) (by omega) (by omega)
    obtain ⟨b6, s6, e6⟩ := among_some l h a5 s5 [(-7), (-6), 0, 1, 2, 3, 4611686018427387904] (by omega) (by simp)
    rw [if_pos c0, e5, Option.bind_some]
    dsimp only
    rw [e6, Option.bind_some, if_pos (by omega), if_pos (by omega)]
    exact ⟨_, _, _, rfl⟩
  · rw [if_neg c0]
    by_cases c1 : b4 = 1
    · rw [if_pos c1]
      exact around_long l h 10 k y a4 s4 (by omega) (by omega) (by omega)
    · rw [if_neg c1]
      by_cases c2 : b4 = 2
      · rw [if_pos c2, if_pos (by omega)]
        exact ⟨_, _, _, rfl⟩
      · rw [if_neg c2]
        exact ⟨_, _, _, rfl⟩

theorem countAround_all (k : Nat) (hk : 121000 ≤ k) (a : Int) : impl_CountAround.f k a = some (((if 3 ≤ a ∧ a ≤ 9 then (aroundL a.toNat, true) else ([], false)).1.length : Int), (if 3 ≤ a ∧ a ≤ 9 then (aroundL a.toNat, true) else ([], false)).2) ∧ spec_CountAround.f k a = some (((if 3 ≤ a ∧ a ≤ 9 then (aroundL a.toNat, true) else ([], false)).1.length : Int), (if 3 ≤ a ∧ a ≤ 9 then (aroundL a.toNat, true) else ([], false)).2) := by
  obtain ⟨e1, e2⟩ := allAround_both k hk a
  unfold impl_CountAround.f spec_CountAround.f
  rw [e1, e2]
  exact ⟨rfl, rfl⟩
theorem sx_l3 (L : List (List Int)) (m : List Int) (hL : L.length ≤ 1000) (hr : ∀ x ∈ L, x.length ≤ 9) (d : Nat) : ∀ (k i : Nat) (f : Bool), i + d = L.length → d + 20 < k → (f = true ∨ m ∈ L.drop i) → laws_FnSixteenAround.l3 k m true f L (L.length : Int) (i : Int) = some true := by
  induction d with
  | zero =>
    intro k i f hi hk h
    obtain ⟨k, rfl⟩ : ∃ m, k = m + 1 := ⟨k - 1, by omega⟩
    rw [List.drop_of_length_le (by omega)] at h
    simp only [laws_FnSixteenAround.l3]
    rw [if_neg (by omega), if_pos trivial]
    rcases h with h | h
    · rw [if_pos h]
    · cases h
  | succ d ih =>
    intro k i f hi hk h
    obtain ⟨k, rfl⟩ : ∃ m, k = m + 1 := ⟨k - 1, by omega⟩
    have h1 : i < L.length := by omega
    simp only [laws_FnSixteenAround.l3]
    rw [if_pos (by omega), if_pos (by omega), if_pos (by omega), w64 (by omega) (by omega)]
    by_cases c : f = true
    · rw [if_pos c]
      exact ih k (i + 1) true (by omega) (by omega) (.inl rfl)
    · have h2 := hr _ (List.getElem_mem h1)
      rw [if_neg c, rdRow L i h1, eSame_eq k _ _ (by omega) (by omega), Option.bind_some]
      refine ih k (i + 1) _ (by omega) (by omega) ?_
      rcases h with h | h
      · exact absurd h c
      · rw [List.drop_eq_getElem_cons h1, List.mem_cons] at h
        rcases h with h | h
        · exact .inl (beq_iff_eq.2 h.symm)
        · exact .inr h
theorem sx_l2 (l : List Int) (h : numsB l = true) (d : Nat) : ∀ (k i : Nat), i + d = l.length → 122000 + d ≤ k → laws_FnSixteenAround.l2 k l (leastW l) (l.length : Int) (aroundC l) (i : Int) = some true := by
  have hl := ((numsB_iff l).1 h).1
  have hw := (leastW_way l).length
  induction d with
  | zero =>
    intro k i hi hk
    obtain ⟨k, rfl⟩ : ∃ m, k = m + 1 := ⟨k - 1, by omega⟩
    simp only [laws_FnSixteenAround.l2]
    rw [if_neg (by omega)]
    by_cases c : aroundC l = true
    · have hs := aroundL_size l.length hl
      have hm := aroundL_all (leastW l) (numsB_way (leastW_way l) h) (by rw [aroundC_way (leastW_way l) h]; exact c) (leastW_again l)
      rw [← hw] at hm
      rw [if_pos c, (allAround_both k (by omega) (l.length : Int)).2, if_pos (by omega), Int.toNat_natCast, Option.bind_some]
      exact sx_l3 (aroundL l.length) (leastW l) (by omega) (fun x hx => by rw [(aroundL_row l.length hl x hx).2.2.2.1]; omega) (aroundL l.length).length k 0 false (by omega) (by omega) (.inr hm)
    · rw [if_neg c]
  | succ d ih =>
    intro k i hi hk
    obtain ⟨k, rfl⟩ : ∃ m, k = m + 1 := ⟨k - 1, by omega⟩
    have hr : Way l (l.drop i ++ l.take i) := .inl ⟨l.take i, l.drop i, (List.take_append_drop i l).symm, rfl⟩
    simp only [laws_FnSixteenAround.l2]
    rw [if_pos (by omega), Option.bind_some, if_pos (by omega), if_pos (by omega), Option.bind_some, Int.toNat_natCast, if_pos (by rw [List.length_drop, List.length_nil]; omega), Option.bind_some, Option.bind_some, List.nil_append, if_pos (by rw [List.length_drop, List.length_take]; omega), (leastN_all k (by omega) _).1, if_pos (numsB_way hr h), Option.bind_some]
    dsimp only
    rw [if_pos rfl, leastW_eq l _ hr, eSame_eq k _ _ (by omega) (by omega), Option.bind_some, if_pos (by simp), w64 (by omega) (by omega)]
    exact ih k (i + 1) (by omega) (by omega)
theorem sx_j3 (l : List Int) (hb : bytesP l) (k : Nat) (hk : 125000 ≤ k) : laws_FnSixteenAround.j3 k l = some true := by
  obtain ⟨k, rfl⟩ : ∃ m, k = m + 3 := ⟨k - 3, by omega⟩
  obtain ⟨r, a', s', e⟩ := drawAround_some l hb (k + 2) (by omega)
  simp only [laws_FnSixteenAround.j3]
  unfold spec_DrawLeastNumbers.f spec_DrawPolygonOfNumbers.f
  rw [e, Option.bind_some, Option.bind_some, Option.bind_some, (leastN_all (k + 2) (by omega) r).1, (leastN_all (k + 2) (by omega) r).2, Option.bind_some, Option.bind_some, if_neg (by simp)]
  by_cases c : numsB r = true
  · have hl := ((numsB_iff r).1 c).1
    have hw := leastW_way r
    have hwl := hw.length
    have c2 := numsB_way hw c
    rw [if_pos c, eSame_eq (k + 2) _ _ (by show (leastW r).length ≤ _; omega) (by show (leastW r).length < _; omega), Option.bind_some]
    simp only [laws_FnSixteenAround.j4]
    rw [if_neg (by simp), if_pos trivial, areAround_all (k + 1) (by omega) r, if_pos c, Option.bind_some, areAround_all (k + 1) (by omega) (leastW r), if_pos c2, Option.bind_some, (leastN_all (k + 1) (by omega) (leastW r)).1, if_pos c2, Option.bind_some]
    dsimp only
    rw [if_pos rfl, if_pos rfl, if_neg (by rw [aroundC_way hw c]; simp), if_pos rfl, leastW_again, eSame_eq (k + 1) _ _ (by omega) (by omega), Option.bind_some, if_pos (by simp), eSum_eq (k + 1) _ c2 (by omega), Option.bind_some, eSum_eq (k + 1) _ c (by omega), Option.bind_some, if_pos (sum_perm hw.perm).symm, eBefore_eq (k + 1) _ _ (by omega) hwl (by omega), Option.bind_some, leastW_le r r (Way.refl r)]
    simp only [laws_FnSixteenAround.j5]
    rw [if_neg (by decide)]
    exact sx_l2 r c r.length k 0 (by omega) (by omega)
  · rw [if_neg c, eSame_eq (k + 2) _ _ (by simp) (by simp), Option.bind_some]
    simp only [laws_FnSixteenAround.j4]
    rw [if_neg (by simp), if_neg (by decide)]
def cntA (n : Nat) : Int := ((aroundL n).length : Int)
theorem cntA_turn (n v : Nat) (h : 3 ≤ n ∧ n ≤ 9) (hv : v + n = 12) : cntA v = cntA n := by
  obtain rfl : v = 12 - n := by omega
  have hc : n = 3 ∨ n = 4 ∨ n = 5 ∨ n = 6 ∨ n = 7 ∨ n = 8 ∨ n = 9 := by omega
  rcases hc with rfl | rfl | rfl | rfl | rfl | rfl | rfl <;> rfl
theorem sx_step (l : List Int) (n v : Nat) (h : 3 ≤ n ∧ n ≤ 9) (hv : 3 ≤ v ∧ v ≤ 9) (s : Int) (hs : 0 ≤ s ∧ s ≤ 1000) (k : Nat) (hk : 121000 ≤ k) : laws_FnSixteenAround.l1 (k + 1) l (n : Int) (cntA n) s (v : Int) = laws_FnSixteenAround.l1 k l (n : Int) (cntA n) (s + cntA v) ((v + 1 : Nat) : Int) := by
  have hz := aroundL_size v hv
  have hz2 : 1 ≤ cntA v ∧ cntA v ≤ 4 := by unfold cntA; omega
  have e0 : impl_CountAround.f k (v : Int) = some (cntA v, true) := by
    rw [(countAround_all k hk v).1, if_pos (by omega)]
    rfl
  rw [laws_FnSixteenAround.l1]
  rw [if_pos (by omega), e0, Option.bind_some]
  dsimp only
  rw [if_pos rfl, w64 (x := s + cntA v) (by omega) (by omega), w64 (x := (v : Int) + 1) (by omega) (by omega), w64 (x := 12 - (n : Int)) (by omega) (by omega), show (v : Int) + 1 = ((v + 1 : Nat) : Int) by omega]
  by_cases c : (v : Int) = (n : Int)
  · obtain rfl : v = n := by omega
    rw [if_pos c, if_pos rfl]
    split <;> rfl
  · rw [if_neg c]
    by_cases c2 : (v : Int) = 12 - (n : Int)
    · rw [if_pos c2, if_pos (cntA_turn n v h (by omega))]
    · rw [if_neg c2]
theorem sx_l1 (l : List Int) (hb : bytesP l) (n : Nat) (h : 3 ≤ n ∧ n ≤ 9) (k : Nat) (hk : 126000 ≤ k) : laws_FnSixteenAround.l1 k l (n : Int) (cntA n) 0 3 = some true := by
  obtain ⟨k, rfl⟩ : ∃ m, k = m + 8 := ⟨k - 8, by omega⟩
  have c3 : cntA 3 = 1 := rfl
  have c4 : cntA 4 = 3 := rfl
  have c5 : cntA 5 = 2 := rfl
  have c6 : cntA 6 = 4 := rfl
  have c7 : cntA 7 = 2 := rfl
  have c8 : cntA 8 = 3 := rfl
  have c9 : cntA 9 = 1 := rfl
  have t1 := sx_step l n 3 h (by omega) 0 (by omega) (k + 7) (by omega)
  have t2 := sx_step l n 4 h (by omega) (0 + 1) (by omega) (k + 6) (by omega)
  have t3 := sx_step l n 5 h (by omega) (0 + 1 + 3) (by omega) (k + 5) (by omega)
  have t4 := sx_step l n 6 h (by omega) (0 + 1 + 3 + 2) (by omega) (k + 4) (by omega)
  have t5 := sx_step l n 7 h (by omega) (0 + 1 + 3 + 2 + 4) (by omega) (k + 3) (by omega)
  have t6 := sx_step l n 8 h (by omega) (0 + 1 + 3 + 2 + 4 + 2) (by omega) (k + 2) (by omega)
  have t7 := sx_step l n 9 h (by omega) (0 + 1 + 3 + 2 + 4 + 2 + 3) (by omega) (k + 1) (by omega)
  rw [c3] at t1
  rw [c4] at t2
  rw [c5] at t3
  rw [c6] at t4
  rw [c7] at t5
  rw [c8] at t6
  rw [c9] at t7
  refine t1.trans (t2.trans (t3.trans (t4.trans (t5.trans (t6.trans (t7.trans ?_))))))
  rw [laws_FnSixteenAround.l1]
  rw [if_neg (by omega), if_pos (by decide)]
  exact sx_j3 l hb k (by omega)
theorem sx_l0 (l : List Int) (hb : bytesP l) (n : Nat) (h : 3 ≤ n ∧ n ≤ 9) (d : Nat) : ∀ (k i : Nat), i + d = (aroundL n).length → 127000 + d ≤ k → laws_FnSixteenAround.l0 k l (n : Int) (aroundL n) (cntA n) (aroundL n) ((aroundL n).length : Int) (i : Int) = some true := by
  have hz := aroundL_size n h
  induction d with
  | zero =>
    intro k i hi hk
    obtain ⟨k, rfl⟩ : ∃ m, k = m + 1 := ⟨k - 1, by omega⟩
    rw [laws_FnSixteenAround.l0]
    rw [if_neg (by omega)]
    exact sx_l1 l hb n h k (by omega)
  | succ d ih =>
    intro k i hi hk
    obtain ⟨k, rfl⟩ : ∃ m, k = m + 1 := ⟨k - 1, by omega⟩
    have h1 : i < (aroundL n).length := by omega
    obtain ⟨g1, g2, g3, g4, g5⟩ := aroundL_row n h _ (List.getElem_mem h1)
    have hn := ih k (i + 1) (by omega) (by omega)
    rw [laws_FnSixteenAround.l0]
    rw [if_pos (by omega), if_pos (by omega), if_pos (by omega), rdRow _ i h1, areAround_all k (by omega) _, if_pos g1, Option.bind_some, (leastN_all k (by omega) _).1, if_pos g1, Option.bind_some]
    dsimp only
    rw [if_pos (by rw [g4]), if_pos rfl, if_pos g2, if_pos rfl, g3, eSame_eq k _ _ (by omega) (by omega), Option.bind_some, if_pos (by simp), eSum_eq k _ g1 (by omega), Option.bind_some, w64 (x := 3 * (n : Int)) (by omega) (by omega), w64 (x := 3 * (n : Int) - 12) (by omega) (by omega), if_pos g5, w64 (x := (i : Int) + 1) (by omega) (by omega)]
    by_cases c : (i : Int) > 0
    · obtain ⟨j, rfl⟩ : ∃ j, i = j + 1 := ⟨i - 1, by omega⟩
      have hj : j < (aroundL n).length := by omega
      have hs := aroundL_sorted n h j h1
      obtain ⟨p1, p2, p3, p4, p5⟩ := aroundL_row n h _ (List.getElem_mem hj)
      rw [List.getD_eq_getElem?_getD, List.getD_eq_getElem?_getD, List.getElem?_eq_getElem hj, List.getElem?_eq_getElem h1, Option.getD_some, Option.getD_some] at hs
      rw [if_pos c, w64 (x := ((j + 1 : Nat) : Int) - 1) (by omega) (by omega), show ((j + 1 : Nat) : Int) - 1 = (j : Int) by omega, if_pos (by omega), if_pos (by omega), rdRow _ j hj, eBefore_eq k _ _ (by omega) (by omega) (by omega), Option.bind_some, if_pos hs]
      exact hn
    · rw [if_neg c]
      exact hn

/-- The one pure statement of the law FnSixteenAround. -/
def FnSixteenAround.Pure : Prop :=
  ∀ (l0 : List Int) (l1 : List Int), l0.length ≤ maxLen → (∀ x ∈ l0, 0 ≤ x ∧ x ≤ 255) → l1.length ≤ maxLen → (∀ x ∈ l1, 0 ≤ x ∧ x ≤ 255) → ∃ k, laws_FnSixteenAround.f k l0 l1 = some true

theorem FnSixteenAround : FnSixteenAround.Pure := by
  intro l0 l1 h0 hb0 h1 hb1
  have hB0 : bytesP l0 := ⟨Nat.le_trans h0 (by decide), hb0⟩
  have hB1 : bytesP l1 := ⟨Nat.le_trans h1 (by decide), hb1⟩
  refine ⟨130001, ?_⟩
  unfold laws_FnSixteenAround.f
  obtain ⟨b, hb⟩ : ∃ b, laws_big.f l0 l1 = some b := by
    unfold laws_big.f
    split
    · exact ⟨_, rfl⟩
    · exact ⟨_, rfl⟩
  rw [hb, Option.bind_some]
  by_cases cb : b = true
  · rw [if_pos cb]
  rw [if_neg cb]
  obtain ⟨a, s1, ea⟩ := among_some l0 hB0 0 0 [3, 4, 5, 6, 7, 3, 4, 8, 9, 2, 10] (by omega) (by simp)
  unfold spec_DrawAllAround.f
  rw [ea, Option.bind_some, Option.bind_some, (allAround_both 130001 (by omega) a).2, (allAround_both 130001 (by omega) a).1, (countAround_all 130001 (by omega) a).1, (countAround_all 130001 (by omega) a).2, Option.bind_some, Option.bind_some, Option.bind_some, Option.bind_some]
  by_cases c : 3 ≤ a ∧ a ≤ 9
  · obtain ⟨n, rfl⟩ : ∃ n : Nat, a = (n : Int) := ⟨a.toNat, by omega⟩
    have hz := aroundL_size n (by omega)
    rw [if_pos c, Int.toNat_natCast, if_neg (by simp), eRows_self 130001 _ (by show (aroundL n).length ≤ _; omega) (fun x hx => by rw [(aroundL_row n (by omega) x hx).2.2.2.1]; omega) (by show (aroundL n).length + 20 < _; omega), Option.bind_some, if_pos rfl, if_neg (by simp), if_pos rfl]
    show laws_FnSixteenAround.j0 (130000 + 1) l1 (n : Int) (aroundL n) true (cntA n) (true != true) = some true
    simp only [laws_FnSixteenAround.j0]
    rw [if_neg (by decide), if_pos trivial, if_pos (show ((aroundL n).length : Int) = cntA n from rfl)]
    exact sx_l0 l1 hB1 n (by omega) (aroundL n).length 130000 0 (by omega) (by omega)
  · rw [if_neg c, if_neg (by decide), eRows_self 130001 _ (by simp) (fun x hx => by cases hx) (by simp), Option.bind_some, if_pos rfl, if_neg (by decide), if_pos rfl]
    show laws_FnSixteenAround.j0 (130000 + 1) l1 a [] false 0 (false != false) = some true
    simp only [laws_FnSixteenAround.j0]
    rw [if_neg (by decide), if_neg (by decide)]
    exact sx_j3 l1 hB1 130000 (by omega)

end Go.Proofs.Ytogafcjfaicpgaa.Pure
