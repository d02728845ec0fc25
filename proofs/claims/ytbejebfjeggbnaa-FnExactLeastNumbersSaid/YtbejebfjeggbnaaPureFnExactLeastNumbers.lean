/- The program's LeastNumbers returns what the reference's returns, for all arguments. No condition. -/
import Derived.Test.YtbejebfjeggbnaaMZx0
import Derived.Test.YtbejebfjeggbnaaMZx1
import Derived.Test.YtbejebfjeggbnaaMZx2
import Derived.Test.YtbejebfjeggbnaaMZx3
import Derived.Test.YtbejebfjeggbnaaMZx4
import Derived.Test.YtbejebfjeggbnaaMZx5
import Derived.Test.YtbejebfjeggbnaaMZx6
import Derived.Test.YtbejebfjeggbnaaMZx7
import Derived.Test.YtbejebfjeggbnaaMZx8
import Derived.Test.YtbejebfjeggbnaaMZx9
import Derived.Test.YtbejebfjeggbnaaV
namespace Go.Proofs.Ytbejebfjeggbnaa.Pure
open Go.RowKit Go.Proofs.YtbejebfjeggbnaaV Go.Proofs.Ytbejebfjeggbnaa.MZ Go.Proofs.YtbejebfjeggbnaaW.PrintWords Go.Proofs.YtbejebfjeggbnaaW.PrintLast Go.Proofs.YtbejebfjeggbnaaW.PrintMore

theorem in_eq (a lo hi : Int) : spec_l1In.f a lo hi = some (decide (lo ≤ a ∧ a ≤ hi)) := by
  unfold spec_l1In.f
  by_cases h : lo ≤ a
  · rw [if_pos h]; simp [h]
  · rw [if_neg h]; simp [h]

theorem within_eq (a lo hi : Int) : impl_within.f a lo hi = some (decide (lo ≤ a ∧ a ≤ hi)) := by
  unfold impl_within.f
  by_cases h : lo ≤ a
  · rw [if_pos h]; simp [h]
  · rw [if_neg h]; simp [h]

theorem w64 {x : Int} (h0 : -9223372036854775808 ≤ x) (h1 : x ≤ 9223372036854775807) : wrap64 x = x := by
  unfold wrap64
  omega

theorem rdNat (l : List Int) (i : Nat) (h : i < l.length) : rd l (i : Int) = l[i] := by
  unfold rd
  simp [List.getD_eq_getElem?_getD, List.getElem?_eq_getElem h]

theorem toIntS_loop (l : List Int) (hl : l.length ≤ 1048576) (d : Nat) : ∀ (k i : Nat) (x : List Int), i + d = l.length → d < k → x.length = l.length → x.take i = l.take i →
    laws_toIntS.l0 k l x (i : Int) = some l := by
  induction d with
  | zero =>
    intro k i x hi hk hx hp
    obtain ⟨k, rfl⟩ : ∃ m, k = m + 1 := ⟨k - 1, by omega⟩
    simp only [laws_toIntS.l0]
    rw [if_neg (by omega)]
    rw [List.take_of_length_le (by omega), List.take_of_length_le (by omega)] at hp
    rw [hp]
  | succ d ih =>
    intro k i x hi hk hx hp
    obtain ⟨k, rfl⟩ : ∃ m, k = m + 1 := ⟨k - 1, by omega⟩
    have hlt : i < l.length := by omega
    simp only [laws_toIntS.l0]
    rw [if_pos (by omega), if_pos (by omega), if_pos (by omega), rdNat l i hlt, w64 (by omega) (by omega)]
    refine ih k (i + 1) _ (by omega) (by omega) (by simpa using hx) ?_
    rw [Int.toNat_natCast, List.take_set, List.take_add_one, List.take_add_one, hp, List.getElem?_eq_getElem (by omega), List.getElem?_eq_getElem hlt]
    simp only [Option.toList_some]
    rw [List.set_append_right _ _ (by simp; omega)]
    simp [Nat.min_eq_left (Nat.le_of_lt hlt)]
theorem toIntS_eq (k : Nat) (l : List Int) (hl : l.length ≤ 1048576) (hk : l.length < k) : laws_toIntS.f k l = some l := by
  unfold laws_toIntS.f
  rw [if_pos (by omega), if_pos (by omega)]
  exact toIntS_loop l hl l.length k 0 _ (by omega) hk (by simp) (by simp)

theorem eqIntS_loop (l : List Int) (hl : l.length ≤ 1048576) (d : Nat) : ∀ (k i : Nat), i + d = l.length → d < k → laws_eqIntS.l0 k l l (i : Int) = some true := by
  induction d with
  | zero =>
    intro k i hi hk
    obtain ⟨k, rfl⟩ : ∃ m, k = m + 1 := ⟨k - 1, by omega⟩
    simp only [laws_eqIntS.l0]
    rw [if_neg (by omega)]
  | succ d ih =>
    intro k i hi hk
    obtain ⟨k, rfl⟩ : ∃ m, k = m + 1 := ⟨k - 1, by omega⟩
    simp only [laws_eqIntS.l0]
    rw [if_pos (by omega), if_pos (by omega), if_pos (by omega), if_pos trivial, w64 (by omega) (by omega)]
    exact ih k (i + 1) (by omega) (by omega)
theorem eqIntS_self (k : Nat) (l : List Int) (hl : l.length ≤ 1048576) (hk : l.length < k) : laws_eqIntS.f k l l = some true := by
  unfold laws_eqIntS.f
  rw [if_pos rfl]
  exact eqIntS_loop l hl l.length k 0 (by omega) hk

def numB (n : Int) : Bool := decide (-6 ≤ n ∧ n ≤ 2)
/-- Numbers that may be around. -/
def numsB (l : List Int) : Bool := decide (3 ≤ l.length ∧ l.length ≤ 9) && l.all numB

theorem l1All_loop (lo hi : Int) (l : List Int) (hl : l.length ≤ 1048576) (d : Nat) : ∀ (k i : Nat), i + d = l.length → d < k →
    spec_l1All.l0 k lo hi l (l.length : Int) (i : Int) = some ((l.drop i).all fun n => decide (lo ≤ n ∧ n ≤ hi)) := by
  induction d with
  | zero =>
    intro k i hi' hk
    obtain ⟨k, rfl⟩ : ∃ m, k = m + 1 := ⟨k - 1, by omega⟩
    simp only [spec_l1All.l0]
    rw [if_neg (by omega), List.drop_of_length_le (by omega)]
    rfl
  | succ d ih =>
    intro k i hi' hk
    obtain ⟨k, rfl⟩ : ∃ m, k = m + 1 := ⟨k - 1, by omega⟩
    have hlt : i < l.length := by omega
    simp only [spec_l1All.l0]
    rw [if_pos (by omega), if_pos (by omega), if_pos (by omega), rdNat l i hlt, in_eq, Option.bind_some, List.drop_eq_getElem_cons hlt, List.all_cons]
    by_cases c : lo ≤ l[i] ∧ l[i] ≤ hi
    · rw [if_pos (by simpa using c), w64 (by omega) (by omega)]
      have := ih k (i + 1) (by omega) (by omega)
      rw [show ((i : Int) + 1) = ((i + 1 : Nat) : Int) by omega, this, decide_eq_true c, Bool.true_and]
    · rw [if_neg (by simpa using c), decide_eq_false c]
      rfl
theorem duNumber_eq (k : Nat) (hk : 20 ≤ k) (l : List Int) : spec_duNumber.f k l = some (numsB l) := by
  unfold spec_duNumber.f numsB
  rw [in_eq, Option.bind_some]
  by_cases c : 3 ≤ l.length ∧ l.length ≤ 9
  · rw [if_pos (by rw [decide_eq_true_eq]; omega)]
    have := l1All_loop (-6) 2 l (by omega) l.length k 0 (by omega) (by omega)
    rw [show ((0 : Nat) : Int) = 0 from rfl] at this
    unfold spec_l1All.f
    rw [this, Option.bind_some, decide_eq_true c]
    rfl
  · rw [if_neg (by rw [decide_eq_true_eq]; omega), decide_eq_false c]
    rfl

theorem indexInt_loop (l : List Int) (hl : l.length ≤ 1048576) (d : Nat) : ∀ (k i : Nat), i + d = l.length → d < k →
    ∃ r, slices_IndexFunc_int_int.l0 k l (l.length : Int) (i : Int) = some r ∧ decide (r ≥ 0) = (l.drop i).any fun n => !numB n := by
  induction d with
  | zero =>
    intro k i hi hk
    obtain ⟨k, rfl⟩ : ∃ m, k = m + 1 := ⟨k - 1, by omega⟩
    refine ⟨-1, ?_, ?_⟩
    · simp only [slices_IndexFunc_int_int.l0]; rw [if_neg (by omega)]
    · rw [List.drop_of_length_le (by omega)]; rfl
  | succ d ih =>
    intro k i hi hk
    obtain ⟨k, rfl⟩ : ∃ m, k = m + 1 := ⟨k - 1, by omega⟩
    have hlt : i < l.length := by omega
    simp only [slices_IndexFunc_int_int.l0]
    rw [if_pos (by omega), if_pos (by omega), if_pos (by omega), rdNat l i hlt]
    unfold impl_areNumbers_1.f
    rw [within_eq, Option.bind_some, Option.bind_some, List.drop_eq_getElem_cons hlt, List.any_cons]
    by_cases c : -6 ≤ l[i] ∧ l[i] ≤ 2
    · obtain ⟨r, h1, h2⟩ := ih k (i + 1) (by omega) (by omega)
      refine ⟨r, ?_, ?_⟩
      · rw [if_neg (by simp [c]), w64 (by omega) (by omega)]
        exact h1
      · rw [h2]; simp [numB, c]
    · exact ⟨(i : Int), by rw [if_pos (by rw [decide_eq_false c]; rfl)], by simp [numB, c]⟩
theorem areNumbers_eq (k : Nat) (hk : 20 ≤ k) (l : List Int) : impl_areNumbers.f k l = some (numsB l) := by
  unfold impl_areNumbers.f numsB
  rw [within_eq, Option.bind_some]
  by_cases c : 3 ≤ l.length ∧ l.length ≤ 9
  · rw [if_pos (by rw [decide_eq_true_eq]; omega)]
    obtain ⟨r, h1, h2⟩ := indexInt_loop l (by omega) l.length k 0 (by omega) (by omega)
    rw [show ((0 : Nat) : Int) = 0 from rfl] at h1
    unfold slices_ContainsFunc_int_int.f slices_IndexFunc_int_int.f
    rw [h1, Option.bind_some, Option.bind_some, h2, decide_eq_true c, List.drop_zero, Bool.true_and, List.all_eq_not_any_not]
  · rw [if_neg (by rw [decide_eq_true_eq]; omega), decide_eq_false c]
    rfl

/-- What marking makes of n numbers, from number a on. -/
def markedInts (a n : Nat) : List Int := (List.range' 0 n).map fun (i : Nat) => ((a + i : Nat) : Int)
theorem markedInts_length (a n : Nat) : (markedInts a n).length = n := by simp [markedInts]
theorem markedInts_get (a n i : Nat) (h : i < n) : (markedInts a n)[i]? = some ((a + i : Nat) : Int) := by
  unfold markedInts
  rw [List.getElem?_map, List.getElem?_range' h]
  simp
theorem take_set_next (y O : List Int) (i : Nat) (v : Int) (hy : i < y.length) (h : y.take i = O.take i) (hv : O[i]? = some v) : (y.set i v).take (i + 1) = O.take (i + 1) := by
  rw [List.take_set, List.take_add_one, List.take_add_one, h, hv, List.getElem?_eq_getElem hy]
  simp only [Option.toList_some]
  have hO : i < O.length := by
    rcases Nat.lt_or_ge i O.length with h | h
    · exact h
    · rw [List.getElem?_eq_none h] at hv
      exact absurd hv (by simp)
  rw [List.set_append_right _ _ (by simp; omega)]
  simp [Nat.min_eq_left (Nat.le_of_lt hO)]
theorem markIntS_loop (a : Nat) (ha : a ≤ 1000) (n : Nat) (hn : n ≤ 1048576) (d : Nat) : ∀ (k i : Nat) (x : List Int), i + d = n → d < k → x.length = n → x.take i = (markedInts a n).take i →
    laws_markIntS.l0 k x ((a + i : Nat) : Int) (i : Int) = some (((a + n : Nat) : Int), markedInts a n) := by
  have hl := markedInts_length a n
  induction d with
  | zero =>
    intro k i x hi hk hx hp
    obtain ⟨k, rfl⟩ : ∃ m, k = m + 1 := ⟨k - 1, by omega⟩
    simp only [laws_markIntS.l0]
    rw [if_neg (by omega)]
    rw [List.take_of_length_le (by omega), List.take_of_length_le (by omega)] at hp
    rw [hp, show i = n by omega]
  | succ d ih =>
    intro k i x hi hk hx hp
    obtain ⟨k, rfl⟩ : ∃ m, k = m + 1 := ⟨k - 1, by omega⟩
    simp only [laws_markIntS.l0]
    rw [if_pos (by omega), if_pos (by omega), Int.toNat_natCast, w64 (x := ((a + i : Nat) : Int) + 1) (by omega) (by omega), w64 (x := (i : Int) + 1) (by omega) (by omega), show ((a + i : Nat) : Int) + 1 = ((a + (i + 1) : Nat) : Int) by omega, show (i : Int) + 1 = ((i + 1 : Nat) : Int) by omega]
    exact ih k (i + 1) _ (by omega) (by omega) (by simpa using hx) (take_set_next x _ i _ (by omega) hp (markedInts_get a n i (by omega)))
theorem markIntS_eq (k : Nat) (l : List Int) (hl : l.length ≤ 1048576) (hk : l.length < k) : laws_markIntS.f k l 1 = some (((1 + l.length : Nat) : Int), markedInts 1 l.length) :=
  markIntS_loop 1 (by omega) l.length hl l.length k 0 l (by omega) hk rfl (by simp)
theorem heldIntS_loop (a : Nat) (ha : a ≤ 1000) (n : Nat) (hn : n ≤ 1048576) (d : Nat) : ∀ (k i : Nat), i + d = n → d < k →
    laws_heldIntS.l0 k (markedInts a n) ((a + i : Nat) : Int) (i : Int) = some ((a + n : Nat) : Int) := by
  have hl := markedInts_length a n
  induction d with
  | zero =>
    intro k i hi hk
    obtain ⟨k, rfl⟩ : ∃ m, k = m + 1 := ⟨k - 1, by omega⟩
    simp only [laws_heldIntS.l0]
    rw [if_neg (by omega), show i = n by omega]
  | succ d ih =>
    intro k i hi hk
    obtain ⟨k, rfl⟩ : ∃ m, k = m + 1 := ⟨k - 1, by omega⟩
    have hm := markedInts_get a n i (by omega)
    rw [List.getElem?_eq_getElem (by omega)] at hm
    simp only [laws_heldIntS.l0]
    rw [if_pos (by omega), if_pos (by omega), rdNat _ i (by omega), Option.some.inj hm, if_pos rfl, w64 (x := ((a + i : Nat) : Int) + 1) (by omega) (by omega), w64 (x := (i : Int) + 1) (by omega) (by omega), show ((a + i : Nat) : Int) + 1 = ((a + (i + 1) : Nat) : Int) by omega, show (i : Int) + 1 = ((i + 1 : Nat) : Int) by omega]
    exact ih k (i + 1) (by omega) (by omega)
theorem heldIntS_eq (k : Nat) (n : Nat) (hn : n ≤ 1048576) (hk : n < k) : laws_heldIntS.f k (markedInts 1 n) 1 = some ((1 + n : Nat) : Int) :=
  heldIntS_loop 1 (by omega) n hn n k 0 (by omega) hk

def onL (l : List Int) (f : Nat) : List Int := (List.range l.length).map fun i => l.getD ((f + i) % l.length) 0
def backL (l : List Int) (f : Nat) : List Int := (List.range l.length).map fun i => l.getD ((f + l.length - i) % l.length) 0
def ltL : List Int → List Int → Bool
  | x :: a, y :: b => if x = y then ltL a b else decide (x < y)
  | _, _ => false
def bstep (b x : List Int) : List Int := if ltL x b = true then x else b
/-- The first one of all ways to tell a list. -/
def leastF (l : List Int) : Nat → Nat → List Int → List Int
  | 0, _, b => b
  | d + 1, f, b => leastF l d (f + 1) (bstep (bstep b (onL l f)) (backL l f))
theorem onL_length (l : List Int) (f : Nat) : (onL l f).length = l.length := by simp [onL]
theorem backL_length (l : List Int) (f : Nat) : (backL l f).length = l.length := by simp [backL]
theorem bstep_length (b x : List Int) (n : Nat) (h1 : b.length = n) (h2 : x.length = n) : (bstep b x).length = n := by
  unfold bstep
  split
  · exact h2
  · exact h1
theorem onL_get (l : List Int) (f i : Nat) (hi : i < l.length) : (onL l f)[i]? = some (rd l (((f + i) % l.length : Nat) : Int)) := by
  unfold onL
  rw [List.getElem?_map, List.getElem?_range hi]
  exact congrArg some (by unfold rd; rw [Int.toNat_natCast])
theorem backL_get (l : List Int) (f i : Nat) (hi : i < l.length) : (backL l f)[i]? = some (rd l (((f + l.length - i) % l.length : Nat) : Int)) := by
  unfold backL
  rw [List.getElem?_map, List.getElem?_range hi]
  exact congrArg some (by unfold rd; rw [Int.toNat_natCast])
theorem leastF_length (l : List Int) (d : Nat) : ∀ f b, b.length = l.length → (leastF l d f b).length = l.length := by
  induction d with
  | zero => intro f b h; exact h
  | succ d ih => intro f b h; exact ih _ _ (bstep_length _ _ _ (bstep_length _ _ _ h (onL_length l f)) (backL_length l f))
theorem tmodNat (a b : Nat) : Int.tmod (a : Int) (b : Int) = ((a % b : Nat) : Int) := rfl
theorem idx_on (n f i : Nat) (hn : n ≤ 9) (hf : f < n) (hi : i < n) : Int.tmod (wrap64 ((Int.tmod (wrap64 ((f : Int) + wrap64 ((i : Int) * 1))) (n : Int)) + (n : Int))) (n : Int) = (((f + i) % n : Nat) : Int) := by
  have hm := Nat.mod_lt (f + i) (show 0 < n by omega)
  rw [w64 (x := (i : Int) * 1) (by omega) (by omega), w64 (x := (f : Int) + (i : Int) * 1) (by omega) (by omega), show (f : Int) + (i : Int) * 1 = ((f + i : Nat) : Int) by omega, tmodNat, w64 (by omega) (by omega), show (((f + i) % n : Nat) : Int) + (n : Int) = (((f + i) % n + n : Nat) : Int) by omega, tmodNat, Nat.add_mod_right, Nat.mod_mod]
theorem idx_back (n f i : Nat) (hn : n ≤ 9) (hf : f < n) (hi : i < n) : Int.tmod (wrap64 ((Int.tmod (wrap64 ((f : Int) + wrap64 ((i : Int) * (-1)))) (n : Int)) + (n : Int))) (n : Int) = (((f + n - i) % n : Nat) : Int) := by
  rw [w64 (x := (i : Int) * (-1)) (by omega) (by omega), w64 (x := (f : Int) + (i : Int) * (-1)) (by omega) (by omega)]
  by_cases c : i ≤ f
  · have hm := Nat.mod_lt (f - i) (show 0 < n by omega)
    rw [show (f : Int) + (i : Int) * (-1) = ((f - i : Nat) : Int) by omega, tmodNat, w64 (by omega) (by omega), show (((f - i) % n : Nat) : Int) + (n : Int) = (((f - i) % n + n : Nat) : Int) by omega, tmodNat, Nat.add_mod_right, Nat.mod_mod, show f + n - i = f - i + n by omega, Nat.add_mod_right]
  · rw [show (f : Int) + (i : Int) * (-1) = -((i - f : Nat) : Int) by omega, Int.neg_tmod, tmodNat, Nat.mod_eq_of_lt (show i - f < n by omega), w64 (by omega) (by omega), show -((i - f : Nat) : Int) + (n : Int) = ((f + n - i : Nat) : Int) by omega, tmodNat]
theorem idxS_on (n f i : Nat) (hn : n ≤ 9) (hf : f < n) (hi : i < n) : Int.tmod (wrap64 ((f : Int) + (i : Int))) (n : Int) = (((f + i) % n : Nat) : Int) := by
  rw [w64 (by omega) (by omega), show (f : Int) + (i : Int) = ((f + i : Nat) : Int) by omega, tmodNat]
theorem idxS_back (n f i : Nat) (hn : n ≤ 9) (hf : f < n) (hi : i < n) : Int.tmod (wrap64 ((wrap64 ((f : Int) + (n : Int))) - (i : Int))) (n : Int) = (((f + n - i) % n : Nat) : Int) := by
  rw [w64 (x := (f : Int) + (n : Int)) (by omega) (by omega), w64 (by omega) (by omega), show (f : Int) + (n : Int) - (i : Int) = ((f + n - i : Nat) : Int) by omega, tmodNat]

theorem duBefore_loop (a b : List Int) (n : Nat) (ha : a.length = n) (hb : b.length = n) (hn : n ≤ 1000) (d : Nat) : ∀ (k i : Nat), i + d = n → d < k → spec_duBefore.l0 k a b (n : Int) (i : Int) = some (ltL (a.drop i) (b.drop i)) := by
  induction d with
  | zero =>
    intro k i hi hk
    obtain ⟨k, rfl⟩ : ∃ m, k = m + 1 := ⟨k - 1, by omega⟩
    simp only [spec_duBefore.l0]
    rw [if_neg (by omega), List.drop_of_length_le (by omega)]
    rfl
  | succ d ih =>
    intro k i hi hk
    obtain ⟨k, rfl⟩ : ∃ m, k = m + 1 := ⟨k - 1, by omega⟩
    have h1 : i < a.length := by omega
    have h2 : i < b.length := by omega
    simp only [spec_duBefore.l0]
    rw [if_pos (by omega), if_pos (by omega), if_pos (by omega), if_pos (by omega), rdNat a i h1, rdNat b i h2, List.drop_eq_getElem_cons h1, List.drop_eq_getElem_cons h2]
    unfold ltL
    by_cases c : a[i] = b[i]
    · rw [if_pos c, if_pos c, w64 (by omega) (by omega)]
      exact ih k (i + 1) (by omega) (by omega)
    · rw [if_neg c, if_neg c]
theorem duBefore_eq (k : Nat) (a b : List Int) (n : Nat) (ha : a.length = n) (hb : b.length = n) (hn : n ≤ 1000) (hk : n < k) : spec_duBefore.f k a b = some (ltL a b) := by
  unfold spec_duBefore.f
  rw [ha]
  exact duBefore_loop a b n ha hb hn n k 0 (by omega) hk

theorem cmpI_eq (x y : Int) : cmp_Compare_int.f x y = some (if x < y then -1 else if x > y then 1 else 0) := by
  unfold cmp_Compare_int.f cmp_isNaN_int.f
  simp only [bne_self_eq_false, Option.bind_some]
  rw [if_neg (by decide), if_neg (by decide)]
  split
  · rfl
  · split <;> rfl
theorem cmpL_loop (a b : List Int) (n : Nat) (ha : a.length = n) (hb : b.length = n) (hn : n ≤ 1000) (d : Nat) : ∀ (k i : Nat), i + d = n → d < k → ∃ c : Int, slices_Compare_int_int.l0 k a b a (n : Int) (i : Int) = some c ∧ decide (c < 0) = ltL (a.drop i) (b.drop i) := by
  induction d with
  | zero =>
    intro k i hi hk
    obtain ⟨k, rfl⟩ : ∃ m, k = m + 1 := ⟨k - 1, by omega⟩
    refine ⟨0, ?_, ?_⟩
    · simp only [slices_Compare_int_int.l0]
      rw [if_neg (by omega), if_neg (by omega)]
    · rw [List.drop_of_length_le (by omega)]
      rfl
  | succ d ih =>
    intro k i hi hk
    obtain ⟨k, rfl⟩ : ∃ m, k = m + 1 := ⟨k - 1, by omega⟩
    have h1 : i < a.length := by omega
    have h2 : i < b.length := by omega
    simp only [slices_Compare_int_int.l0]
    rw [if_pos (by omega), if_pos (by omega), if_pos (by omega), if_neg (by omega), if_pos (by omega), rdNat a i h1, rdNat b i h2, List.drop_eq_getElem_cons h1, List.drop_eq_getElem_cons h2, cmpI_eq, Option.bind_some]
    unfold ltL
    by_cases c : a[i] = b[i]
    · obtain ⟨r, e1, e2⟩ := ih k (i + 1) (by omega) (by omega)
      refine ⟨r, ?_, ?_⟩
      · rw [if_pos (by rw [if_neg (by omega), if_neg (by omega)]), w64 (by omega) (by omega)]
        exact e1
      · rw [if_pos c, e2]
    · rw [if_neg c]
      by_cases q : a[i] < b[i]
      · refine ⟨-1, ?_, ?_⟩
        · rw [if_pos q, if_neg (by decide)]
        · rw [decide_eq_true q]
          rfl
      · refine ⟨1, ?_, ?_⟩
        · rw [if_neg q, if_pos (show a[i] > b[i] by omega), if_neg (by decide)]
        · rw [decide_eq_false q]
          rfl
theorem cmpL_eq (k : Nat) (a b : List Int) (n : Nat) (ha : a.length = n) (hb : b.length = n) (hn : n ≤ 1000) (hk : n < k) : ∃ c : Int, slices_Compare_int_int.f k a b = some c ∧ decide (c < 0) = ltL a b := by
  unfold slices_Compare_int_int.f
  rw [ha]
  exact cmpL_loop a b n ha hb hn n k 0 (by omega) hk

theorem leastI_l2 (l b O : List Int) (n f : Nat) (st : Int) (steps : List Int) (x19 x20 : Int) (hl : l.length = n) (hn : n ≤ 9) (hO : O.length = n) (hb : b.length = n) (hq : 0 < n)
    (hI : ∀ i, i < n → ∃ j, j < n ∧ Int.tmod (wrap64 ((Int.tmod (wrap64 ((f : Int) + wrap64 ((i : Int) * st))) (n : Int)) + (n : Int))) (n : Int) = ((j : Nat) : Int) ∧ O[i]? = some (rd l ((j : Nat) : Int)))
    (K0 : Nat) (R : List Int) (hK : 20 ≤ K0) (hc : ∀ k, K0 ≤ k → impl_leastNumbers.l1 k l (bstep b O) (n : Int) (f : Int) (n : Int) (f : Int) steps x19 (wrap64 (x20 + 1)) = some R) (d : Nat) : ∀ (k i : Nat) (y : List Int), i + d = n → K0 + d + 1 ≤ k → y.length = n → y.take i = O.take i →
    impl_leastNumbers.l2 k l b (n : Int) (f : Int) st y (n : Int) (f : Int) steps x19 x20 (n : Int) (i : Int) = some R := by
  induction d with
  | zero =>
    intro k i y hi hk hy hp
    obtain ⟨k, rfl⟩ : ∃ m, k = m + 1 := ⟨k - 1, by omega⟩
    rw [List.take_of_length_le (by omega), List.take_of_length_le (by omega)] at hp
    subst hp
    obtain ⟨c, e1, e2⟩ := cmpL_eq k y b n hO hb (by omega) (by omega)
    simp only [impl_leastNumbers.l2]
    rw [if_neg (by omega), e1, Option.bind_some]
    have := hc k (by omega)
    unfold bstep at this
    rw [← e2] at this
    by_cases q : c < 0
    · rw [if_pos q]
      rw [decide_eq_true q, if_pos rfl] at this
      exact this
    · rw [if_neg q]
      rw [decide_eq_false q, if_neg (by decide)] at this
      exact this
  | succ d ih =>
    intro k i y hi hk hy hp
    obtain ⟨k, rfl⟩ : ∃ m, k = m + 1 := ⟨k - 1, by omega⟩
    obtain ⟨j, hj, ej, eO⟩ := hI i (by omega)
    simp only [impl_leastNumbers.l2]
    rw [if_pos (by omega), if_neg (by omega), ej, if_pos (by omega), if_pos (by omega), if_pos (by omega), if_pos (by omega), w64 (x := (i : Int) + 1) (by omega) (by omega), Int.toNat_natCast]
    exact ih k (i + 1) _ (by omega) (by omega) (by simpa using hy) (take_set_next y O i _ (by omega) hp eO)
theorem leastI_l0 (l : List Int) (n : Nat) (hl : l.length = n) (hn : n ≤ 9) (d : Nat) : ∀ (k f : Nat) (b : List Int), f + d = n → d * 100 + 100 ≤ k → b.length = n →
    impl_leastNumbers.l0 k l b (n : Int) (n : Int) (f : Int) = some (leastF l d f b) := by
  induction d with
  | zero =>
    intro k f b hf hk hb
    obtain ⟨k, rfl⟩ : ∃ m, k = m + 1 := ⟨k - 1, by omega⟩
    simp only [impl_leastNumbers.l0]
    rw [if_neg (by omega)]
    unfold slices_Clone_int_int.f
    simp only [Option.bind_some, List.nil_append, List.length_nil]
    rw [if_pos (by omega)]
    rfl
  | succ d ih =>
    intro k f b hf hk hb
    rw [Nat.succ_mul] at hk
    obtain ⟨k, rfl⟩ : ∃ m, k = m + 2 := ⟨k - 2, by omega⟩
    simp only [impl_leastNumbers.l0]
    rw [if_pos (by omega), Option.bind_some]
    have h3 : ∀ (b : List Int), b.length = n → ∀ k, d * 100 + 101 ≤ k → impl_leastNumbers.l1 k l b (n : Int) (f : Int) (n : Int) (f : Int) [1, -1] 2 2 = some (leastF l d (f + 1) b) := by
      intro b hb k hk
      obtain ⟨k, rfl⟩ : ∃ m, k = m + 1 := ⟨k - 1, by omega⟩
      simp only [impl_leastNumbers.l1]
      rw [if_neg (by omega), w64 (by omega) (by omega)]
      exact ih k (f + 1) b (by omega) (by omega) hb
    have h2 : ∀ (b : List Int), b.length = n → ∀ k, d * 100 + 130 ≤ k → impl_leastNumbers.l1 k l b (n : Int) (f : Int) (n : Int) (f : Int) [1, -1] 2 1 = some (leastF l d (f + 1) (bstep b (backL l f))) := by
      intro b hb k hk
      obtain ⟨k, rfl⟩ : ∃ m, k = m + 1 := ⟨k - 1, by omega⟩
      simp only [impl_leastNumbers.l1]
      rw [if_pos (by decide), if_pos (by decide), if_pos (by decide), if_pos (by omega), if_pos (by omega), Option.bind_some, show rd [1, -1] 1 = -1 from rfl, List.length_replicate, Int.toNat_natCast]
      have := leastI_l2 l b (backL l f) n f (-1) [1, -1] 2 1 hl hn (by rw [backL_length, hl]) hb (by omega) (fun i hi => ⟨(f + n - i) % n, Nat.mod_lt _ (by omega), idx_back n f i hn (by omega) hi, by rw [backL_get l f i (by omega), hl]⟩) (d * 100 + 101) (leastF l d (f + 1) (bstep b (backL l f))) (by omega) (fun k hk => by
        rw [w64 (x := (1 : Int) + 1) (by omega) (by omega)]
        exact h3 _ (bstep_length _ _ _ hb (by rw [backL_length, hl])) k hk) n k 0 (List.replicate n 0) (by omega) (by omega) (by simp) (by simp)
      exact this
    simp only [impl_leastNumbers.l1]
    rw [if_pos (by simp), if_pos (by decide), if_pos (by decide), if_pos (by omega), if_pos (by omega), Option.bind_some, show rd [1, -1] 0 = 1 from rfl, List.length_replicate, Int.toNat_natCast]
    have := leastI_l2 l b (onL l f) n f 1 [1, -1] 2 0 hl hn (by rw [onL_length, hl]) hb (by omega) (fun i hi => ⟨(f + i) % n, Nat.mod_lt _ (by omega), idx_on n f i hn (by omega) hi, by rw [onL_get l f i (by omega), hl]⟩) (d * 100 + 130) (leastF l (d + 1) f b) (by omega) (fun k hk => by
      rw [w64 (x := (0 : Int) + 1) (by omega) (by omega)]
      exact h2 _ (bstep_length _ _ _ hb (by rw [onL_length, hl])) k hk) n k 0 (List.replicate n 0) (by omega) (by omega) (by simp) (by simp)
    exact this

theorem leastS_l1 (l b O B : List Int) (n f : Nat) (hl : l.length = n) (hn : n ≤ 9) (hf : f < n) (hO : O = onL l f) (hB : B = backL l f) (hb : b.length = n)
    (K0 : Nat) (R : List Int) (hK : 20 ≤ K0) (hc : ∀ k, K0 ≤ k → spec_duLeast.l0 k l (n : Int) (bstep (bstep b O) B) (wrap64 ((f : Int) + 1)) = some R) (d : Nat) : ∀ (k i : Nat) (y z : List Int), i + d = n → K0 + d + 1 ≤ k → y.length = n → z.length = n → y.take i = O.take i → z.take i = B.take i →
    spec_duLeast.l1 k l (n : Int) b (f : Int) y z (n : Int) (i : Int) = some R := by
  have hOl : O.length = n := by rw [hO, onL_length, hl]
  have hBl : B.length = n := by rw [hB, backL_length, hl]
  induction d with
  | zero =>
    intro k i y z hi hk hy hz hp hq
    obtain ⟨k, rfl⟩ : ∃ m, k = m + 1 := ⟨k - 1, by omega⟩
    rw [List.take_of_length_le (by omega), List.take_of_length_le (by omega)] at hp hq
    rw [hp, hq]
    have := hc k (by omega)
    simp only [spec_duLeast.l1]
    rw [if_neg (by omega), duBefore_eq k O b n hOl hb (by omega) (by omega), Option.bind_some]
    unfold bstep at this
    by_cases c : ltL O b = true
    · rw [if_pos c] at this
      rw [if_pos c, duBefore_eq k B O n hBl hOl (by omega) (by omega), Option.bind_some]
      by_cases e : ltL B O = true
      · rw [if_pos e] at this
        rw [if_pos e]
        exact this
      · rw [if_neg e] at this
        rw [if_neg e]
        exact this
    · rw [if_neg c] at this
      rw [if_neg c, duBefore_eq k B b n hBl hb (by omega) (by omega), Option.bind_some]
      by_cases e : ltL B b = true
      · rw [if_pos e] at this
        rw [if_pos e]
        exact this
      · rw [if_neg e] at this
        rw [if_neg e]
        exact this
  | succ d ih =>
    intro k i y z hi hk hy hz hp hq
    obtain ⟨k, rfl⟩ : ∃ m, k = m + 1 := ⟨k - 1, by omega⟩
    have m1 := Nat.mod_lt (f + i) (show 0 < n by omega)
    have m2 := Nat.mod_lt (f + n - i) (show 0 < n by omega)
    simp only [spec_duLeast.l1]
    rw [if_pos (by omega), if_neg (by omega), idxS_on n f i hn hf (by omega), idxS_back n f i hn hf (by omega), if_pos (by omega), if_pos (by omega), if_pos (by omega), if_pos (by omega), if_pos (by omega), if_pos (by omega), if_pos (by omega), w64 (x := (i : Int) + 1) (by omega) (by omega), Int.toNat_natCast]
    exact ih k (i + 1) _ _ (by omega) (by omega) (by simpa using hy) (by simpa using hz) (take_set_next y O i _ (by omega) hp (by rw [hO, onL_get l f i (by omega), hl])) (take_set_next z B i _ (by omega) hq (by rw [hB, backL_get l f i (by omega), hl]))
theorem leastS_l0 (l : List Int) (n : Nat) (hl : l.length = n) (hn : n ≤ 9) (d : Nat) : ∀ (k f : Nat) (b : List Int), f + d = n → d * 100 + 100 ≤ k → b.length = n →
    spec_duLeast.l0 k l (n : Int) b (f : Int) = some (leastF l d f b) := by
  induction d with
  | zero =>
    intro k f b hf hk hb
    obtain ⟨k, rfl⟩ : ∃ m, k = m + 1 := ⟨k - 1, by omega⟩
    simp only [spec_duLeast.l0]
    rw [if_neg (by omega)]
    rfl
  | succ d ih =>
    intro k f b hf hk hb
    rw [Nat.succ_mul] at hk
    obtain ⟨k, rfl⟩ : ∃ m, k = m + 1 := ⟨k - 1, by omega⟩
    simp only [spec_duLeast.l0]
    rw [if_pos (by omega), if_pos (by omega), if_pos (by omega), hl, Int.toNat_natCast]
    have := leastS_l1 l b (onL l f) (backL l f) n f hl hn (by omega) rfl rfl hb (d * 100 + 100) (leastF l (d + 1) f b) (by omega) (fun k hk => by
      rw [w64 (x := (f : Int) + 1) (by omega) (by omega)]
      exact ih k (f + 1) _ (by omega) hk (bstep_length _ _ _ (bstep_length _ _ _ hb (by rw [onL_length, hl])) (by rw [backL_length, hl]))) n k 0 (List.replicate n 0) (List.replicate n 0) (by omega) (by omega) (by simp) (by simp) (by simp) (by simp)
    exact this
theorem least_both (k : Nat) (hk : 2000 ≤ k) (l : List Int) (hl : l.length ≤ 9) : spec_duLeast.f k l = some (leastF l l.length 0 l) ∧ impl_leastNumbers.f k l = some (leastF l l.length 0 l) := by
  constructor
  · unfold spec_duLeast.f spec_l1Own.f
    simp only [Option.bind_some, List.nil_append, List.length_nil]
    rw [if_pos (by omega), Option.bind_some]
    exact leastS_l0 l l.length rfl hl l.length k 0 l (by omega) (by omega) rfl
  · unfold impl_leastNumbers.f
    exact leastI_l0 l l.length rfl hl l.length k 0 l (by omega) (by omega) rfl

/-- The one pure statement of the law FnExactLeastNumbers. -/
def FnExactLeastNumbers.Pure : Prop :=
  ∀ (l0 : List Int), l0.length ≤ maxLen → (∀ x ∈ l0, I64 x) → ∃ k, laws_FnExactLeastNumbers.f k l0 = some true

theorem FnExactLeastNumbers : FnExactLeastNumbers.Pure := by
  intro l hl _
  obtain ⟨k, hk⟩ : ∃ k : Nat, 1048600 ≤ k := ⟨1048600, Nat.le_refl _⟩
  refine ⟨k + 3, ?_⟩
  unfold laws_FnExactLeastNumbers.f
  by_cases c : 1048576 < l.length
  · rw [if_pos (by omega)]
  · rw [if_neg (by omega)]
    have hT : ∀ k, 1048600 ≤ k → laws_toIntS.f k l = some l := fun k hk => toIntS_eq k l (by omega) (by omega)
    have hR : ∃ R : List Int × Bool, R.1.length ≤ 9 ∧ ∀ k, 1048600 ≤ k → spec_LeastNumbers.f k l = some R ∧ impl_LeastNumbers.f k l = some R := by
      by_cases n : numsB l = true
      · have hl9 : l.length ≤ 9 := by
          unfold numsB at n
          rw [Bool.and_eq_true, decide_eq_true_eq] at n
          exact n.1.2
        refine ⟨(leastF l l.length 0 l, true), by rw [leastF_length l _ _ _ rfl]; exact hl9, fun k hk => ?_⟩
        obtain ⟨e1, e2⟩ := least_both k (by omega) l hl9
        unfold spec_LeastNumbers.f impl_LeastNumbers.f
        rw [duNumber_eq _ (by omega), areNumbers_eq _ (by omega), Option.bind_some, Option.bind_some, if_pos n, if_pos n, e1, e2]
        exact ⟨rfl, rfl⟩
      · refine ⟨([], false), by simp, fun k hk => ?_⟩
        unfold spec_LeastNumbers.f impl_LeastNumbers.f
        rw [duNumber_eq _ (by omega), areNumbers_eq _ (by omega), Option.bind_some, Option.bind_some, if_neg n, if_neg n]
        exact ⟨rfl, rfl⟩
    obtain ⟨⟨r, g⟩, hr, hall⟩ := hR
    have hr1 : r.length ≤ 9 := hr
    have hE : ∀ k, 1048600 ≤ k → laws_eqIntS.f k r r = some true := fun k hk => eqIntS_self k r (by omega) (by omega)
    have hX : ∀ k, 1048600 ≤ k → laws_eqIntS.f k l l = some true := fun k hk => eqIntS_self k l (by omega) (by omega)
    have hM : ∀ k, 1048600 ≤ k → laws_markIntS.f k r 1 = some (((1 + r.length : Nat) : Int), markedInts 1 r.length) := fun k hk => markIntS_eq k r (by omega) (by omega)
    have hN : ∀ k, 1048600 ≤ k → laws_markIntS.f k l 1 = some (((1 + l.length : Nat) : Int), markedInts 1 l.length) := fun k hk => markIntS_eq k l (by omega) (by omega)
    have hH : ∀ k, 1048600 ≤ k → laws_heldIntS.f k (markedInts 1 r.length) 1 = some ((1 + r.length : Nat) : Int) := fun k hk => heldIntS_eq k r.length (by omega) (by omega)
    simp only [hT (k + 3) (by omega), Option.bind_some]
    simp only [(hall (k + 3) (by omega)).1, (hall (k + 3) (by omega)).2, Option.bind_some]
    rw [hE (k + 3) (by omega), Option.bind_some, if_pos rfl]
    simp only [laws_FnExactLeastNumbers.j0]
    rw [if_neg (by simp), hT (k + 2) (by omega), Option.bind_some, hX (k + 2) (by omega), Option.bind_some, if_pos rfl, hN (k + 2) (by omega), Option.bind_some, if_neg (by omega), hE (k + 2) (by omega), Option.bind_some, if_pos rfl]
    simp only [laws_FnExactLeastNumbers.j1]
    rw [if_neg (by simp), hM (k + 1) (by omega), Option.bind_some]
    simp only []
    rw [hH (k + 1) (by omega), Option.bind_some, if_neg (by omega), if_pos rfl]
    simp only [hT (k + 1) (by omega), Option.bind_some]
    simp only [(hall (k + 1) (by omega)).2, Option.bind_some]
    rw [hE (k + 1) (by omega), Option.bind_some, if_pos rfl]
    simp only [laws_FnExactLeastNumbers.j2]
    rw [if_neg (by simp), hH k (by omega), Option.bind_some, if_neg (by omega), if_pos rfl]

end Go.Proofs.Ytbejebfjeggbnaa.Pure
