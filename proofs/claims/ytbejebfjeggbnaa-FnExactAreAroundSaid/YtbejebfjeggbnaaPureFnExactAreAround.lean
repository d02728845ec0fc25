/- The program's AreAround returns what the reference's returns, for all arguments. No condition. -/
import Derived.Test.YtbejebfjeggbnaaMSx0
import Derived.Test.YtbejebfjeggbnaaMSx2
import Derived.Test.YtbejebfjeggbnaaMSx3
import Derived.Test.YtbejebfjeggbnaaMSx4
import Derived.Test.YtbejebfjeggbnaaMSx5
import Derived.Test.YtbejebfjeggbnaaMSx6
import Derived.Test.YtbejebfjeggbnaaMSx7
import Derived.Test.YtbejebfjeggbnaaMSx8
import Derived.Test.YtbejebfjeggbnaaV
namespace Go.Proofs.Ytbejebfjeggbnaa.Pure
open Go.RowKit Go.Proofs.YtbejebfjeggbnaaV Go.Proofs.Ytbejebfjeggbnaa.MS Go.Proofs.YtbejebfjeggbnaaW.PrintWords Go.Proofs.YtbejebfjeggbnaaW.PrintLast Go.Proofs.YtbejebfjeggbnaaW.PrintMore

theorem in_eq (a lo hi : Int) : spec_l1In.f a lo hi = some (decide (lo ≤ a ∧ a ≤ hi)) := by
  unfold spec_l1In.f
  by_cases h : lo ≤ a
  · rw [if_pos h]; simp [h]
  · rw [if_neg h]; simp [h]

theorem within_eq (a lo hi : Int) : impl_within.f a lo hi = some (decide (lo ≤ a ∧ a ≤ hi)) := by
  unfold impl_within.f
  by_cases h : lo ≤ a
  · rw [if_pos h]; simp [h]
  · rw [if_neg h]; simp [h]

theorem w64 {x : Int} (h0 : -9223372036854775808 ≤ x) (h1 : x ≤ 9223372036854775807) : wrap64 x = x := by
  unfold wrap64
  omega

theorem rdNat (l : List Int) (i : Nat) (h : i < l.length) : rd l (i : Int) = l[i] := by
  unfold rd
  simp [List.getD_eq_getElem?_getD, List.getElem?_eq_getElem h]

theorem toIntS_loop (l : List Int) (hl : l.length ≤ 1048576) (d : Nat) : ∀ (k i : Nat) (x : List Int), i + d = l.length → d < k → x.length = l.length → x.take i = l.take i →
    laws_toIntS.l0 k l x (i : Int) = some l := by
  induction d with
  | zero =>
    intro k i x hi hk hx hp
    obtain ⟨k, rfl⟩ : ∃ m, k = m + 1 := ⟨k - 1, by omega⟩
    simp only [laws_toIntS.l0]
    rw [if_neg (by omega)]
    rw [List.take_of_length_le (by omega), List.take_of_length_le (by omega)] at hp
    rw [hp]
  | succ d ih =>
    intro k i x hi hk hx hp
    obtain ⟨k, rfl⟩ : ∃ m, k = m + 1 := ⟨k - 1, by omega⟩
    have hlt : i < l.length := by omega
    simp only [laws_toIntS.l0]
    rw [if_pos (by omega), if_pos (by omega), if_pos (by omega), rdNat l i hlt, w64 (by omega) (by omega)]
    refine ih k (i + 1) _ (by omega) (by omega) (by simpa using hx) ?_
    rw [Int.toNat_natCast, List.take_set, List.take_add_one, List.take_add_one, hp, List.getElem?_eq_getElem (by omega), List.getElem?_eq_getElem hlt]
    simp only [Option.toList_some]
    rw [List.set_append_right _ _ (by simp; omega)]
    simp [Nat.min_eq_left (Nat.le_of_lt hlt)]
theorem toIntS_eq (k : Nat) (l : List Int) (hl : l.length ≤ 1048576) (hk : l.length < k) : laws_toIntS.f k l = some l := by
  unfold laws_toIntS.f
  rw [if_pos (by omega), if_pos (by omega)]
  exact toIntS_loop l hl l.length k 0 _ (by omega) hk (by simp) (by simp)

theorem eqIntS_loop (l : List Int) (hl : l.length ≤ 1048576) (d : Nat) : ∀ (k i : Nat), i + d = l.length → d < k → laws_eqIntS.l0 k l l (i : Int) = some true := by
  induction d with
  | zero =>
    intro k i hi hk
    obtain ⟨k, rfl⟩ : ∃ m, k = m + 1 := ⟨k - 1, by omega⟩
    simp only [laws_eqIntS.l0]
    rw [if_neg (by omega)]
  | succ d ih =>
    intro k i hi hk
    obtain ⟨k, rfl⟩ : ∃ m, k = m + 1 := ⟨k - 1, by omega⟩
    simp only [laws_eqIntS.l0]
    rw [if_pos (by omega), if_pos (by omega), if_pos (by omega), if_pos trivial, w64 (by omega) (by omega)]
    exact ih k (i + 1) (by omega) (by omega)
theorem eqIntS_self (k : Nat) (l : List Int) (hl : l.length ≤ 1048576) (hk : l.length < k) : laws_eqIntS.f k l l = some true := by
  unfold laws_eqIntS.f
  rw [if_pos rfl]
  exact eqIntS_loop l hl l.length k 0 (by omega) hk

def numB (n : Int) : Bool := decide (-6 ≤ n ∧ n ≤ 2)
/-- Numbers that may be around. -/
def numsB (l : List Int) : Bool := decide (3 ≤ l.length ∧ l.length ≤ 9) && l.all numB

theorem l1All_loop (lo hi : Int) (l : List Int) (hl : l.length ≤ 1048576) (d : Nat) : ∀ (k i : Nat), i + d = l.length → d < k →
    spec_l1All.l0 k lo hi l (l.length : Int) (i : Int) = some ((l.drop i).all fun n => decide (lo ≤ n ∧ n ≤ hi)) := by
  induction d with
  | zero =>
    intro k i hi' hk
    obtain ⟨k, rfl⟩ : ∃ m, k = m + 1 := ⟨k - 1, by omega⟩
    simp only [spec_l1All.l0]
    rw [if_neg (by omega), List.drop_of_length_le (by omega)]
    rfl
  | succ d ih =>
    intro k i hi' hk
    obtain ⟨k, rfl⟩ : ∃ m, k = m + 1 := ⟨k - 1, by omega⟩
    have hlt : i < l.length := by omega
    simp only [spec_l1All.l0]
    rw [if_pos (by omega), if_pos (by omega), if_pos (by omega), rdNat l i hlt, in_eq, Option.bind_some, List.drop_eq_getElem_cons hlt, List.all_cons]
    by_cases c : lo ≤ l[i] ∧ l[i] ≤ hi
    · rw [if_pos (by simpa using c), w64 (by omega) (by omega)]
      have := ih k (i + 1) (by omega) (by omega)
      rw [show ((i : Int) + 1) = ((i + 1 : Nat) : Int) by omega, this, decide_eq_true c, Bool.true_and]
    · rw [if_neg (by simpa using c), decide_eq_false c]
      rfl
theorem duNumber_eq (k : Nat) (hk : 20 ≤ k) (l : List Int) : spec_duNumber.f k l = some (numsB l) := by
  unfold spec_duNumber.f numsB
  rw [in_eq, Option.bind_some]
  by_cases c : 3 ≤ l.length ∧ l.length ≤ 9
  · rw [if_pos (by rw [decide_eq_true_eq]; omega)]
    have := l1All_loop (-6) 2 l (by omega) l.length k 0 (by omega) (by omega)
    rw [show ((0 : Nat) : Int) = 0 from rfl] at this
    unfold spec_l1All.f
    rw [this, Option.bind_some, decide_eq_true c]
    rfl
  · rw [if_neg (by rw [decide_eq_true_eq]; omega), decide_eq_false c]
    rfl

theorem indexInt_loop (l : List Int) (hl : l.length ≤ 1048576) (d : Nat) : ∀ (k i : Nat), i + d = l.length → d < k →
    ∃ r, slices_IndexFunc_int_int.l0 k l (l.length : Int) (i : Int) = some r ∧ decide (r ≥ 0) = (l.drop i).any fun n => !numB n := by
  induction d with
  | zero =>
    intro k i hi hk
    obtain ⟨k, rfl⟩ : ∃ m, k = m + 1 := ⟨k - 1, by omega⟩
    refine ⟨-1, ?_, ?_⟩
    · simp only [slices_IndexFunc_int_int.l0]; rw [if_neg (by omega)]
    · rw [List.drop_of_length_le (by omega)]; rfl
  | succ d ih =>
    intro k i hi hk
    obtain ⟨k, rfl⟩ : ∃ m, k = m + 1 := ⟨k - 1, by omega⟩
    have hlt : i < l.length := by omega
    simp only [slices_IndexFunc_int_int.l0]
    rw [if_pos (by omega), if_pos (by omega), if_pos (by omega), rdNat l i hlt]
    unfold impl_areNumbers_1.f
    rw [within_eq, Option.bind_some, Option.bind_some, List.drop_eq_getElem_cons hlt, List.any_cons]
    by_cases c : -6 ≤ l[i] ∧ l[i] ≤ 2
    · obtain ⟨r, h1, h2⟩ := ih k (i + 1) (by omega) (by omega)
      refine ⟨r, ?_, ?_⟩
      · rw [if_neg (by simp [c]), w64 (by omega) (by omega)]
        exact h1
      · rw [h2]; simp [numB, c]
    · exact ⟨(i : Int), by rw [if_pos (by rw [decide_eq_false c]; rfl)], by simp [numB, c]⟩
theorem areNumbers_eq (k : Nat) (hk : 20 ≤ k) (l : List Int) : impl_areNumbers.f k l = some (numsB l) := by
  unfold impl_areNumbers.f numsB
  rw [within_eq, Option.bind_some]
  by_cases c : 3 ≤ l.length ∧ l.length ≤ 9
  · rw [if_pos (by rw [decide_eq_true_eq]; omega)]
    obtain ⟨r, h1, h2⟩ := indexInt_loop l (by omega) l.length k 0 (by omega) (by omega)
    rw [show ((0 : Nat) : Int) = 0 from rfl] at h1
    unfold slices_ContainsFunc_int_int.f slices_IndexFunc_int_int.f
    rw [h1, Option.bind_some, Option.bind_some, h2, decide_eq_true c, List.drop_zero, Bool.true_and, List.all_eq_not_any_not]
  · rw [if_neg (by rw [decide_eq_true_eq]; omega), decide_eq_false c]
    rfl

theorem pegsBy_loop (l : List Int) (hl : l.length ≤ 9) (d : Nat) : ∀ (k k' i : Nat) (x : List S60), i + d = l.length → d < k → d < k' → x.length = i + 2 →
    ∃ r, spec_duMake.l0 k l x (l.length : Int) (i : Int) = some r ∧ impl_pegsBy.l0 k' l x (l.length : Int) (i : Int) = some r ∧ r.length = l.length + 2 ∧ ∀ j, j < i + 2 → r[j]? = x[j]? := by
  induction d with
  | zero =>
    intro k k' i x hi hk hk' hx
    obtain ⟨k, rfl⟩ : ∃ m, k = m + 1 := ⟨k - 1, by omega⟩
    obtain ⟨k', rfl⟩ : ∃ m, k' = m + 1 := ⟨k' - 1, by omega⟩
    refine ⟨x, ?_, ?_, by omega, fun _ _ => rfl⟩
    · simp only [spec_duMake.l0]
      rw [if_neg (by omega)]
    · simp only [impl_pegsBy.l0]
      rw [if_neg (by omega)]
  | succ d ih =>
    intro k k' i x hi hk hk' hx
    obtain ⟨k, rfl⟩ : ∃ m, k = m + 1 := ⟨k - 1, by omega⟩
    obtain ⟨k', rfl⟩ : ∃ m, k' = m + 1 := ⟨k' - 1, by omega⟩
    have e1 : wrap64 ((i : Int) + 1) = ((i + 1 : Nat) : Int) := w64 (by omega) (by omega)
    have e2 : wrap64 ((x.length : Int) - 1) = ((i + 1 : Nat) : Int) := by rw [w64 (by omega) (by omega)]; omega
    have e3 : wrap64 ((x.length : Int) - 2) = (i : Int) := by rw [w64 (by omega) (by omega)]; omega
    have hn : (l.length : Int) ≠ 0 := by omega
    have hm0 : 0 ≤ Int.tmod ((i + 1 : Nat) : Int) (l.length : Int) := Int.tmod_nonneg _ (by omega)
    have hm1 : Int.tmod ((i + 1 : Nat) : Int) (l.length : Int) < (l.length : Int) := Int.tmod_lt_of_pos _ (by omega)
    simp only [spec_duMake.l0, impl_pegsBy.l0]
    rw [e1, e2, e3, if_pos (by omega), if_neg hn, if_pos hm0, if_pos hm1, if_pos (by omega), if_pos (by omega), if_pos (by omega), if_pos (by omega), if_pos (by omega),
      if_pos (by omega), if_neg hn, if_pos hm0, if_pos hm1, if_pos (by omega), if_pos (by omega), if_pos (by omega), if_pos (by omega), if_pos (by omega)]
    generalize (⟨wrap64 (_ - _), wrap64 (_ - _)⟩ : S60) = q
    obtain ⟨r, h1, h2, h3, h4⟩ := ih k k' (i + 1) (x ++ [q]) (by omega) (by omega) (by omega) (by simp; omega)
    refine ⟨r, h1, h2, h3, fun j hj => ?_⟩
    rw [h4 j (by omega), List.getElem?_append_left (by omega)]
theorem pegsBy_eq (l : List Int) (hl : l.length ≤ 9) : ∃ r, (∀ k, 10 ≤ k → spec_duMake.f k l = some r) ∧ (∀ k, 10 ≤ k → impl_pegsBy.f k l = some r) ∧ r.length = l.length + 2 := by
  obtain ⟨r, h1, h2, h3, _⟩ := pegsBy_loop l hl l.length 10 10 0 [⟨1, 0⟩, ⟨0, 1⟩] (by omega) (by omega) (by omega) rfl
  refine ⟨r, fun k hk => ?_, fun k hk => ?_, h3⟩
  · obtain ⟨r1, g1, g2, _, _⟩ := pegsBy_loop l hl l.length k 10 0 [⟨1, 0⟩, ⟨0, 1⟩] (by omega) (by omega) (by omega) rfl
    rw [h2] at g2
    rw [Option.some.inj g2]
    exact g1
  · obtain ⟨r1, g1, g2, _, _⟩ := pegsBy_loop l hl l.length 10 k 0 [⟨1, 0⟩, ⟨0, 1⟩] (by omega) (by omega) (by omega) rfl
    rw [h1] at g1
    rw [Option.some.inj g1]
    exact g2

def sumW (l : List Int) (s : Int) : Int := l.foldl (fun a n => wrap64 (a + n)) s
theorem duSum_loop (l : List Int) (hl : l.length ≤ 9) (d : Nat) : ∀ (k i : Nat) (s : Int), i + d = l.length → d < k → spec_duSum.l0 k s l (l.length : Int) (i : Int) = some (sumW (l.drop i) s) := by
  induction d with
  | zero =>
    intro k i s hi hk
    obtain ⟨k, rfl⟩ : ∃ m, k = m + 1 := ⟨k - 1, by omega⟩
    simp only [spec_duSum.l0]
    rw [if_neg (by omega), List.drop_of_length_le (by omega)]
    rfl
  | succ d ih =>
    intro k i s hi hk
    obtain ⟨k, rfl⟩ : ∃ m, k = m + 1 := ⟨k - 1, by omega⟩
    have hlt : i < l.length := by omega
    simp only [spec_duSum.l0]
    rw [if_pos (by omega), if_pos (by omega), if_pos (by omega), rdNat l i hlt, w64 (x := (i : Int) + 1) (by omega) (by omega), show ((i : Int) + 1) = ((i + 1 : Nat) : Int) by omega, ih k (i + 1) _ (by omega) (by omega), List.drop_eq_getElem_cons hlt]
    rfl
/-- What is asked of numbers around. -/
def isAroundB (l : List Int) (r : List S60) : Bool :=
  ((rd_T60 r (l.length : Int)).f0 == (rd_T60 r 0).f0 && (rd_T60 r (l.length : Int)).f1 == (rd_T60 r 0).f1) && ((rd_T60 r ((l.length : Int) + 1)).f0 == (rd_T60 r 1).f0 && (rd_T60 r ((l.length : Int) + 1)).f1 == (rd_T60 r 1).f1) && sumW l 0 == 3 * (l.length : Int) - 12
theorem areAround_loop (l : List Int) (hl : l.length ≤ 9) (r : List S60) (hr : ∀ k, 10 ≤ k → impl_pegsBy.f k l = some r) (hlen : r.length = l.length + 2) (d : Nat) : ∀ (k i : Nat) (s : Int), i + d = l.length → d + 11 ≤ k → sumW (l.drop i) s = sumW l 0 →
    impl_areAround.l0 k l s l (l.length : Int) (i : Int) = some (isAroundB l r) := by
  induction d with
  | zero =>
    intro k i s hi hk hs
    obtain ⟨k, rfl⟩ : ∃ m, k = m + 1 := ⟨k - 1, by omega⟩
    rw [List.drop_of_length_le (by omega)] at hs
    have hs' : s = sumW l 0 := hs
    subst hs'
    simp only [impl_areAround.l0]
    rw [if_neg (by omega), w64 (x := 3 * (l.length : Int)) (by omega) (by omega), w64 (x := 3 * (l.length : Int) - 12) (by omega) (by omega), hr k (by omega), Option.bind_some, w64 (x := (l.length : Int) + 1) (by omega) (by omega), if_pos (show 0 ≤ (l.length : Int) by omega), if_pos (show (l.length : Int) < (r.length : Int) by omega), if_pos (show 0 < (r.length : Int) by omega), if_pos (show 0 ≤ (l.length : Int) + 1 by omega), if_pos (show (l.length : Int) + 1 < (r.length : Int) by omega), if_pos (show 1 < (r.length : Int) by omega)]
    unfold isAroundB
    generalize ((rd_T60 r (l.length : Int)).f0 == (rd_T60 r 0).f0 && (rd_T60 r (l.length : Int)).f1 == (rd_T60 r 0).f1) = b1
    generalize ((rd_T60 r ((l.length : Int) + 1)).f0 == (rd_T60 r 1).f0 && (rd_T60 r ((l.length : Int) + 1)).f1 == (rd_T60 r 1).f1) = b2
    by_cases c : sumW l 0 = 3 * (l.length : Int) - 12
    · rw [if_pos c, beq_iff_eq.mpr c]
      cases b1 <;> cases b2 <;> rfl
    · rw [if_neg c, beq_eq_false_iff_ne.mpr c]
      cases b1 <;> cases b2 <;> rfl
  | succ d ih =>
    intro k i s hi hk hs
    obtain ⟨k, rfl⟩ : ∃ m, k = m + 1 := ⟨k - 1, by omega⟩
    have hlt : i < l.length := by omega
    simp only [impl_areAround.l0]
    rw [if_pos (by omega), if_pos (by omega), if_pos (by omega), rdNat l i hlt, w64 (x := (i : Int) + 1) (by omega) (by omega), show ((i : Int) + 1) = ((i + 1 : Nat) : Int) by omega]
    refine ih k (i + 1) _ (by omega) (by omega) ?_
    rw [List.drop_eq_getElem_cons hlt] at hs
    exact hs
theorem duIs_eq (k : Nat) (hk : 20 ≤ k) (l : List Int) (hl : l.length ≤ 9) (r : List S60) (hr : ∀ k, 10 ≤ k → spec_duMake.f k l = some r) (hlen : r.length = l.length + 2) : spec_duIs.f k l = some (isAroundB l r) := by
  unfold spec_duIs.f spec_duSum.f
  have h1 := duSum_loop l hl l.length k 0 0 (by omega) (by omega)
  rw [show ((0 : Nat) : Int) = 0 from rfl, List.drop_zero] at h1
  rw [hr k (by omega), Option.bind_some, h1, Option.bind_some, w64 (x := 3 * (l.length : Int)) (by omega) (by omega), w64 (x := 3 * (l.length : Int) - 12) (by omega) (by omega), w64 (x := (l.length : Int) + 1) (by omega) (by omega), if_pos (show 0 ≤ (l.length : Int) by omega), if_pos (show (l.length : Int) < (r.length : Int) by omega), if_pos (show 0 < (r.length : Int) by omega), if_pos (show 0 ≤ (l.length : Int) + 1 by omega), if_pos (show (l.length : Int) + 1 < (r.length : Int) by omega), if_pos (show 1 < (r.length : Int) by omega)]
  unfold isAroundB
  generalize ((rd_T60 r (l.length : Int)).f0 == (rd_T60 r 0).f0 && (rd_T60 r (l.length : Int)).f1 == (rd_T60 r 0).f1) = b1
  generalize ((rd_T60 r ((l.length : Int) + 1)).f0 == (rd_T60 r 1).f0 && (rd_T60 r ((l.length : Int) + 1)).f1 == (rd_T60 r 1).f1) = b2
  cases b1 <;> cases b2 <;> simp
theorem areAround_eq (k : Nat) (hk : 30 ≤ k) (l : List Int) (hl : l.length ≤ 9) : impl_areAround.f k l = spec_duIs.f k l ∧ ∃ b, spec_duIs.f k l = some b := by
  obtain ⟨r, h1, h2, h3⟩ := pegsBy_eq l hl
  have g1 := areAround_loop l hl r h2 h3 l.length k 0 0 (by omega) (by omega) (by rw [List.drop_zero])
  rw [duIs_eq k (by omega) l hl r h1 h3]
  exact ⟨g1, _, rfl⟩

/-- The one pure statement of the law FnExactAreAround. -/
def FnExactAreAround.Pure : Prop :=
  ∀ (l0 : List Int), l0.length ≤ maxLen → (∀ x ∈ l0, I64 x) → ∃ k, laws_FnExactAreAround.f k l0 = some true

theorem FnExactAreAround : FnExactAreAround.Pure := by
  intro l hl _
  obtain ⟨k, hk⟩ : ∃ k : Nat, 1048600 ≤ k := ⟨1048600, Nat.le_refl _⟩
  refine ⟨k + 1, ?_⟩
  unfold laws_FnExactAreAround.f
  by_cases c : 1048576 < l.length
  · rw [if_pos (by omega)]
  · rw [if_neg (by omega), toIntS_eq _ l (by omega) (by omega), Option.bind_some]
    have e : impl_AreAround.f (k + 1) l = spec_AreAround.f (k + 1) l ∧ ∃ p, spec_AreAround.f (k + 1) l = some p := by
      unfold impl_AreAround.f spec_AreAround.f
      rw [duNumber_eq _ (by omega), areNumbers_eq _ (by omega), Option.bind_some, Option.bind_some]
      by_cases n : numsB l = true
      · rw [if_pos n, if_pos n]
        have hl9 : l.length ≤ 9 := by
          unfold numsB at n
          rw [Bool.and_eq_true, decide_eq_true_eq] at n
          exact n.1.2
        obtain ⟨e1, b, e2⟩ := areAround_eq (k + 1) (by omega) l hl9
        rw [e1, e2]
        exact ⟨rfl, _, rfl⟩
      · rw [if_neg n, if_neg n]
        exact ⟨rfl, _, rfl⟩
    obtain ⟨e1, p, e2⟩ := e
    rw [e2, Option.bind_some, Option.bind_some, e1, e2, Option.bind_some, if_neg (by simp)]
    simp only [laws_FnExactAreAround.j0]
    rw [if_neg (by simp), toIntS_eq _ l (by omega) (by omega), Option.bind_some, eqIntS_self _ l (by omega) (by omega), Option.bind_some, if_pos rfl]

end Go.Proofs.Ytbejebfjeggbnaa.Pure
